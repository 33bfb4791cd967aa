import PyProof.Rows.All
import Wide.All
import OpenK.AllK
import Wide.FinOn
import KE.KDictCopyH
import KE.GoesEnum
import HandS.ForMost
import HandS.TupAny
import HandS.Walk
import HandS.IsInst
import HandS.Wide
import HandS.TupMul
import HandS.SortInts
import HandS.Zip
import HandS.Defaults
import HandS.Ends
import HandS.More
import HandS.Words
import HandS.WordsExc
import HandS.Head0
import HandS.Head1
import HandS.Head2
import HandS.HeadEnd
import HandS.HeadHook1
import HandS.HeadHook2
import PySem.Challenge.RW_dutylayers_k01_schedules_recognized
set_option Elab.async false
set_option linter.all false
set_option maxRecDepth 100000
set_option maxHeartbeats 4000000
/-! DL1: values as plain data, and what it means that the abstract heap holds them. -/
namespace DL
open PySem PySem.Spec PyProof.Rows L2

/-- plain data: what a program value is, without addresses; cell n: the n-th shared object; ro: a list that nobody writes -/
inductive D where
  | non | bl (b : Bool) | int (i : Int) | str (x : Str) | tup (ds : List D) | lst (ds : List D) | ro (ds : List D) | dct (ks vs : List D) | cell (n : Nat)

/-- a shared object -/
inductive Ob where
  | lst (ds : List D)
  | ins (C : Addr) (fs : List (Str × D))

abbrev Mu := List Ob
/-- a local name: plain data, or a list or dict that the frame alone holds -/
inductive Slot where
  | dat (d : D)
  | own (d : D)
abbrev Loc := List (Option Slot)

/-- C: where the shared objects stand; ex: the addresses that no plain data leans on -/
structure Wd where
  C : List Addr
  ex : Addr → Prop

/-- the keys of a dict -/
abbrev Lk := PySem.Leaf
def leafD : Lk → D
  | .num i => .int i
  | .text x => .str x
  | .none => .non
def leafV : Lk → V
  | .num i => .int i
  | .text x => .str x
  | .none => .non
/-- a dict as a tracked thing -/
def LDict (P : Program) (w : World) (a : Addr) (kvs : List (Lk × V)) : HO :=
  .ext fun h => kvs.length ≤ sizeLine ∧ (a == sysModules) = false ∧ ∃ vs, KV kvs vs ∧ h.DictOf (leafKind P w) a vs

section
variable (P : Program) (w : World) (K : PySem.W.Frag)

def KTup (a : Addr) (xs : List V) : Prop := ∀ H : Hp, SqT K H a xs
def KLst (a : Addr) (xs : List V) : Prop := ∀ H : Hp, SqL K H a xs
/-- a list that is read alone -/
def RoAt (W : Wd) (H : Hp) (a : Addr) (xs : List V) : Prop := (¬ W.ex a ∧ Rd H a (.lst xs)) ∨ KLst K a xs
def TupAt (W : Wd) (H : Hp) (a : Addr) (xs : List V) : Prop := (¬ W.ex a ∧ H a = some (.tup xs)) ∨ KTup K a xs

mutual
inductive Rep (W : Wd) (H : Hp) : V → D → Prop
  | non : Rep W H .non .non
  | bl (b : Bool) : Rep W H (.bl b) (.bl b)
  | int (i : Int) : Rep W H (.int i) (.int i)
  | str (x : Str) : Rep W H (.str x) (.str x)
  | tup {a : Addr} {xs : List V} {ds : List D} : TupAt K W H a xs → RepL W H xs ds → Rep W H (.ref a) (.tup ds)
  | lst {a : Addr} {xs : List V} {ds : List D} : ¬ W.ex a → H a = some (.lst xs) → RepL W H xs ds → Rep W H (.ref a) (.lst ds)
  | ro {a : Addr} {xs : List V} {ds : List D} : RoAt K W H a xs → RepL W H xs ds → Rep W H (.ref a) (.ro ds)
  | dct {a : Addr} {ls : List Lk} {xs : List V} {ks ds : List D} : ¬ W.ex a → Rd H a (LDict P w a (ls.zip xs)) → ls.length = xs.length → ks = ls.map leafD → RepL W H xs ds → Rep W H (.ref a) (.dct ks ds)
  | cell {a : Addr} {n : Nat} : W.C[n]? = some a → Rep W H (.ref a) (.cell n)
inductive RepL (W : Wd) (H : Hp) : List V → List D → Prop
  | nil : RepL W H [] []
  | cons {v : V} {vs : List V} {d : D} {ds : List D} : Rep W H v d → RepL W H vs ds → RepL W H (v :: vs) (d :: ds)
end

/-- a shared object stands at a -/
def CellAt (W : Wd) (H : Hp) (a : Addr) : Ob → Prop
  | .lst ds => ∃ vs, H a = some (.lst vs) ∧ RepL P w K W H vs ds
  | .ins C fs => ∃ dx vfs, H a = some (.ins C dx vfs) ∧ vfs.map (·.1) = fs.map (·.1) ∧ RepL P w K W H (vfs.map (·.2)) (fs.map (·.2))
/-- the list or dict that a frame alone holds -/
def OwnAt (W : Wd) (H : Hp) (a : Addr) : D → Prop
  | .lst ds => ∃ vs, H a = some (.lst vs) ∧ RepL P w K W H vs ds
  | .dct ks ds => ∃ (ls : List Lk) (vs : List V), Rd H a (LDict P w a (ls.zip vs)) ∧ ls.length = vs.length ∧ ks = ls.map leafD ∧ RepL P w K W H vs ds
  | _ => False
structure WOk (W : Wd) (H : Hp) : Prop where
  sub : ∀ a, a ∈ W.C → W.ex a
  dom : ∀ a, W.ex a → ∃ o, H a = some o
  nd : W.C.Nodup
structure Cells (W : Wd) (H : Hp) (μ : Mu) : Prop where
  len : W.C.length = μ.length
  at_ : ∀ (n : Nat) a o, W.C[n]? = some a → μ[n]? = some o → CellAt P w K W H a o
end

/-- what an expression may change: the shared objects; new things come -/
structure Tr (W : Wd) (H : Hp) (W' : Wd) (H' : Hp) : Prop where
  C : ∀ (n : Nat) a, W.C[n]? = some a → W'.C[n]? = some a
  ex : ∀ a, W.ex a → W'.ex a
  fr : ∀ a o, a ∉ W.C → H a = some o → H' a = some o ∧ a ∉ W'.C ∧ (W'.ex a → W.ex a)
/-- what a statement may change: besides them the frame's own lists and dicts -/
structure TrS (W : Wd) (H : Hp) (W' : Wd) (H' : Hp) : Prop where
  C : ∀ (n : Nat) a, W.C[n]? = some a → W'.C[n]? = some a
  fr : ∀ a o, ¬ W.ex a → H a = some o → H' a = some o ∧ ¬ W'.ex a
theorem Tr.refl {W : Wd} {H : Hp} : Tr W H W H := ⟨fun _ _ h => h, fun _ h => h, fun _ _ h e => ⟨e, h, fun x => x⟩⟩
theorem Tr.trans {W W1 W2 : Wd} {H H1 H2 : Hp} (a : Tr W H W1 H1) (b : Tr W1 H1 W2 H2) : Tr W H W2 H2 :=
  ⟨fun n x h => b.C n x (a.C n x h), fun x h => b.ex x (a.ex x h), fun x o h e =>
    have ⟨e1, h1, k1⟩ := a.fr x o h e
    have ⟨e2, h2, k2⟩ := b.fr x o h1 e1
    ⟨e2, h2, fun z => k1 (k2 z)⟩⟩
theorem TrS.refl {W : Wd} {H : Hp} : TrS W H W H := ⟨fun _ _ h => h, fun _ _ h e => ⟨e, h⟩⟩
theorem TrS.trans {W W1 W2 : Wd} {H H1 H2 : Hp} (a : TrS W H W1 H1) (b : TrS W1 H1 W2 H2) : TrS W H W2 H2 :=
  ⟨fun n x h => b.C n x (a.C n x h), fun x o h e =>
    have ⟨e1, h1⟩ := a.fr x o h e
    b.fr x o h1 e1⟩
theorem Tr.s {W W' : Wd} {H H' : Hp} (t : Tr W H W' H') (sub : ∀ a, a ∈ W.C → W.ex a) : TrS W H W' H' :=
  ⟨t.C, fun a o h e =>
    have ⟨e1, _, k1⟩ := t.fr a o (fun z => h (sub a z)) e
    ⟨e1, fun z => h (k1 z)⟩⟩
/-- all that stood stands -/
def Ext (H H' : Hp) : Prop := ∀ a o, H a = some o → H' a = some o
theorem Ext.refl {H : Hp} : Ext H H := fun _ _ h => h
theorem ext_upd {H : Hp} {p : Addr} {o : HO} (h : H p = none) : Ext H (upd H p o) := fun a u e => by
  rw [upd_ne (ne_of_none e h)]
  exact e
theorem Ext.tr {W : Wd} {H H' : Hp} (h : Ext H H') : Tr W H W H' := ⟨fun _ _ e => e, fun _ e => e, fun a o n e => ⟨h a o e, n, fun x => x⟩⟩
theorem Ext.trS {W : Wd} {H H' : Hp} (h : Ext H H') : TrS W H W H' := ⟨fun _ _ e => e, fun a o n e => ⟨h a o e, n⟩⟩
theorem Rd.ext {H H' : Hp} {a : Addr} {u : HO} (e : ∀ o, H a = some o → H' a = some o) (r : Rd H a u) : Rd H' a u := by
  rcases r with r | ⟨o, r⟩
  · exact .inl (e _ r)
  · exact .inr ⟨o, e _ r⟩
theorem Rd.some {H : Hp} {a : Addr} {u : HO} (r : Rd H a u) : ∃ o, H a = some o := by
  rcases r with r | ⟨o, r⟩
  · exact ⟨_, r⟩
  · exact ⟨_, r⟩

section
variable {P : Program} {w : World} {K : PySem.W.Frag}
theorem TupAt.sq {W : Wd} {H : Hp} {a : Addr} {xs : List V} (h : TupAt K W H a xs) : SqT K H a xs := by
  rcases h with ⟨_, h⟩ | h
  · exact .inl (.inl h)
  · exact h H
theorem TupAt.tr {W W' : Wd} {H H' : Hp} {a : Addr} {xs : List V} (t : TrS W H W' H') (h : TupAt K W H a xs) : TupAt K W' H' a xs := by
  rcases h with ⟨n, h⟩ | h
  · obtain ⟨e, m⟩ := t.fr a _ n h
    exact .inl ⟨m, e⟩
  · exact .inr h
theorem RoAt.sq {W : Wd} {H : Hp} {a : Addr} {xs : List V} (h : RoAt K W H a xs) : SqL K H a xs := by
  rcases h with ⟨_, h⟩ | h
  · exact .inl h
  · exact h H
theorem RoAt.tr {W W' : Wd} {H H' : Hp} {a : Addr} {xs : List V} (t : TrS W H W' H') (h : RoAt K W H a xs) : RoAt K W' H' a xs := by
  rcases h with ⟨n, h⟩ | h
  · obtain ⟨o, ho⟩ := Rd.some h
    exact .inl ⟨(t.fr _ _ n ho).2, Rd.ext (fun o e => (t.fr _ _ n e).1) h⟩
  · exact .inr h
mutual
theorem Rep.tr {W W' : Wd} {H H' : Hp} (t : TrS W H W' H') : ∀ {d : D} {v : V}, Rep P w K W H v d → Rep P w K W' H' v d
  | .non, _, .non => .non
  | .bl _, _, .bl _ => .bl _
  | .int _, _, .int _ => .int _
  | .str _, _, .str _ => .str _
  | .tup _, _, .tup h r => .tup (h.tr t) (r.tr t)
  | .lst _, _, .lst n h r => .lst (t.fr _ _ n h).2 (t.fr _ _ n h).1 (r.tr t)
  | .ro _, _, .ro h r => .ro (h.tr t) (r.tr t)
  | .dct _ _, _, .dct n h l m r => by
    obtain ⟨o, ho⟩ := Rd.some h
    exact .dct (t.fr _ _ n ho).2 (Rd.ext (fun o e => (t.fr _ _ n e).1) h) l m (r.tr t)
  | .cell _, _, .cell h => .cell (t.C _ _ h)
theorem RepL.tr {W W' : Wd} {H H' : Hp} (t : TrS W H W' H') : ∀ {ds : List D} {vs : List V}, RepL P w K W H vs ds → RepL P w K W' H' vs ds
  | [], _, .nil => .nil
  | _ :: _, _, .cons r s => .cons (r.tr t) (s.tr t)
end
theorem RepL.length {W : Wd} {H : Hp} : ∀ {vs : List V} {ds : List D}, RepL P w K W H vs ds → vs.length = ds.length
  | _, _, .nil => rfl
  | _, _, .cons _ s => congrArg Nat.succ s.length
theorem RepL.get {W : Wd} {H : Hp} : ∀ {vs : List V} {ds : List D} {i : Nat} {d : D}, RepL P w K W H vs ds → ds[i]? = some d → ∃ v, vs[i]? = some v ∧ Rep P w K W H v d
  | _, _, _, _, .nil, e => by simp at e
  | _, _, 0, _, .cons r _, e => by
    simp at e
    subst e
    exact ⟨_, rfl, r⟩
  | _, _, i + 1, _, .cons _ s, e => by
    obtain ⟨v, h1, h2⟩ := RepL.get (i := i) s (by simpa using e)
    exact ⟨v, by simpa using h1, h2⟩
theorem RepL.getV {W : Wd} {H : Hp} : ∀ {vs : List V} {ds : List D} {i : Nat} {v : V}, RepL P w K W H vs ds → vs[i]? = some v → ∃ d, ds[i]? = some d ∧ Rep P w K W H v d
  | _, _, _, _, .nil, e => by simp at e
  | _, _, 0, _, .cons r _, e => by
    simp at e
    subst e
    exact ⟨_, rfl, r⟩
  | _, _, i + 1, _, .cons _ s, e => by
    obtain ⟨v, h1, h2⟩ := RepL.getV (i := i) s (by simpa using e)
    exact ⟨v, by simpa using h1, h2⟩
theorem RepL.append {W : Wd} {H : Hp} : ∀ {vs us : List V} {ds es : List D}, RepL P w K W H vs ds → RepL P w K W H us es → RepL P w K W H (vs ++ us) (ds ++ es)
  | _, _, _, _, .nil, s => s
  | _, _, _, _, .cons r t, s => .cons r (t.append s)
theorem RepL.take {W : Wd} {H : Hp} : ∀ {vs : List V} {ds : List D} (n : Nat), RepL P w K W H vs ds → RepL P w K W H (vs.take n) (ds.take n)
  | _, _, 0, _ => by simp; exact .nil
  | _, _, _ + 1, .nil => .nil
  | _, _, n + 1, .cons r s => .cons r (s.take n)
theorem RepL.drop {W : Wd} {H : Hp} : ∀ {vs : List V} {ds : List D} (n : Nat), RepL P w K W H vs ds → RepL P w K W H (vs.drop n) (ds.drop n)
  | _, _, 0, r => r
  | _, _, _ + 1, .nil => .nil
  | _, _, n + 1, .cons _ s => s.drop n
theorem RepL.set {W : Wd} {H : Hp} {v : V} {d : D} (r : Rep P w K W H v d) : ∀ {vs : List V} {ds : List D} (i : Nat), RepL P w K W H vs ds → RepL P w K W H (vs.set i v) (ds.set i d)
  | _, _, _, .nil => .nil
  | _, _, 0, .cons _ s => .cons r s
  | _, _, i + 1, .cons q s => .cons q (RepL.set r i s)
theorem RepL.one {W : Wd} {H : Hp} {v : V} {d : D} (r : Rep P w K W H v d) : RepL P w K W H [v] [d] := .cons r .nil
theorem CellAt.tr {W W' : Wd} {H H' : Hp} {a : Addr} {o : Ob} (t : TrS W H W' H') (k : ∀ o, H a = some o → H' a = some o) (h : CellAt P w K W H a o) : CellAt P w K W' H' a o := by
  cases o with
  | lst ds =>
    obtain ⟨vs, e, r⟩ := h
    exact ⟨vs, k _ e, r.tr t⟩
  | ins C fs =>
    obtain ⟨dx, vfs, e, f, r⟩ := h
    exact ⟨dx, vfs, k _ e, f, r.tr t⟩
theorem OwnAt.tr {W W' : Wd} {H H' : Hp} {a : Addr} {d : D} (t : TrS W H W' H') (k : ∀ o, H a = some o → H' a = some o) (h : OwnAt P w K W H a d) : OwnAt P w K W' H' a d := by
  cases d with
  | lst ds =>
    obtain ⟨vs, e, r⟩ := h
    exact ⟨vs, k _ e, r.tr t⟩
  | dct ks ds =>
    obtain ⟨ls, vs, e, f, m, r⟩ := h
    exact ⟨ls, vs, Rd.ext k e, f, m, r.tr t⟩
  | _ => exact h.elim
theorem OwnAt.some {W : Wd} {H : Hp} {a : Addr} {d : D} (h : OwnAt P w K W H a d) : ∃ o, H a = some o := by
  cases d with
  | lst ds =>
    obtain ⟨vs, e, r⟩ := h
    exact ⟨_, e⟩
  | dct ks ds =>
    obtain ⟨ls, vs, e, _⟩ := h
    exact Rd.some e
  | _ => exact h.elim
end

/-! ### a frame -/
section
variable (P : Program) (w : World) (K : PySem.W.Frag)
/-- the state of a frame that was entered with the world W0 and the heap B -/
structure SR (W0 : Wd) (B : Hp) (W : Wd) (σ : L2.St) (H : Hp) (ρ : Loc) (μ : Mu) : Prop where
  len : σ.length = ρ.length
  dat : ∀ (i : Nat) d, ρ[i]? = some (some (.dat d)) → ∃ v, σ[i]? = some (some v) ∧ Rep P w K W H v d
  own : ∀ (i : Nat) d, ρ[i]? = some (some (.own d)) → ∃ a, σ[i]? = some (some (.ref a)) ∧ W.ex a ∧ a ∉ W.C ∧ B a = none ∧ OwnAt P w K W H a d
  inj : ∀ (i j : Nat) d e a, i ≠ j → ρ[i]? = some (some (.own d)) → ρ[j]? = some (some (.own e)) → σ[i]? = some (some (.ref a)) → σ[j]? = some (some (.ref a)) → False
  wok : WOk W H
  cel : Cells P w K W H μ
  base : Tr W0 B W H
  ent : ∀ a, W0.ex a → ∃ o, B a = some o
end
section
variable {P : Program} {w : World} {K : PySem.W.Frag} {W0 W W' : Wd} {B H H' : Hp} {σ : L2.St} {ρ : Loc} {μ μ' : Mu}
/-- behind something that leaves the frame's own things -/
theorem SR.step (s : SR P w K W0 B W σ H ρ μ) (t : Tr W H W' H') (o : WOk W' H') (c : Cells P w K W' H' μ') : SR P w K W0 B W' σ H' ρ μ' where
  len := s.len
  dat := fun i d e => let ⟨v, h1, h2⟩ := s.dat i d e; ⟨v, h1, h2.tr (t.s s.wok.sub)⟩
  own := fun i d e =>
    let ⟨a, h1, h2, h3, h4, h5⟩ := s.own i d e
    let ⟨ob, ho⟩ := h5.some
    ⟨a, h1, t.ex a h2, (t.fr a ob h3 ho).2.1, h4, h5.tr (t.s s.wok.sub) fun o e => (t.fr a o h3 e).1⟩
  inj := s.inj
  wok := o
  cel := c
  base := s.base.trans t
  ent := s.ent
theorem WOk.ext (s : WOk W H) (e : Ext H H') : WOk W H' := ⟨s.sub, fun a h => let ⟨o, q⟩ := s.dom a h; ⟨o, e a o q⟩, s.nd⟩
theorem Cells.ext (s : Cells P w K W H μ) (e : Ext H H') : Cells P w K W H' μ := ⟨s.len, fun n a o h1 h2 => (s.at_ n a o h1 h2).tr e.trS (fun o q => e a o q)⟩
/-- new things have come -/
theorem SR.ext (s : SR P w K W0 B W σ H ρ μ) (e : Ext H H') : SR P w K W0 B W σ H' ρ μ := s.step e.tr (s.wok.ext e) (s.cel.ext e)
theorem SR.trs (s : SR P w K W0 B W σ H ρ μ) {W' : Wd} {H' : Hp} (t : Tr W H W' H') : TrS W H W' H' := t.s s.wok.sub

/-- W, and p besides -/
def Wd.put (W : Wd) (p : Addr) : Wd := ⟨W.C, fun a => W.ex a ∨ a = p⟩
/-- W without p -/
def Wd.cut (W : Wd) (p : Addr) : Wd := ⟨W.C, fun a => W.ex a ∧ a ≠ p⟩
theorem put_tr {p : Addr} (h : H p = none) (e : Ext H H') : Tr W H (W.put p) H' :=
  ⟨fun _ _ h => h, fun _ h => .inl h, fun a o n q => ⟨e a o q, n, fun z => by
    rcases z with z | z
    · exact z
    · subst z
      rw [h] at q
      cases q⟩⟩
theorem SR.put {p : Addr} (s : SR P w K W0 B W σ H ρ μ) (h : H p = none) (e : Ext H H') (hp : ∃ o, H' p = some o) : SR P w K W0 B (W.put p) σ H' ρ μ := by
  have t : Tr W H (W.put p) H' := put_tr h e
  refine s.step t ⟨fun a z => .inl (s.wok.sub a z), fun a z => ?_, s.wok.nd⟩ ⟨s.cel.len, fun n a o h1 h2 => (s.cel.at_ n a o h1 h2).tr (t.s s.wok.sub) fun o q => e a o q⟩
  rcases z with z | z
  · obtain ⟨o, q⟩ := s.wok.dom a z
    exact ⟨o, e a o q⟩
  · subst z
    exact hp
theorem cut_trS {p : Addr} : TrS W H (W.cut p) H := ⟨fun _ _ h => h, fun a o n e => ⟨e, fun z => n z.1⟩⟩
theorem WOk.cut {p : Addr} (s : WOk W H) (hp : p ∉ W.C) : WOk (W.cut p) H :=
  ⟨fun a z => ⟨s.sub a z, fun e => hp (e ▸ z)⟩, fun a z => s.dom a z.1, s.nd⟩
theorem Cells.cut {p : Addr} (s : Cells P w K W H μ) : Cells P w K (W.cut p) H μ := ⟨s.len, fun n a o h1 h2 => (s.at_ n a o h1 h2).tr cut_trS fun _ q => q⟩
/-- the new p, that was kept apart, becomes plain data -/
theorem SR.cut {p : Addr} (s0 : SR P w K W0 B W σ H ρ μ) (s : SR P w K W0 B W' σ H' ρ μ') (hn : H p = none) (hp : p ∉ W'.C) : SR P w K W0 B (W'.cut p) σ H' ρ μ' where
  len := s.len
  dat := fun i d e => let ⟨v, h1, h2⟩ := s.dat i d e; ⟨v, h1, h2.tr cut_trS⟩
  own := fun i d e => by
    obtain ⟨a, h1, h2, h3, h4, h5⟩ := s.own i d e
    obtain ⟨a', k1, k2, k3, k4, k5⟩ := s0.own i d e
    have ea : a' = a := by
      rw [k1] at h1
      cases h1
      rfl
    subst ea
    refine ⟨a', h1, ⟨h2, fun z => ?_⟩, h3, h4, h5.tr cut_trS fun _ q => q⟩
    obtain ⟨o, ho⟩ := k5.some
    rw [z, hn] at ho
    cases ho
  inj := s.inj
  wok := s.wok.cut hp
  cel := s.cel.cut
  base := ⟨s.base.C, fun a z => ⟨s.base.ex a z, fun e => by
    obtain ⟨o, ho⟩ := s0.wok.dom a (s0.base.ex a z)
    rw [e, hn] at ho
    cases ho⟩, fun a o n e => let ⟨e1, h1, k1⟩ := s.base.fr a o n e; ⟨e1, h1, fun z => k1 z.1⟩⟩
  ent := s.ent
theorem cut_tr {p : Addr} (dom : ∀ a, W.ex a → ∃ o, H a = some o) (hn : H p = none) (t : Tr W H W' H') : Tr W H (W'.cut p) H' :=
  ⟨t.C, fun a z => ⟨t.ex a z, fun e => by
    obtain ⟨o, ho⟩ := dom a z
    rw [e, hn] at ho
    cases ho⟩, fun a o n e => let ⟨e1, h1, k1⟩ := t.fr a o n e; ⟨e1, h1, fun z => k1 z.1⟩⟩
theorem OwnAt.rep {p : Addr} {d : D} (h : OwnAt P w K W H p d) : Rep P w K (W.cut p) H (.ref p) d := by
  have n : ¬ (W.cut p).ex p := fun z => z.2 rfl
  cases d with
  | lst ds =>
    obtain ⟨vs, e, r⟩ := h
    exact .lst n e (r.tr cut_trS)
  | dct ks ds =>
    obtain ⟨ls, vs, e, f, m, r⟩ := h
    exact .dct n e f m (r.tr cut_trS)
  | _ => exact h.elim
end
end DL

set_option Elab.async false
set_option linter.all false
set_option maxRecDepth 100000
set_option maxHeartbeats 4000000
/-! DL2: expressions over plain data. -/
namespace DL
open PySem PySem.Spec PyProof.Rows L2

abbrev FE := Loc → Mu → (D → Mu → Prop) → Prop
abbrev FT := Loc → Mu → (Bool → Mu → Prop) → Prop
abbrev FA := Loc → Mu → (List D → Mu → Prop) → Prop

section
variable (P : Program) (w : World) (K : PySem.W.Frag)
/-- plain data, or the frame's own list or dict -/
def RepO (W : Wd) (H : Hp) (v : V) (d : D) : Prop := Rep P w K W H v d ∨ ∃ a, v = .ref a ∧ a ∉ W.C ∧ OwnAt P w K W H a d
def SimE (t : TE) (f : FE) : Prop := ∀ {W0 : Wd} {B : Hp} {W : Wd} {σ : L2.St} {H : Hp} {ρ : Loc} {μ : Mu} {q : D → Mu → Prop} {Q : VK}, SR P w K W0 B W σ H ρ μ → f ρ μ q →
  (∀ d μ' v W' H', q d μ' → Tr W H W' H' → SR P w K W0 B W' σ H' ρ μ' → Rep P w K W' H' v d → Q v H') → t σ H Q
def SimO (t : TE) (f : FE) : Prop := ∀ {W0 : Wd} {B : Hp} {W : Wd} {σ : L2.St} {H : Hp} {ρ : Loc} {μ : Mu} {q : D → Mu → Prop} {Q : VK}, SR P w K W0 B W σ H ρ μ → f ρ μ q →
  (∀ d μ' v W' H', q d μ' → Tr W H W' H' → SR P w K W0 B W' σ H' ρ μ' → RepO P w K W' H' v d → Q v H') → t σ H Q
/-- what comes is new, and the frame alone holds it -/
def SimF (t : TE) (f : FE) : Prop := ∀ {W0 : Wd} {B : Hp} {W : Wd} {σ : L2.St} {H : Hp} {ρ : Loc} {μ : Mu} {q : D → Mu → Prop} {Q : VK}, SR P w K W0 B W σ H ρ μ → f ρ μ q →
  (∀ d μ' p W' H', q d μ' → Tr W H W' H' → SR P w K W0 B W' σ H' ρ μ' → H p = none → W'.ex p → p ∉ W'.C → OwnAt P w K W' H' p d → Q (.ref p) H') → t σ H Q
def SimT (t : TT) (f : FT) : Prop := ∀ {W0 : Wd} {B : Hp} {W : Wd} {σ : L2.St} {H : Hp} {ρ : Loc} {μ : Mu} {q : Bool → Mu → Prop} {Q : Bool → Hp → Prop}, SR P w K W0 B W σ H ρ μ → f ρ μ q →
  (∀ b μ' W' H', q b μ' → Tr W H W' H' → SR P w K W0 B W' σ H' ρ μ' → Q b H') → t σ H Q
def SimA (n : Nat) (t : TA) (f : FA) : Prop := ∀ {W0 : Wd} {B : Hp} {W : Wd} {σ : L2.St} {H : Hp} {ρ : Loc} {μ : Mu} {q : List D → Mu → Prop} {Q : List V → Hp → Prop}, SR P w K W0 B W σ H ρ μ → f ρ μ q →
  (∀ ds μ' vs W' H', ds.length = n → q ds μ' → Tr W H W' H' → SR P w K W0 B W' σ H' ρ μ' → RepL P w K W' H' vs ds → Q vs H') → t σ H Q
/-- an operator by values -/
def SimR2 (r : R2) (p : D → D → (D → Prop) → Prop) : Prop := ∀ {W0 : Wd} {B : Hp} {W : Wd} {σ : L2.St} {H : Hp} {ρ : Loc} {μ : Mu} {x y : V} {dx dy : D} {q : D → Prop} {Q : VK}, SR P w K W0 B W σ H ρ μ →
  RepO P w K W H x dx → RepO P w K W H y dy → p dx dy q →
  (∀ d v W' H', q d → Tr W H W' H' → SR P w K W0 B W' σ H' ρ μ → Rep P w K W' H' v d → Q v H') → r x y H Q
def SimC1 (r : List V → Hp → VK → Prop) (p : D → (D → Prop) → Prop) : Prop := ∀ {W0 : Wd} {B : Hp} {W : Wd} {σ : L2.St} {H : Hp} {ρ : Loc} {μ : Mu} {x : V} {dx : D} {q : D → Prop} {Q : VK}, SR P w K W0 B W σ H ρ μ →
  RepO P w K W H x dx → p dx q →
  (∀ d v W' H', q d → Tr W H W' H' → SR P w K W0 B W' σ H' ρ μ → Rep P w K W' H' v d → Q v H') → r [x] H Q
def SimC1F (r : List V → Hp → VK → Prop) (p : D → (D → Prop) → Prop) : Prop := ∀ {W0 : Wd} {B : Hp} {W : Wd} {σ : L2.St} {H : Hp} {ρ : Loc} {μ : Mu} {x : V} {dx : D} {q : D → Prop} {Q : VK}, SR P w K W0 B W σ H ρ μ →
  RepO P w K W H x dx → p dx q →
  (∀ d a W' H', q d → Tr W H W' H' → SR P w K W0 B W' σ H' ρ μ → H a = none → W'.ex a → a ∉ W'.C → OwnAt P w K W' H' a d → Q (.ref a) H') → r [x] H Q
end

structure DE (X : Cx) (e : Expr) (t : TE) (f : FE) : Prop where
  pe : PE X e t
  sim : SimE X.prog X.w X.K t f
structure DO (X : Cx) (e : Expr) (t : TE) (f : FE) : Prop where
  pe : PE X e t
  sim : SimO X.prog X.w X.K t f
structure DF (X : Cx) (e : Expr) (t : TE) (f : FE) : Prop where
  pe : PE X e t
  sim : SimF X.prog X.w X.K t f
structure DT (X : Cx) (e : Expr) (t : TT) (f : FT) : Prop where
  pt : PT X e t
  sim : SimT X.prog X.w X.K t f
structure DW (X : Cx) (e : Expr) (t : TT) (f : FT) : Prop where
  pw : PW X e t
  sim : SimT X.prog X.w X.K t f
structure DA (X : Cx) (es : List Expr) (t : TA) (f : FA) : Prop where
  pa : PA X es t
  sim : SimA X.prog X.w X.K es.length t f

section
variable {P : Program} {w : World} {K : PySem.W.Frag} {W0 W W' : Wd} {B H H' : Hp} {σ : L2.St} {ρ : Loc} {μ μ' : Mu}
theorem Rep.o {v : V} {d : D} (h : Rep P w K W H v d) : RepO P w K W H v d := .inl h
theorem RepO.tr {v : V} {d : D} (t : Tr W H W' H') (sub : ∀ a, a ∈ W.C → W.ex a) (h : RepO P w K W H v d) : RepO P w K W' H' v d := by
  rcases h with h | ⟨a, rfl, n, h⟩
  · exact .inl (h.tr (t.s sub))
  · obtain ⟨o, ho⟩ := h.some
    exact .inr ⟨a, rfl, (t.fr a o n ho).2.1, h.tr (t.s sub) fun o e => (t.fr a o n e).1⟩
theorem RepO.int {v : V} {i : Int} (h : RepO P w K W H v (.int i)) : v = .int i := by
  rcases h with h | ⟨a, _, _, h⟩
  · cases h
    rfl
  · exact h.elim
theorem RepO.str {v : V} {x : Str} (h : RepO P w K W H v (.str x)) : v = .str x := by
  rcases h with h | ⟨a, _, _, h⟩
  · cases h
    rfl
  · exact h.elim
theorem RepO.bl {v : V} {b : Bool} (h : RepO P w K W H v (.bl b)) : v = .bl b := by
  rcases h with h | ⟨a, _, _, h⟩
  · cases h
    rfl
  · exact h.elim
theorem RepO.non {v : V} (h : RepO P w K W H v .non) : v = .non := by
  rcases h with h | ⟨a, _, _, h⟩
  · cases h
    rfl
  · exact h.elim
theorem RepO.tup {v : V} {ds : List D} (h : RepO P w K W H v (.tup ds)) : ∃ a xs, v = .ref a ∧ TupAt K W H a xs ∧ RepL P w K W H xs ds := by
  rcases h with h | ⟨a, _, _, h⟩
  · cases h with
    | tup h1 h2 => exact ⟨_, _, rfl, h1, h2⟩
  · exact h.elim
theorem RepO.lst {v : V} {ds : List D} (h : RepO P w K W H v (.lst ds)) : ∃ a xs, v = .ref a ∧ H a = some (.lst xs) ∧ RepL P w K W H xs ds := by
  rcases h with h | ⟨a, rfl, _, h⟩
  · cases h with
    | lst h0 h1 h2 => exact ⟨_, _, rfl, h1, h2⟩
  · obtain ⟨vs, e, r⟩ := h
    exact ⟨a, vs, rfl, e, r⟩
theorem RepO.ro {v : V} {ds : List D} (h : RepO P w K W H v (.ro ds)) : ∃ a xs, v = .ref a ∧ SqL K H a xs ∧ RepL P w K W H xs ds := by
  rcases h with h | ⟨a, rfl, _, h⟩
  · cases h with
    | ro h1 h2 => exact ⟨_, _, rfl, h1.sq, h2⟩
  · exact h.elim
theorem RepO.dct {v : V} {ks ds : List D} (h : RepO P w K W H v (.dct ks ds)) : ∃ (a : Addr) (ls : List Lk) (xs : List V), v = .ref a ∧ Rd H a (LDict P w a (ls.zip xs)) ∧ ls.length = xs.length ∧ ks = ls.map leafD ∧ RepL P w K W H xs ds := by
  rcases h with h | ⟨a, rfl, _, h⟩
  · cases h with
    | dct h0 h1 h2 h3 h4 => exact ⟨_, _, _, rfl, h1, h2, h3, h4⟩
  · obtain ⟨ls, vs, e, f, m, r⟩ := h
    exact ⟨a, ls, vs, rfl, e, f, m, r⟩
/-- a new list, tuple at p -/
theorem own_new {p : Addr} {o : HO} (s : SR P w K W0 B W σ H ρ μ) (h : H p = none) : SR P w K W0 B (W.put p) σ (upd H p o) ρ μ ∧ Tr W H (W.put p) (upd H p o) ∧ (W.put p).ex p ∧ p ∉ (W.put p).C := by
  refine ⟨s.put h (ext_upd h) ⟨_, upd_same⟩, put_tr h (ext_upd h), .inr rfl, fun z => ?_⟩
  obtain ⟨o, ho⟩ := s.wok.dom p (s.wok.sub p z)
  rw [h] at ho
  cases ho
theorem not_ex (s : SR P w K W0 B W σ H ρ μ) {p : Addr} (h : H p = none) : ¬ W.ex p := fun z => by
  obtain ⟨o, ho⟩ := s.wok.dom p z
  rw [h] at ho
  cases ho
theorem rep_newT {p : Addr} {xs : List V} {ds : List D} (s : SR P w K W0 B W σ H ρ μ) (h : H p = none) (r : RepL P w K W H xs ds) : Rep P w K W (upd H p (.tup xs)) (.ref p) (.tup ds) :=
  .tup (.inl ⟨not_ex s h, upd_same⟩) (r.tr (ext_upd h).trS)
theorem rep_newL {p : Addr} {xs : List V} {ds : List D} (s : SR P w K W0 B W σ H ρ μ) (h : H p = none) (r : RepL P w K W H xs ds) : Rep P w K W (upd H p (.lst xs)) (.ref p) (.lst ds) :=
  .lst (not_ex s h) upd_same (r.tr (ext_upd h).trS)
theorem own_newL {p : Addr} {xs : List V} {ds : List D} (s : SR P w K W0 B W σ H ρ μ) (h : H p = none) (r : RepL P w K W H xs ds) : OwnAt P w K (W.put p) (upd H p (.lst xs)) p (.lst ds) :=
  ⟨xs, upd_same, r.tr (put_tr h (ext_upd h) |>.s s.wok.sub)⟩
end

section
variable {X : Cx} {e a b : Expr} {t ta tb : TE} {f g : FE} {pos : Pos}
theorem DE.o (h : DE X e t f) : DO X e t f := ⟨h.pe, fun s hf k => h.sim s hf fun d μ' v W' H' q tr s' r => k d μ' v W' H' q tr s' (.inl r)⟩
theorem DF.de (h : DF X e t f) : DE X e t f := ⟨h.pe, fun s hf k => h.sim s hf fun d μ' p W' H' q tr s' hn he hc r =>
  k d μ' (.ref p) (W'.cut p) H' q (cut_tr s.wok.dom hn tr) (s.cut s' hn hc) r.rep⟩

/-! ### names, constants -/
def datD (s : Option (Option Slot)) (k : D → Prop) : Prop := match s with
  | some (some (.dat d)) => k d
  | _ => False
def ownD (s : Option (Option Slot)) (k : D → Prop) : Prop := match s with
  | some (some (.own d)) => k d
  | _ => False
theorem datD_of {s : Option (Option Slot)} {k : D → Prop} (h : datD s k) : ∃ d, s = some (some (.dat d)) ∧ k d := by
  unfold datD at h
  split at h
  · exact ⟨_, rfl, h⟩
  · exact h.elim
theorem ownD_of {s : Option (Option Slot)} {k : D → Prop} (h : ownD s k) : ∃ d, s = some (some (.own d)) ∧ k d := by
  unfold ownD at h
  split at h
  · exact ⟨_, rfl, h⟩
  · exact h.elim
def eVar (i : Nat) : FE := fun ρ μ q => datD ρ[i]? fun d => q d μ
def eOwn (i : Nat) : FE := fun ρ μ q => ownD ρ[i]? fun d => q d μ
def eC (d : D) : FE := fun _ μ q => q d μ
theorem de_var (i : Nat) {x : Str} (hN : X.N[i]? = some x := by rfl) (hv : Vis X.env.scope x := by first | exact Or.inl rfl | exact Or.inr (Or.inl rfl) | exact Or.inr (Or.inr rfl)) (hd : (x == ("__debug__" : Str)) = false := by decide)
    (hcd : (x == ("__classdict__" : Str)) = false := by decide) : DE X (.Name x pos) (tVar i) (eVar i) := by
  refine ⟨pe_var hN hv hd hcd, fun s hf k => ?_⟩
  obtain ⟨d, e, q⟩ := datD_of hf
  obtain ⟨v, h1, h2⟩ := s.dat i d e
  exact ⟨v, h1, k d _ v _ _ q Tr.refl s h2⟩
theorem do_own (i : Nat) {x : Str} (hN : X.N[i]? = some x := by rfl) (hv : Vis X.env.scope x := by first | exact Or.inl rfl | exact Or.inr (Or.inl rfl) | exact Or.inr (Or.inr rfl)) (hd : (x == ("__debug__" : Str)) = false := by decide)
    (hcd : (x == ("__classdict__" : Str)) = false := by decide) : DO X (.Name x pos) (tVar i) (eOwn i) := by
  refine ⟨pe_var hN hv hd hcd, fun s hf k => ?_⟩
  obtain ⟨d, e, q⟩ := ownD_of hf
  obtain ⟨a, h1, h2, h3, h4, h5⟩ := s.own i d e
  exact ⟨_, h1, k d _ _ _ _ q Tr.refl s (.inr ⟨a, rfl, h3, h5⟩)⟩
theorem de_int {i j} : DE X (.Constant (.int i) j pos) (tC (.int i)) (eC (.int i)) := ⟨pe_int, fun s hf k => k _ _ _ _ _ hf Tr.refl s (.int i)⟩
theorem de_bl {b j} : DE X (.Constant (.bool b) j pos) (tC (.bl b)) (eC (.bl b)) := ⟨pe_bl, fun s hf k => k _ _ _ _ _ hf Tr.refl s (.bl b)⟩
theorem de_non {j} : DE X (.Constant .none j pos) (tC .non) (eC .non) := ⟨pe_non, fun s hf k => k _ _ _ _ _ hf Tr.refl s .non⟩
theorem de_str {x j} : DE X (.Constant (.str x) j pos) (tC (.str x)) (eC (.str x)) := ⟨pe_str, fun s hf k => k _ _ _ _ _ hf Tr.refl s (.str x)⟩
/-- a constant of the module: an int, a text -/
theorem de_gint {x : Str} {i : Int} (hm : ∃ u, X.mg x = some (.int i u)) (hg : Gl X x := by rfl) (hd : (x == ("__debug__" : Str)) = false := by decide) : DE X (.Name x pos) (tC (.int i)) (eC (.int i)) :=
  let ⟨u, h⟩ := hm
  ⟨pe_glob hg h ⟨u, rfl⟩ hd, fun s hf k => k _ _ _ _ _ hf Tr.refl s (.int i)⟩
theorem de_gstr {x z : Str} (hm : ∃ u, X.mg x = some (.str z u)) (hg : Gl X x := by rfl) (hd : (x == ("__debug__" : Str)) = false := by decide) : DE X (.Name x pos) (tC (.str z)) (eC (.str z)) :=
  let ⟨u, h⟩ := hm
  ⟨pe_glob hg h ⟨u, rfl⟩ hd, fun s hf k => k _ _ _ _ _ hf Tr.refl s (.str z)⟩
/-- a tuple of flat things that stands in the module -/
def flatVD : V → D
  | .int i => .int i
  | .str x => .str x
  | .bl b => .bl b
  | _ => .non
theorem repFlat {P : Program} {w : World} {K : PySem.W.Frag} {W : Wd} {H : Hp} : ∀ {vs : List V}, vs.all flatV = true → RepL P w K W H vs (vs.map flatVD)
  | [], _ => .nil
  | v :: vs, h => by
    obtain ⟨h1, h2⟩ := Bool.and_eq_true_iff.mp (show (flatV v && vs.all flatV) = true from h)
    refine .cons ?_ (repFlat h2)
    cases v with
    | non => exact .non
    | bl b => exact .bl b
    | int i => exact .int i
    | str x => exact .str x
    | _ => cases h1
theorem de_gtup {x : Str} {c : Addr} (vs : List V) (hm : X.mg x = some (.ref c)) (hk : KTup X.K c vs) (hf : vs.all flatV = true := by rfl) (hg : Gl X x := by rfl) (hd : (x == ("__debug__" : Str)) = false := by decide) :
    DE X (.Name x pos) (tC (.ref c)) (eC (.tup (vs.map flatVD))) :=
  ⟨pe_glob hg hm rfl hd, fun s hq k => k _ _ _ _ _ hq Tr.refl s (.tup (.inr hk) (repFlat hf))⟩

/-! ### operators -/
def eBin (p : D → D → (D → Prop) → Prop) (f g : FE) : FE := fun ρ μ q => f ρ μ fun x μ1 => g ρ μ1 fun y μ2 => p x y fun d => q d μ2
theorem sim_bin {P : Program} {w : World} {K : PySem.W.Frag} {r : R2} {p : D → D → (D → Prop) → Prop} (ha : SimO P w K ta f) (hb : SimO P w K tb g) (hr : SimR2 P w K r p) : SimE P w K (tOp r ta tb) (eBin p f g) := by
  intro W0 B W σ H ρ μ q Q s hf k
  refine ha s hf fun x μ1 v W1 H1 q1 t1 s1 r1 => ?_
  refine hb s1 q1 fun y μ2 u W2 H2 q2 t2 s2 r2 => ?_
  exact hr s2 (r1.tr t2 s1.wok.sub) r2 q2 fun d z W3 H3 q3 t3 s3 r3 => k d μ2 z W3 H3 q3 ((t1.trans t2).trans t3) s3 r3
theorem de_bin {op : Operator} {r : R2} {p : D → D → (D → Prop) → Prop} (ho : OpR X (binaryOp op) r) (hr : SimR2 X.prog X.w X.K r p) (ha : DO X a ta f) (hb : DO X b tb g) : DE X (.BinOp a op b pos) (tOp r ta tb) (eBin p f g) :=
  ⟨pe_op ho ha.pe hb.pe, sim_bin ha.sim hb.sim hr⟩
theorem de_cmp {op : CmpOp} {r : R2} {p : D → D → (D → Prop) → Prop} (ho : OpR X (compareOp op) r) (hr : SimR2 X.prog X.w X.K r p) (ha : DO X a ta f) (hb : DO X b tb g) (hm : behindInMarks op b = false) : DE X (.Compare a [op] [b] pos) (tOp r ta tb) (eBin p f g) :=
  ⟨pe_cmpR ho ha.pe hb.pe hm, sim_bin ha.sim hb.sim hr⟩
end
end DL

set_option Elab.async false
set_option linter.all false
set_option maxRecDepth 100000
set_option maxHeartbeats 4000000
/-! DL3: operators and built-ins over plain data. -/
namespace DL
open PySem PySem.Spec PyProof.Rows L2

/-! ### what the operators are -/
def opAdd : D → D → (D → Prop) → Prop
  | .int i, .int j, q => q (.int (i + j))
  | .str a, .str b, q => a.length + b.length ≤ sizeLine ∧ q (.str (a ++ b))
  | .tup a, .tup b, q => a.length + b.length ≤ sizeLine ∧ q (.tup (a ++ b))
  | .lst a, .lst b, q => a.length + b.length ≤ sizeLine ∧ q (.lst (a ++ b))
  | _, _, _ => False
def opSub : D → D → (D → Prop) → Prop
  | .int i, .int j, q => q (.int (i - j))
  | _, _, _ => False
def opMul : D → D → (D → Prop) → Prop
  | .int i, .int j, q => CMul i j ∧ q (.int (i * j))
  | .tup a, .int k, q => a ≠ [] ∧ 2 ≤ k ∧ k ≤ 1000 ∧ a.length ≤ 1000 ∧ q (.tup (List.replicate k.toNat a).flatten)
  | _, _, _ => False
/-- a divisor above 0 and below 2 ^ 64 -/
def opDiv : D → D → (D → Prop) → Prop
  | .int i, .int j, q => 0 < j ∧ j < 2 ^ 64 ∧ q (.int (i / j))
  | _, _, _ => False
def opMod : D → D → (D → Prop) → Prop
  | .int i, .int j, q => 0 < j ∧ q (.int (i % j))
  | _, _, _ => False
def opPow : D → D → (D → Prop) → Prop
  | .int i, .int j, q => CPow i j ∧ q (.int (i ^ j.toNat))
  | _, _, _ => False
def opLt : D → D → (D → Prop) → Prop
  | .int i, .int j, q => q (.bl (decide (i < j)))
  | .str a, .str b, q => q (.bl (decide (a.cps.toList < b.cps.toList)))
  | _, _, _ => False
def opLe : D → D → (D → Prop) → Prop
  | .int i, .int j, q => q (.bl (decide (i ≤ j)))
  | _, _, _ => False
def opGt : D → D → (D → Prop) → Prop
  | .int i, .int j, q => q (.bl (decide (j < i)))
  | _, _, _ => False
def opGe : D → D → (D → Prop) → Prop
  | .int i, .int j, q => q (.bl (decide (j ≤ i)))
  | _, _, _ => False
mutual
/-- as the library's data; dicts and shared objects are none -/
def D.py : D → PyData
  | .non => .none
  | .bl b => .bool b
  | .int i => .int i
  | .str x => .str x
  | .tup ds => .tuple (pyL ds)
  | .lst ds => .list (pyL ds)
  | .ro ds => .list (pyL ds)
  | .dct _ _ => .none
  | .cell _ => .none
def pyL : List D → List PyData
  | [] => []
  | d :: ds => d.py :: pyL ds
end
mutual
/-- plain data of a depth below n -/
def D.okd : Nat → D → Bool
  | _, .non => true
  | _, .bl _ => true
  | _, .int _ => true
  | _, .str x => PyData.strOk x
  | n + 1, .tup ds => okL n ds
  | n + 1, .lst ds => okL n ds
  | n + 1, .ro ds => okL n ds
  | _, _ => false
def okL : Nat → List D → Bool
  | _, [] => true
  | n, d :: ds => d.okd n && okL n ds
end
def eqb (x y : D) : Bool := PyData.eqv x.py y.py
/-- two scalars -/
def scD : D → D → Option Bool
  | .non, .non => some true
  | .non, .int _ => some false
  | .int _, .non => some false
  | .non, .bl _ => some false
  | .bl _, .non => some false
  | .non, .str _ => some false
  | .str _, .non => some false
  | .int a, .int b => some (decide (a = b))
  | .bl a, .bl b => some (decide (a = b))
  | .str a, .str b => some (decide (a = b))
  | .int _, .str _ => some false
  | .str _, .int _ => some false
  | .bl _, .str _ => some false
  | .str _, .bl _ => some false
  | _, _ => none
def opEq : D → D → (D → Prop) → Prop := fun x y q => match scD x y with
  | some b => q (.bl b)
  | none => x.okd 60 = true ∧ y.okd 60 = true ∧ q (.bl (eqb x y))
def opNe : D → D → (D → Prop) → Prop := fun x y q => match scD x y with
  | some b => q (.bl (!b))
  | none => x.okd 60 = true ∧ y.okd 60 = true ∧ q (.bl (!eqb x y))
def isNonD : D → Bool
  | .non => true
  | _ => false
def opIs : D → D → (D → Prop) → Prop
  | x, .non, q => q (.bl (isNonD x))
  | _, _, _ => False
def opIsNot : D → D → (D → Prop) → Prop
  | x, .non, q => q (.bl (!isNonD x))
  | _, _, _ => False
def flatD : D → Bool
  | .non => true
  | .bl _ => true
  | .int _ => true
  | .str _ => true
  | _ => false
def eqF : D → D → Bool
  | .non, .non => true
  | .bl a, .bl b => a == b
  | .bl a, .int b => (if a then 1 else 0) == b
  | .int a, .bl b => a == (if b then 1 else 0)
  | .int a, .int b => a == b
  | .str a, .str b => a == b
  | _, _ => false
def inL (x : D) (ds : List D) : Bool := ds.any fun y => eqF y x
def opInG (neg : Bool) : D → D → (D → Prop) → Prop
  | x, .tup ds, q => flatD x = true ∧ ds.all flatD = true ∧ q (.bl (if neg then !inL x ds else inL x ds))
  | x, .lst ds, q => flatD x = true ∧ ds.all flatD = true ∧ q (.bl (if neg then !inL x ds else inL x ds))
  | .str c, .str z, q => ∃ n, c = ⟨#[n]⟩ ∧ q (.bl (if neg then !decide (n ∈ z.cps.toList) else decide (n ∈ z.cps.toList)))
  | _, _, _ => False

section
variable {P : Program} {w : World} {K : PySem.W.Frag} {W0 W W' : Wd} {B H H' : Hp} {σ : L2.St} {ρ : Loc} {μ μ' : Mu}
/-- two ints -/
theorem simI2 {C : Int → Int → Prop} {g : Int → Int → V} {h : Int → Int → D} {p : D → D → (D → Prop) → Prop} (hg : ∀ (W : Wd) (H : Hp) i j, Rep P w K W H (g i j) (h i j))
    (hp : ∀ x y q, p x y q → ∃ i j, x = .int i ∧ y = .int j ∧ C i j ∧ q (h i j)) : SimR2 P w K (rI C g) p := by
  intro W0 B W σ H ρ μ x y dx dy q Q s rx ry hq k
  obtain ⟨i, j, rfl, rfl, c, hq⟩ := hp _ _ _ hq
  exact ⟨i, j, rx.int, ry.int, c, k _ _ _ _ hq Tr.refl s (hg _ _ i j)⟩
theorem sim_or {r r' : R2} {p p' : D → D → (D → Prop) → Prop} (h : SimR2 P w K r p) (h' : SimR2 P w K r' p') : SimR2 P w K (fun x y H Q => r x y H Q ∨ r' x y H Q) (fun x y q => p x y q ∨ p' x y q) := by
  intro W0 B W σ H ρ μ x y dx dy q Q s rx ry hq k
  rcases hq with hq | hq
  · exact .inl (h s rx ry hq k)
  · exact .inr (h' s rx ry hq k)
theorem sim_imp {r : R2} {p p' : D → D → (D → Prop) → Prop} (h : SimR2 P w K r p) (hp : ∀ x y q, p' x y q → p x y q) : SimR2 P w K r p' :=
  fun s rx ry hq k => h s rx ry (hp _ _ _ hq) k
def pI (C : Int → Int → Prop) (h : Int → Int → D) : D → D → (D → Prop) → Prop := fun x y q => ∃ i j, x = .int i ∧ y = .int j ∧ C i j ∧ q (h i j)
theorem sim_pI {C : Int → Int → Prop} {g : Int → Int → V} {h : Int → Int → D} (hg : ∀ (W : Wd) (H : Hp) i j, Rep P w K W H (g i j) (h i j)) : SimR2 P w K (rI C g) (pI C h) := simI2 hg fun _ _ _ h => h
theorem sim_I0 {g : Int → Int → V} {h : Int → Int → D} (hg : ∀ (W : Wd) (H : Hp) i j, Rep P w K W H (g i j) (h i j)) : SimR2 P w K (rI0 g) (pI (fun _ _ => True) h) := by
  intro W0 B W σ H ρ μ x y dx dy q Q s rx ry hq k
  obtain ⟨i, j, rfl, rfl, _, hq⟩ := hq
  exact ⟨i, j, rx.int, ry.int, k _ _ _ _ hq Tr.refl s (hg _ _ i j)⟩
abbrev rAddS : R2 := fun x y H Q => ∃ i j, x = .str i ∧ y = .str j ∧ i.length + j.length ≤ sizeLine ∧ Q (.str (i ++ j)) H
abbrev rAdd4 (K : PySem.W.Frag) : R2 := fun x y H Q => rI0 (fun i j => .int (i + j)) x y H Q ∨ (rAddS x y H Q ∨ (rCatA K x y H Q ∨ rCat x y H Q))
theorem op_add4 {X : Cx} : OpR X (binaryOp .Add) (rAdd4 X.K) := op_add.or (op_add_str.or (op_catA.or op_cat))
theorem sim_add : SimR2 P w K (rAdd4 K) opAdd := by
  intro W0 B W σ H ρ μ x y dx dy q Q s rx ry hq k
  unfold opAdd at hq
  split at hq
  · exact .inl ⟨_, _, rx.int, ry.int, k _ _ _ _ hq Tr.refl s (.int _)⟩
  · exact .inr (.inl ⟨_, _, rx.str, ry.str, hq.1, k _ _ _ _ hq.2 Tr.refl s (.str _)⟩)
  · obtain ⟨a, xs, rfl, ha, ra⟩ := rx.tup
    obtain ⟨b, ys, rfl, hb, rb⟩ := ry.tup
    refine .inr (.inr (.inl ⟨a, b, xs, ys, rfl, rfl, ha.sq, hb.sq, by rw [ra.length, rb.length]; exact hq.1, fun e => ?_, fun e1 e2 => ?_, fun e1 e2 p hp => ?_⟩))
    · subst e
      cases ra
      exact k _ _ _ _ hq.2 Tr.refl s (.tup hb rb)
    · subst e2
      cases rb
      rw [List.append_nil] at hq
      exact k _ _ _ _ hq.2 Tr.refl s (.tup ha ra)
    · exact k _ _ _ _ hq.2 (ext_upd hp).tr (s.ext (ext_upd hp)) (rep_newT s hp (ra.append rb))
  · obtain ⟨a, xs, rfl, ha, ra⟩ := rx.lst
    obtain ⟨b, ys, rfl, hb, rb⟩ := ry.lst
    refine .inr (.inr (.inr ⟨a, b, xs, ys, rfl, rfl, ha, hb, by rw [ra.length, rb.length]; exact hq.1, fun p hp => ?_⟩))
    exact k _ _ _ _ hq.2 (ext_upd hp).tr (s.ext (ext_upd hp)) (rep_newL s hp (ra.append rb))
  · exact hq.elim
theorem sim_sub : SimR2 P w K (rI0 fun i j => .int (i - j)) opSub := sim_imp (sim_I0 fun _ _ i j => .int _) fun x y q h => by
  unfold opSub at h
  split at h
  · exact ⟨_, _, rfl, rfl, trivial, h⟩
  · exact h.elim
abbrev rMul2 (K : PySem.W.Frag) : R2 := fun x y H Q => rI CMul (fun i j => .int (i * j)) x y H Q ∨ rRepT K x y H Q
theorem op_mul2 {X : Cx} : OpR X (binaryOp .Mult) (rMul2 X.K) := op_mul.or op_repT
theorem repl_rep {vs : List V} {ds : List D} (r : RepL P w K W H vs ds) : ∀ n : Nat, RepL P w K W H (List.replicate n vs).flatten (List.replicate n ds).flatten
  | 0 => .nil
  | n + 1 => by
    rw [List.replicate_succ, List.replicate_succ, List.flatten_cons, List.flatten_cons]
    exact r.append (repl_rep r n)
theorem sim_mul : SimR2 P w K (rMul2 K) opMul := by
  intro W0 B W σ H ρ μ x y dx dy q Q s rx ry hq k
  unfold opMul at hq
  split at hq
  · exact .inl ⟨_, _, rx.int, ry.int, hq.1, k _ _ _ _ hq.2 Tr.refl s (.int _)⟩
  · obtain ⟨a, xs, rfl, ha, ra⟩ := rx.tup
    obtain ⟨h0, h1, h2, h3, hq⟩ := hq
    refine .inr ⟨a, _, xs, rfl, ry.int, ha.sq, fun e => ?_, h1, h2, by rw [ra.length]; exact h3, fun p hp => ?_⟩
    · subst e
      cases ra
      exact h0 rfl
    · exact k _ _ _ _ hq (ext_upd hp).tr (s.ext (ext_upd hp)) (rep_newT s hp (repl_rep ra _))
  · exact hq.elim
theorem sim_div : SimR2 P w K (rI CDivW fun i j => .int (i / j)) opDiv := sim_imp (sim_pI fun _ _ i j => .int _) fun x y q h => by
  unfold opDiv at h
  split at h
  · obtain ⟨h1, h2, h⟩ := h
    exact ⟨_, _, rfl, rfl, wide_div (b := 64) h1 (by omega) (by decide) (by decide), h⟩
  · exact h.elim
theorem sim_mod : SimR2 P w K (rI (fun _ j => 0 < j) fun i j => .int (i % j)) opMod := sim_imp (sim_pI fun _ _ i j => .int _) fun x y q h => by
  unfold opMod at h
  split at h
  · exact ⟨_, _, rfl, rfl, h.1, h.2⟩
  · exact h.elim
theorem sim_pow : SimR2 P w K (rI CPow fun i j => .int (i ^ j.toNat)) opPow := sim_imp (sim_pI fun _ _ i j => .int _) fun x y q h => by
  unfold opPow at h
  split at h
  · exact ⟨_, _, rfl, rfl, h.1, h.2⟩
  · exact h.elim
abbrev rLtS : R2 := fun x y H Q => ∃ i j, x = .str i ∧ y = .str j ∧ Q (.bl (decide (i.cps.toList < j.cps.toList))) H
abbrev rLt2 : R2 := fun x y H Q => rI0 (fun i j => .bl (decide (i < j))) x y H Q ∨ rLtS x y H Q
theorem op_lt2 {X : Cx} : OpR X (compareOp .Lt) rLt2 := op_lt.or op_lt_str
theorem sim_lt : SimR2 P w K rLt2 opLt := by
  intro W0 B W σ H ρ μ x y dx dy q Q s rx ry hq k
  unfold opLt at hq
  split at hq
  · exact .inl ⟨_, _, rx.int, ry.int, k _ _ _ _ hq Tr.refl s (.bl _)⟩
  · exact .inr ⟨_, _, rx.str, ry.str, k _ _ _ _ hq Tr.refl s (.bl _)⟩
  · exact hq.elim
theorem sim_le : SimR2 P w K (rI0 fun i j => .bl (decide (i ≤ j))) opLe := sim_imp (sim_I0 (h := fun i j => .bl (decide (i ≤ j))) fun _ _ i j => .bl _) fun x y q h => by
  unfold opLe at h
  split at h
  · exact ⟨_, _, rfl, rfl, trivial, h⟩
  · exact h.elim
theorem sim_gt : SimR2 P w K (rI0 fun i j => .bl (decide (j < i))) opGt := sim_imp (sim_I0 (h := fun i j => .bl (decide (j < i))) fun _ _ i j => .bl _) fun x y q h => by
  unfold opGt at h
  split at h
  · exact ⟨_, _, rfl, rfl, trivial, h⟩
  · exact h.elim
theorem sim_ge : SimR2 P w K (rI0 fun i j => .bl (decide (j ≤ i))) opGe := sim_imp (sim_I0 (h := fun i j => .bl (decide (j ≤ i))) fun _ _ i j => .bl _) fun x y q h => by
  unfold opGe at h
  split at h
  · exact ⟨_, _, rfl, rfl, trivial, h⟩
  · exact h.elim
/-! data -/
mutual
theorem Rep.dp : ∀ {d : D} {v : V} {n : Nat}, d.okd n = true → Rep P w K W H v d → Dp K H v d.py
  | .non, _, _, _, .non => .non
  | .bl _, _, _, _, .bl _ => .bl _
  | .int _, _, _, _, .int _ => .int _
  | .str _, _, _, _, .str _ => .str _
  | .tup ds, _, n, o, .tup h r => by
    cases n with
    | zero => simp [D.okd] at o
    | succ n => exact .tup h.sq (RepL.dp (by simpa [D.okd] using o) r)
  | .lst ds, _, n, o, .lst _ h r => by
    cases n with
    | zero => simp [D.okd] at o
    | succ n => exact .lst (SqL.of h) (RepL.dp (by simpa [D.okd] using o) r)
  | .ro ds, _, n, o, .ro h r => by
    cases n with
    | zero => simp [D.okd] at o
    | succ n => exact .lst h.sq (RepL.dp (by simpa [D.okd] using o) r)
  | .dct _ _, _, n, o, _ => by cases n <;> simp [D.okd] at o
  | .cell _, _, n, o, _ => by cases n <;> simp [D.okd] at o
theorem RepL.dp : ∀ {ds : List D} {vs : List V} {n : Nat}, okL n ds = true → RepL P w K W H vs ds → DpAll K H vs (pyL ds)
  | [], _, _, _, .nil => .nil
  | d :: ds, _, n, o, .cons r s => by
    obtain ⟨o1, o2⟩ := Bool.and_eq_true_iff.mp (show (d.okd n && okL n ds) = true by simpa [okL] using o)
    exact .cons (Rep.dp o1 r) (RepL.dp o2 s)
end
theorem RepO.dp {d : D} {v : V} {n : Nat} (o : d.okd n = true) (h : RepO P w K W H v d) : Dp K H v d.py := by
  rcases h with h | ⟨a, rfl, _, h⟩
  · exact h.dp o
  · cases d with
    | lst ds =>
      obtain ⟨vs, e, r⟩ := h
      cases n with
      | zero => simp [D.okd] at o
      | succ n => exact .lst (SqL.of e) (r.dp (by simpa [D.okd] using o))
    | dct ks ds => cases n <;> simp [D.okd] at o
    | _ => exact h.elim
end
mutual
theorem py_canLay : ∀ {d : D} {n : Nat}, d.okd n = true → d.py.canLay0 = true ∧ d.py.depth ≤ n
  | .non, n, _ => by simp [D.py, PyData.canLay0, PyData.depth]
  | .bl _, n, _ => by simp [D.py, PyData.canLay0, PyData.depth]
  | .int _, n, _ => by simp [D.py, PyData.canLay0, PyData.depth]
  | .str x, n, o => by
    have o : PyData.strOk x = true := by simpa [D.okd] using o
    simp [D.py, PyData.canLay0, PyData.depth, o]
  | .tup ds, n, o => by
    cases n with
    | zero => simp [D.okd] at o
    | succ n =>
      have q := pyL_canLay (ds := ds) (n := n) (by simpa [D.okd] using o)
      simp only [D.py, PyData.canLay0, PyData.depth]
      exact ⟨q.1, by omega⟩
  | .lst ds, n, o => by
    cases n with
    | zero => simp [D.okd] at o
    | succ n =>
      have q := pyL_canLay (ds := ds) (n := n) (by simpa [D.okd] using o)
      simp only [D.py, PyData.canLay0, PyData.depth]
      exact ⟨q.1, by omega⟩
  | .ro ds, n, o => by
    cases n with
    | zero => simp [D.okd] at o
    | succ n =>
      have q := pyL_canLay (ds := ds) (n := n) (by simpa [D.okd] using o)
      simp only [D.py, PyData.canLay0, PyData.depth]
      exact ⟨q.1, by omega⟩
  | .dct _ _, n, o => by cases n <;> simp [D.okd] at o
  | .cell _, n, o => by cases n <;> simp [D.okd] at o
theorem pyL_canLay : ∀ {ds : List D} {n : Nat}, okL n ds = true → PyData.canLayAll0 (pyL ds) = true ∧ PyData.depthAll (pyL ds) ≤ n
  | [], n, _ => by simp [pyL, PyData.canLayAll0, PyData.depthAll]
  | d :: ds, n, o => by
    obtain ⟨o1, o2⟩ := Bool.and_eq_true_iff.mp (show (d.okd n && okL n ds) = true by simpa [okL] using o)
    have q1 := py_canLay o1
    have q2 := pyL_canLay o2
    simp only [pyL, PyData.canLayAll0, PyData.depthAll]
    exact ⟨by rw [q1.1, q2.1]; rfl, by omega⟩
end
theorem shaped_of {d : D} (o : d.okd 60 = true) : SeqAt.shaped d.py = true := by
  have q := py_canLay o
  unfold SeqAt.shaped
  rw [q.1, decide_eq_true (by omega : d.py.depth ≤ 64)]
  rfl
section
variable {P : Program} {w : World} {K : PySem.W.Frag} {W0 W W' : Wd} {B H H' : Hp} {σ : L2.St} {ρ : Loc} {μ μ' : Mu}
abbrev rEq2 (K : PySem.W.Frag) : R2 := fun x y H Q => rEq x y H Q ∨ rEqD K x y H Q
abbrev rNe2 (K : PySem.W.Frag) : R2 := fun x y H Q => rNe x y H Q ∨ rNeD K x y H Q
theorem op_eq2 {X : Cx} (hu : X.A.units + 64 < cLine) : OpR X (compareOp .Eq) (rEq2 X.K) := op_eq.or (op_eqD hu)
theorem op_ne2 {X : Cx} (hu : X.A.units + 64 < cLine) : OpR X (compareOp .NotEq) (rNe2 X.K) := op_ne.or (op_neD hu)
theorem sc_of {x y : V} {dx dy : D} {b : Bool} (rx : RepO P w K W H x dx) (ry : RepO P w K W H y dy) (h : scD dx dy = some b) : scal x y = true ∧ decide (x = y) = b := by
  unfold scD at h
  split at h <;> first
    | (cases h
       first
         | (cases rx.non; cases ry.non; exact ⟨rfl, by simp⟩)
         | (cases rx.non; cases ry.int; exact ⟨rfl, by simp⟩)
         | (cases rx.int; cases ry.non; exact ⟨rfl, by simp⟩)
         | (cases rx.non; cases ry.bl; exact ⟨rfl, by simp⟩)
         | (cases rx.bl; cases ry.non; exact ⟨rfl, by simp⟩)
         | (cases rx.non; cases ry.str; exact ⟨rfl, by simp⟩)
         | (cases rx.str; cases ry.non; exact ⟨rfl, by simp⟩)
         | (cases rx.int; cases ry.int; exact ⟨rfl, by simp⟩)
         | (cases rx.bl; cases ry.bl; exact ⟨rfl, by simp⟩)
         | (cases rx.str; cases ry.str; exact ⟨rfl, by simp⟩)
         | (cases rx.int; cases ry.str; exact ⟨rfl, by simp⟩)
         | (cases rx.str; cases ry.int; exact ⟨rfl, by simp⟩)
         | (cases rx.bl; cases ry.str; exact ⟨rfl, by simp⟩)
         | (cases rx.str; cases ry.bl; exact ⟨rfl, by simp⟩))
    | cases h
theorem sim_eq : SimR2 P w K (rEq2 K) opEq := by
  intro W0 B W σ H ρ μ x y dx dy q Q s rx ry hq k
  unfold opEq at hq
  split at hq
  · rename_i b hb
    obtain ⟨h1, h2⟩ := sc_of rx ry hb
    exact .inl ⟨h1, by rw [h2]; exact k _ _ _ _ hq Tr.refl s (.bl _)⟩
  · obtain ⟨o1, o2, hq⟩ := hq
    exact .inr ⟨_, _, rx.dp o1, ry.dp o2, shaped_of o1, shaped_of o2, k _ _ _ _ hq Tr.refl s (.bl _)⟩
theorem sim_ne : SimR2 P w K (rNe2 K) opNe := by
  intro W0 B W σ H ρ μ x y dx dy q Q s rx ry hq k
  unfold opNe at hq
  split at hq
  · rename_i b hb
    obtain ⟨h1, h2⟩ := sc_of rx ry hb
    exact .inl ⟨h1, by rw [h2]; exact k _ _ _ _ hq Tr.refl s (.bl _)⟩
  · obtain ⟨o1, o2, hq⟩ := hq
    exact .inr ⟨_, _, rx.dp o1, ry.dp o2, shaped_of o1, shaped_of o2, k _ _ _ _ hq Tr.refl s (.bl _)⟩
theorem RepO.isNon {v : V} {d : D} (h : RepO P w K W H v d) : decide (v = .non) = isNonD d := by
  rcases h with h | ⟨a, rfl, _, h⟩
  · cases h <;> rfl
  · cases d <;> first | rfl | exact h.elim
theorem sim_is : SimR2 P w K (fun x y H Q => y = .non ∧ Q (.bl (decide (x = .non))) H) opIs := by
  intro W0 B W σ H ρ μ x y dx dy q Q s rx ry hq k
  unfold opIs at hq
  split at hq
  · exact ⟨ry.non, by rw [rx.isNon]; exact k _ _ _ _ hq Tr.refl s (.bl _)⟩
  · exact hq.elim
theorem sim_isnot : SimR2 P w K (fun x y H Q => y = .non ∧ Q (.bl (!decide (x = .non))) H) opIsNot := by
  intro W0 B W σ H ρ μ x y dx dy q Q s rx ry hq k
  unfold opIsNot at hq
  split at hq
  · exact ⟨ry.non, by rw [rx.isNon]; exact k _ _ _ _ hq Tr.refl s (.bl _)⟩
  · exact hq.elim
theorem Rep.flat {v : V} {d : D} (f : flatD d = true) (h : Rep P w K W H v d) : flatV v = true := by
  cases h <;> first | rfl | (simp [flatD] at f)
theorem RepO.flat {v : V} {d : D} (f : flatD d = true) (h : RepO P w K W H v d) : flatV v = true ∧ Rep P w K W H v d := by
  rcases h with h | ⟨a, rfl, _, h⟩
  · exact ⟨h.flat f, h⟩
  · cases d <;> first | exact h.elim | (simp [flatD] at f)
theorem Rep.eqF {v u : V} {d e : D} (f : flatD d = true) (g : flatD e = true) (h : Rep P w K W H v d) (h' : Rep P w K W H u e) : eqV v u = DL.eqF d e := by
  cases h <;> first | (simp [flatD] at f; done) | (cases h' <;> first | rfl | (simp [flatD] at g; done))
theorem RepL.inV {x : V} {dx : D} (fx : flatD dx = true) (hx : Rep P w K W H x dx) : ∀ {vs : List V} {ds : List D}, ds.all flatD = true → RepL P w K W H vs ds → vs.all flatV = true ∧ L2.inV x vs = inL dx ds
  | _, _, _, .nil => ⟨rfl, rfl⟩
  | _, d :: ds, f, .cons r s => by
    obtain ⟨f1, f2⟩ := Bool.and_eq_true_iff.mp (show (flatD d && ds.all flatD) = true from f)
    obtain ⟨q1, q2⟩ := RepL.inV fx hx f2 s
    refine ⟨by rw [List.all_cons, q1, r.flat f1]; rfl, ?_⟩
    show (eqV _ x || L2.inV x _) = (DL.eqF d dx || inL dx ds)
    rw [q2, r.eqF f1 fx hx]
abbrev rInS (neg : Bool) : R2 := fun x y H Q => ∃ (c : Nat) (z : Str), x = .str ⟨#[c]⟩ ∧ y = .str z ∧ Q (.bl (if neg then !decide (c ∈ z.cps.toList) else decide (c ∈ z.cps.toList))) H
abbrev rIn2 (K : PySem.W.Frag) (neg : Bool) : R2 := fun x y H Q => rIn K neg x y H Q ∨ rInS neg x y H Q
theorem op_in2 {X : Cx} : OpR X (compareOp .In) (rIn2 X.K false) := op_in_seq.or op_in_sign
theorem op_notIn2 {X : Cx} : OpR X (compareOp .NotIn) (rIn2 X.K true) := op_notIn_seq.or op_notIn_sign
theorem sim_in {neg : Bool} : SimR2 P w K (rIn2 K neg) (opInG neg) := by
  intro W0 B W σ H ρ μ x y dx dy q Q s rx ry hq k
  unfold opInG at hq
  split at hq
  · obtain ⟨f1, f2, hq⟩ := hq
    obtain ⟨a, xs, rfl, ha, ra⟩ := ry.tup
    obtain ⟨g1, g2⟩ := rx.flat f1
    obtain ⟨g3, g4⟩ := ra.inV f1 g2 f2
    exact .inl ⟨a, xs, rfl, .inr ha.sq, g1, g3, by rw [g4]; exact k _ _ _ _ hq Tr.refl s (.bl _)⟩
  · obtain ⟨f1, f2, hq⟩ := hq
    obtain ⟨a, xs, rfl, ha, ra⟩ := ry.lst
    obtain ⟨g1, g2⟩ := rx.flat f1
    obtain ⟨g3, g4⟩ := ra.inV f1 g2 f2
    exact .inl ⟨a, xs, rfl, .inl (SqL.of ha), g1, g3, by rw [g4]; exact k _ _ _ _ hq Tr.refl s (.bl _)⟩
  · obtain ⟨n, rfl, hq⟩ := hq
    exact .inr ⟨n, _, rx.str, ry.str, k _ _ _ _ hq Tr.refl s (.bl _)⟩
  · exact hq.elim
end

/-! ### the rules -/
section
variable {X : Cx} {a b c : Expr} {ta tb tc : TE} {f g h : FE} {pos : Pos}
theorem de_add {Kf : PySem.W.Frag} (ha : DO X a ta f) (hb : DO X b tb g) (hK : X.K = Kf := by rfl) : DE X (.BinOp a .Add b pos) (tOp (rAdd4 Kf) ta tb) (eBin opAdd f g) := by
  subst hK
  exact de_bin op_add4 sim_add ha hb
theorem de_sub (ha : DO X a ta f) (hb : DO X b tb g) : DE X (.BinOp a .Sub b pos) (tOp (rI0 fun i j => .int (i - j)) ta tb) (eBin opSub f g) := de_bin op_sub sim_sub ha hb
theorem de_mul {Kf : PySem.W.Frag} (ha : DO X a ta f) (hb : DO X b tb g) (hK : X.K = Kf := by rfl) : DE X (.BinOp a .Mult b pos) (tOp (rMul2 Kf) ta tb) (eBin opMul f g) := by
  subst hK
  exact de_bin op_mul2 sim_mul ha hb
theorem de_div (ha : DO X a ta f) (hb : DO X b tb g) : DE X (.BinOp a .FloorDiv b pos) (tOp (rI CDivW fun i j => .int (i / j)) ta tb) (eBin opDiv f g) := de_bin op_fdivW sim_div ha hb
theorem de_mod (ha : DO X a ta f) (hb : DO X b tb g) : DE X (.BinOp a .Mod b pos) (tOp (rI (fun _ j => 0 < j) fun i j => .int (i % j)) ta tb) (eBin opMod f g) := de_bin op_mod sim_mod ha hb
theorem de_pow (ha : DO X a ta f) (hb : DO X b tb g) : DE X (.BinOp a .Pow b pos) (tOp (rI CPow fun i j => .int (i ^ j.toNat)) ta tb) (eBin opPow f g) := de_bin op_pow sim_pow ha hb
end
end DL

set_option Elab.async false
set_option linter.all false
set_option maxRecDepth 100000
set_option maxHeartbeats 4000000
/-! DL4: tests, displays, subscripts, slices, built-ins, calls. -/
namespace DL
open PySem PySem.Spec PyProof.Rows L2

/-- what is new behind was new ahead -/
theorem Tr.back {W W1 : Wd} {H H1 : Hp} {p : Addr} (t : Tr W H W1 H1) (ok : WOk W1 H1) (h : H1 p = none) : H p = none := by
  cases z : H p with
  | none => rfl
  | some o =>
    by_cases m : p ∈ W.C
    · obtain ⟨n, hn⟩ := List.mem_iff_getElem?.mp m
      obtain ⟨o', ho⟩ := ok.dom p (ok.sub p (List.mem_of_getElem? (t.C n p hn)))
      rw [h] at ho
      cases ho
    · have e := (t.fr p o m z).1
      rw [h] at e
      cases e
section
variable {X : Cx} {a b c : Expr} {ta tb tc : TE} {f g h : FE} {pos : Pos}
/-! ### comparisons as tests -/
structure RC (X : Cx) (op : CmpOp) (r : R2) (p : D → D → (D → Prop) → Prop) : Prop where
  op : OpR X (compareOp op) r
  sim : SimR2 X.prog X.w X.K r p
theorem rc_lt : RC X .Lt rLt2 opLt := ⟨op_lt2, sim_lt⟩
theorem rc_le : RC X .LtE (rI0 fun i j => .bl (decide (i ≤ j))) opLe := ⟨op_le, sim_le⟩
theorem rc_gt : RC X .Gt (rI0 fun i j => .bl (decide (j < i))) opGt := ⟨op_gt, sim_gt⟩
theorem rc_ge : RC X .GtE (rI0 fun i j => .bl (decide (j ≤ i))) opGe := ⟨op_ge, sim_ge⟩
theorem rc_eq {Kf : PySem.W.Frag} (hu : X.A.units + 64 < cLine) (hK : X.K = Kf := by rfl) : RC X .Eq (rEq2 Kf) opEq := by
  subst hK
  exact ⟨op_eq2 hu, sim_eq⟩
theorem rc_ne {Kf : PySem.W.Frag} (hu : X.A.units + 64 < cLine) (hK : X.K = Kf := by rfl) : RC X .NotEq (rNe2 Kf) opNe := by
  subst hK
  exact ⟨op_ne2 hu, sim_ne⟩
theorem rc_is : RC X .Is (fun x y H Q => y = .non ∧ Q (.bl (decide (x = .non))) H) opIs := ⟨op_isN, sim_is⟩
theorem rc_isnot : RC X .IsNot (fun x y H Q => y = .non ∧ Q (.bl (!decide (x = .non))) H) opIsNot := ⟨op_notN, sim_isnot⟩
theorem rc_in {Kf : PySem.W.Frag} (hK : X.K = Kf := by rfl) : RC X .In (rIn2 Kf false) (opInG false) := by
  subst hK
  exact ⟨op_in2, sim_in⟩
theorem rc_notin {Kf : PySem.W.Frag} (hK : X.K = Kf := by rfl) : RC X .NotIn (rIn2 Kf true) (opInG true) := by
  subst hK
  exact ⟨op_notIn2, sim_in⟩
/-- a bool's own value -/
def blD (d : D) (k : Bool → Prop) : Prop := match d with
  | .bl b => k b
  | _ => False
theorem blD_of {d : D} {k : Bool → Prop} (h : blD d k) : ∃ b, d = .bl b ∧ k b := by
  unfold blD at h
  split at h
  · exact ⟨_, rfl, h⟩
  · exact h.elim
def tst (f : FE) : FT := fun ρ μ q => f ρ μ fun d μ1 => blD d fun b => q b μ1
theorem sim_tst {P : Program} {w : World} {K : PySem.W.Frag} (ha : SimE P w K ta f) : SimT P w K (fun σ H Q => ta σ H fun x H' => ∃ k, x = .bl k ∧ Q k H') (tst f) := by
  intro W0 B W σ H ρ μ q Q s hf k
  refine ha s hf fun d μ1 v W1 H1 q1 t1 s1 r1 => ?_
  obtain ⟨b, rfl, q1⟩ := blD_of q1
  cases r1
  exact ⟨b, rfl, k b μ1 W1 H1 q1 t1 s1⟩
theorem de_c {op : CmpOp} {r : R2} {p : D → D → (D → Prop) → Prop} (o : RC X op r p) (ha : DO X a ta f) (hb : DO X b tb g) (hm : behindInMarks op b = false := by first | exact nomark _ | rfl) : DE X (.Compare a [op] [b] pos) (tOp r ta tb) (eBin p f g) := de_cmp o.op o.sim ha hb hm
theorem dt_c {op : CmpOp} {r : R2} {p : D → D → (D → Prop) → Prop} (o : RC X op r p) (ha : DO X a ta f) (hb : DO X b tb g) (hm : behindInMarks op b = false := by first | exact nomark _ | rfl) : DT X (.Compare a [op] [b] pos) (tTest (tOp r ta tb)) (tst (eBin p f g)) :=
  ⟨pt_cmpR o.op ha.pe hb.pe hm, sim_tst (sim_bin ha.sim hb.sim o.sim)⟩
/-- any other expression that gives True or False -/
theorem dt_val {t : TE} (ha : DE X a t f) (he : ∀ whole, isTrue a X.env whole = (do let v ← whole; standAt a.pos; holding [v] (truthy v)) := by intro _; rfl) : DT X a (tB t) (tst f) := ⟨pt_val ha.pe he, sim_tst ha.sim⟩
def eChain (p p' : D → D → (D → Prop) → Prop) (f g h : FE) : FE := fun ρ μ q => f ρ μ fun x μ1 => g ρ μ1 fun y μ2 => p x y fun z => blD z fun b => if b = true then h ρ μ2 fun u μ3 => p' y u fun d => q d μ3 else q (.bl false) μ2
theorem sim_chain {P : Program} {w : World} {K : PySem.W.Frag} {r r' : R2} {p p' : D → D → (D → Prop) → Prop} (ha : SimO P w K ta f) (hb : SimO P w K tb g) (hc : SimO P w K tc h) (hr : SimR2 P w K r p) (hr' : SimR2 P w K r' p') : SimE P w K (tChain r r' ta tb tc) (eChain p p' f g h) := by
  intro W0 B W σ H ρ μ q Q s hf k
  refine ha s hf fun x μ1 v W1 H1 q1 t1 s1 r1 => ?_
  refine hb s1 q1 fun y μ2 u W2 H2 q2 t2 s2 r2 => ?_
  refine hr s2 (r1.tr t2 s1.wok.sub) r2 q2 fun d z W3 H3 q3 t3 s3 r3 => ?_
  obtain ⟨b, rfl, q3'⟩ := blD_of q3
  cases r3
  refine ⟨b, rfl, ?_⟩
  cases b with
  | true =>
    show tc _ H3 _
    refine hc s3 q3' fun d4 μ4 v4 W4 H4 q4 t4 s4 r4 => ?_
    exact hr' s4 (r2.tr (t3.trans t4) s2.wok.sub) r4 q4 fun d z W5 H5 q5 t5 s5 r5 => k d μ4 z W5 H5 q5 ((((t1.trans t2).trans t3).trans t4).trans t5) s5 r5
  | false =>
    exact k _ _ _ _ _ q3' ((t1.trans t2).trans t3) s3 (.bl false)
theorem de_chain {op op' : CmpOp} {r r' : R2} {p p' : D → D → (D → Prop) → Prop} (o : RC X op r p) (o' : RC X op' r' p') (ha : DO X a ta f) (hb : DO X b tb g) (hc : DO X c tc h) (hm : lastMarks [op, op'] [b, c] = false := by with_unfolding_all rfl) :
    DE X (.Compare a [op, op'] [b, c] pos) (tChain r r' ta tb tc) (eChain p p' f g h) := ⟨pe_chain o.op o'.op ha.pe hb.pe hc.pe hm, sim_chain ha.sim hb.sim hc.sim o.sim o'.sim⟩
theorem dt_chain {op op' : CmpOp} {r r' : R2} {p p' : D → D → (D → Prop) → Prop} (o : RC X op r p) (o' : RC X op' r' p') (ha : DO X a ta f) (hb : DO X b tb g) (hc : DO X c tc h) (hm : lastMarks [op, op'] [b, c] = false := by with_unfolding_all rfl) :
    DT X (.Compare a [op, op'] [b, c] pos) (tTest (tChain r r' ta tb tc)) (tst (eChain p p' f g h)) := ⟨pt_chain o.op o'.op ha.pe hb.pe hc.pe hm, sim_tst (sim_chain ha.sim hb.sim hc.sim o.sim o'.sim)⟩

/-! ### and, or, not, if -/
variable {rest : List Expr} {tA tB' : TT} {F G : FT}
def eAnd (f g : FE) : FE := fun ρ μ q => f ρ μ fun d μ1 => blD d fun b => if b = true then g ρ μ1 q else q (.bl false) μ1
def eOr (f g : FE) : FE := fun ρ μ q => f ρ μ fun d μ1 => blD d fun b => if b = true then q (.bl true) μ1 else g ρ μ1 q
def eNot (f : FE) : FE := fun ρ μ q => f ρ μ fun d μ1 => blD d fun b => q (.bl (!b)) μ1
def tAndF (f g : FT) : FT := fun ρ μ q => f ρ μ fun b μ1 => if b = true then g ρ μ1 q else q false μ1
def tOrF (f g : FT) : FT := fun ρ μ q => f ρ μ fun b μ1 => if b = true then q true μ1 else g ρ μ1 q
def tNotF (f : FT) : FT := fun ρ μ q => f ρ μ fun b μ1 => q (!b) μ1
theorem de_one {op} (ha : DE X a ta f) : DE X (.BoolOp op [a] pos) ta f := ⟨pe_one ha.pe, ha.sim⟩
theorem de_and (ha : DE X a ta f) (hb : DE X (.BoolOp .And (b :: rest) pos) tb g) : DE X (.BoolOp .And (a :: b :: rest) pos) (tAndV ta tb) (eAnd f g) := by
  refine ⟨pe_and ha.pe hb.pe, fun s hf k => ?_⟩
  refine ha.sim s hf fun d μ1 v W1 H1 q1 t1 s1 r1 => ?_
  obtain ⟨b, rfl, q1⟩ := blD_of q1
  cases r1
  refine ⟨b, rfl, ?_⟩
  cases b with
  | true => exact hb.sim s1 q1 fun d μ2 v W2 H2 q2 t2 s2 r2 => k d μ2 v W2 H2 q2 (t1.trans t2) s2 r2
  | false => exact k _ _ _ _ _ q1 t1 s1 (.bl false)
theorem de_or (ha : DE X a ta f) (hb : DE X (.BoolOp .Or (b :: rest) pos) tb g) : DE X (.BoolOp .Or (a :: b :: rest) pos) (tOrV ta tb) (eOr f g) := by
  refine ⟨pe_or ha.pe hb.pe, fun s hf k => ?_⟩
  refine ha.sim s hf fun d μ1 v W1 H1 q1 t1 s1 r1 => ?_
  obtain ⟨b, rfl, q1⟩ := blD_of q1
  cases r1
  refine ⟨b, rfl, ?_⟩
  cases b with
  | false => exact hb.sim s1 q1 fun d μ2 v W2 H2 q2 t2 s2 r2 => k d μ2 v W2 H2 q2 (t1.trans t2) s2 r2
  | true => exact k _ _ _ _ _ q1 t1 s1 (.bl true)
theorem de_not (ha : DE X a ta f) : DE X (.UnaryOp .Not a pos) (tNotV ta) (eNot f) := by
  refine ⟨pe_not ha.pe, fun s hf k => ?_⟩
  refine ha.sim s hf fun d μ1 v W1 H1 q1 t1 s1 r1 => ?_
  obtain ⟨b, rfl, q1⟩ := blD_of q1
  cases r1
  exact ⟨b, rfl, k _ _ _ _ _ q1 t1 s1 (.bl _)⟩
theorem dw_and1 (ha : DT X a tA F) : DW X (.BoolOp .And [a] pos) tA F := ⟨pw_and1 ha.pt, ha.sim⟩
theorem dw_or1 (ha : DT X a tA F) : DW X (.BoolOp .Or [a] pos) tA F := ⟨pw_or1 ha.pt, ha.sim⟩
theorem dw_and (ha : DT X a tA F) (hb : DW X (.BoolOp .And (b :: rest) pos) tB' G) : DW X (.BoolOp .And (a :: b :: rest) pos) (tAnd tA tB') (tAndF F G) := by
  refine ⟨pw_and ha.pt hb.pw, fun s hf k => ?_⟩
  refine ha.sim s hf fun b μ1 W1 H1 q1 t1 s1 => ?_
  cases b with
  | true => exact hb.sim s1 q1 fun b μ2 W2 H2 q2 t2 s2 => k b μ2 W2 H2 q2 (t1.trans t2) s2
  | false => exact k _ _ _ _ q1 t1 s1
theorem dw_or (ha : DT X a tA F) (hb : DW X (.BoolOp .Or (b :: rest) pos) tB' G) : DW X (.BoolOp .Or (a :: b :: rest) pos) (tOr tA tB') (tOrF F G) := by
  refine ⟨pw_or ha.pt hb.pw, fun s hf k => ?_⟩
  refine ha.sim s hf fun b μ1 W1 H1 q1 t1 s1 => ?_
  cases b with
  | false => exact hb.sim s1 q1 fun b μ2 W2 H2 q2 t2 s2 => k b μ2 W2 H2 q2 (t1.trans t2) s2
  | true => exact k _ _ _ _ q1 t1 s1
theorem DW.t (h : DW X a tA F) : DT X a tA F := ⟨h.pw.pt, h.sim⟩
theorem dt_not (ha : DT X a tA F) : DT X (.UnaryOp .Not a pos) (tNot tA) (tNotF F) := by
  refine ⟨pt_not ha.pt, fun s hf k => ?_⟩
  exact ha.sim s hf fun b μ1 W1 H1 q1 t1 s1 => k _ _ _ _ q1 t1 s1
def eIf (t : FT) (f g : FE) : FE := fun ρ μ q => t ρ μ fun b μ1 => if b = true then f ρ μ1 q else g ρ μ1 q
theorem de_if (hc : DT X c tA F) (ha : DE X a ta f) (hb : DE X b tb g) : DE X (.IfExp c a b pos) (tIf tA ta tb) (eIf F f g) := by
  refine ⟨pe_ifExp hc.pt ha.pe hb.pe, fun s hf k => ?_⟩
  refine hc.sim s hf fun b μ1 W1 H1 q1 t1 s1 => ?_
  cases b with
  | true =>
    show ta _ H1 _
    exact ha.sim s1 q1 fun d μ2 v W2 H2 q2 t2 s2 r2 => k d μ2 v W2 H2 q2 (t1.trans t2) s2 r2
  | false =>
    show tb _ H1 _
    exact hb.sim s1 q1 fun d μ2 v W2 H2 q2 t2 s2 r2 => k d μ2 v W2 H2 q2 (t1.trans t2) s2 r2
theorem df_if (hc : DT X c tA F) (ha : DF X a ta f) (hb : DF X b tb g) : DF X (.IfExp c a b pos) (tIf tA ta tb) (eIf F f g) := by
  refine ⟨pe_ifExp hc.pt ha.pe hb.pe, fun s hf k => ?_⟩
  refine hc.sim s hf fun b μ1 W1 H1 q1 t1 s1 => ?_
  cases b with
  | true =>
    show ta _ H1 _
    exact ha.sim s1 q1 fun d μ2 p W2 H2 q2 t2 s2 hn he hcc r2 => k d μ2 p W2 H2 q2 (t1.trans t2) s2 (t1.back s1.wok hn) he hcc r2
  | false =>
    show tb _ H1 _
    exact hb.sim s1 q1 fun d μ2 p W2 H2 q2 t2 s2 hn he hcc r2 => k d μ2 p W2 H2 q2 (t1.trans t2) s2 (t1.back s1.wok hn) he hcc r2
end
end DL

set_option Elab.async false
set_option linter.all false
set_option maxRecDepth 100000
set_option maxHeartbeats 4000000
/-! DL5: displays, subscripts, slices, built-ins, calls of the text's own defs. -/
namespace DL
open PySem PySem.Spec PyProof.Rows L2

section
variable {X : Cx} {a b c : Expr} {ta tb tc : TE} {f g h : FE} {pos : Pos} {es : List Expr} {tA : TA} {F : FA}
def aNil : FA := fun _ μ q => q [] μ
def aCons (f : FE) (g : FA) : FA := fun ρ μ q => f ρ μ fun d μ1 => g ρ μ1 fun ds μ2 => q (d :: ds) μ2
theorem da_nil : DA X [] tNil aNil := ⟨pa_nil, fun s hf k => k _ _ _ _ _ rfl hf Tr.refl s .nil⟩
theorem da_cons (ha : DE X a ta f) (hr : DA X es tA F) (hs : starEach (a :: es) X.env = (false, eval a X.env) :: starEach es X.env := by rfl) : DA X (a :: es) (tCons ta tA) (aCons f F) := by
  refine ⟨pa_cons ha.pe hr.pa hs, fun s hf k => ?_⟩
  refine ha.sim s hf fun x μ1 v W1 H1 q1 t1 s1 r1 => ?_
  exact hr.sim s1 q1 fun ds μ2 vs W2 H2 l2 q2 t2 s2 r2 => k (x :: ds) μ2 _ W2 H2 (congrArg Nat.succ l2) q2 (t1.trans t2) s2 (.cons (r1.tr (s1.trs t2)) r2)
def eTup (F : FA) : FE := fun ρ μ q => F ρ μ fun ds μ1 => ds.length ≤ sizeLine ∧ q (.tup ds) μ1
def eLst (F : FA) : FE := fun ρ μ q => F ρ μ fun ds μ1 => ds.length ≤ sizeLine ∧ q (.lst ds) μ1
theorem de_tup {x1} (ha : DA X es tA F) : DE X (.Tuple es x1 pos) (tTup tA) (eTup F) := by
  refine ⟨pe_tup ha.pa, fun s hf k => ?_⟩
  refine ha.sim s hf fun ds μ1 vs W1 H1 _ q1 t1 s1 r1 => ⟨by rw [r1.length]; exact q1.1, fun p hp => ?_⟩
  exact k _ _ _ _ _ q1.2 (t1.trans (ext_upd hp).tr) (s1.ext (ext_upd hp)) (rep_newT s1 hp r1)
theorem df_lst (ha : DA X es tA F) : DF X (.List es pos) (tLst tA) (eLst F) := by
  refine ⟨pe_lst ha.pa, fun s hf k => ?_⟩
  refine ha.sim s hf fun ds μ1 vs W1 H1 _ q1 t1 s1 r1 => ⟨by rw [r1.length]; exact q1.1, fun p hp => ?_⟩
  obtain ⟨s2, t2, e2, c2⟩ := own_new (o := .lst vs) s1 hp
  exact k _ _ _ _ _ q1.2 (t1.trans t2) s2 (t1.back s1.wok hp) e2 c2 (own_newL s1 hp r1)

/-! ### subscripts -/
def atD (ds : List D) (i : Int) (k : D → Prop) : Prop := match atI ds i with
  | some d => k d
  | none => False
theorem atD_of {ds : List D} {i : Int} {k : D → Prop} (h : atD ds i k) : ∃ d, atI ds i = some d ∧ k d := by
  unfold atD at h
  split at h
  · exact ⟨_, by assumption, h⟩
  · exact h.elim
theorem RepL.at_ {P : Program} {w : World} {K : PySem.W.Frag} {W : Wd} {H : Hp} {vs : List V} {ds : List D} {i : Int} {d : D} (r : RepL P w K W H vs ds) (h : atI ds i = some d) : ∃ v, atI vs i = some v ∧ Rep P w K W H v d := by
  unfold atI at h ⊢
  rw [r.length]
  cases z : ixN ds.length i with
  | none =>
    rw [z] at h
    cases h
  | some j =>
    rw [z] at h
    exact r.get (by simpa using h)
/-- the keys of the dicts -/
def keyD : D → Option Lk
  | .non => some .none
  | .int i => some (.num i)
  | .bl b => some (.num (if b then 1 else 0))
  | .str x => some (.text x)
  | _ => none
def opIx : D → D → (D → Prop) → Prop
  | .tup ds, .int i, q => atD ds i q
  | .lst ds, .int i, q => atD ds i q
  | .ro ds, .int i, q => atD ds i q
  | .str z, .int i, q => z.length ≤ sizeLine ∧ ∃ n, atI z.cps.toList i = some n ∧ q (.str ⟨#[n]⟩)
  | _, _, _ => False
theorem sim_ix {P : Program} {w : World} {K : PySem.W.Frag} : SimR2 P w K (rIx K) opIx := by
  intro W0 B W σ H ρ μ x y dx dy q Q s rx ry hq k
  unfold opIx at hq
  split at hq
  · obtain ⟨d, e, hq⟩ := atD_of hq
    obtain ⟨p, xs, rfl, hp, r⟩ := rx.tup
    obtain ⟨v, e', r'⟩ := r.at_ e
    exact .inr (.inl ⟨p, xs, _, v, rfl, ry.int, hp.sq, e', k _ _ _ _ hq Tr.refl s r'⟩)
  · obtain ⟨d, e, hq⟩ := atD_of hq
    obtain ⟨p, xs, rfl, hp, r⟩ := rx.lst
    obtain ⟨v, e', r'⟩ := r.at_ e
    exact .inl ⟨p, xs, _, v, rfl, ry.int, SqL.of hp, e', k _ _ _ _ hq Tr.refl s r'⟩
  · obtain ⟨d, e, hq⟩ := atD_of hq
    obtain ⟨p, xs, rfl, hp, r⟩ := rx.ro
    obtain ⟨v, e', r'⟩ := r.at_ e
    exact .inl ⟨p, xs, _, v, rfl, ry.int, hp, e', k _ _ _ _ hq Tr.refl s r'⟩
  · obtain ⟨h1, n, h2, hq⟩ := hq
    exact .inr (.inr ⟨_, _, n, rx.str, ry.int, h1, h2, k _ _ _ _ hq Tr.refl s (.str _)⟩)
  · exact hq.elim
theorem de_ix {Kf : PySem.W.Frag} (ha : DO X a ta f) (hb : DE X b tb g) (hs : PlainIx b := by exact fun _ _ => rfl) (hK : X.K = Kf := by rfl) : DE X (.Subscript a b pos) (tOp (rIx Kf) ta tb) (eBin opIx f g) := by
  subst hK
  exact ⟨pe_ix ix_seq ha.pe hb.pe hs, sim_bin ha.sim hb.o.sim sim_ix⟩

/-! ### slices -/
abbrev FO := Loc → Mu → (Option Int → Mu → Prop) → Prop
def SimP (P : Program) (w : World) (K : PySem.W.Frag) (t : TO) (f : FO) : Prop := ∀ {W0 : Wd} {B : Hp} {W : Wd} {σ : L2.St} {H : Hp} {ρ : Loc} {μ : Mu} {q : Option Int → Mu → Prop} {Q : Option Int → Hp → Prop}, SR P w K W0 B W σ H ρ μ → f ρ μ q →
  (∀ o μ' W' H', q o μ' → Tr W H W' H' → SR P w K W0 B W' σ H' ρ μ' → Q o H') → t σ H Q
structure DP (X : Cx) (e : Option Expr) (t : TO) (f : FO) : Prop where
  po : PO X e t
  sim : SimP X.prog X.w X.K t f
def pNo : FO := fun _ μ q => q none μ
def intD (d : D) (k : Int → Prop) : Prop := match d with
  | .int i => k i
  | _ => False
theorem intD_of {d : D} {k : Int → Prop} (h : intD d k) : ∃ i, d = .int i ∧ k i := by
  unfold intD at h
  split at h
  · exact ⟨_, rfl, h⟩
  · exact h.elim
def pYes (f : FE) : FO := fun ρ μ q => f ρ μ fun d μ1 => intD d fun i => q (some i) μ1
theorem dp_no : DP X none tNoPart pNo := ⟨po_none, fun s hf k => k _ _ _ _ hf Tr.refl s⟩
theorem dp_yes (ha : DE X a ta f) : DP X (some a) (tPart ta) (pYes f) := by
  refine ⟨po_some ha.pe, fun s hf k => ?_⟩
  refine ha.sim s hf fun d μ1 v W1 H1 q1 t1 s1 r1 => ?_
  obtain ⟨i, rfl, q1⟩ := intD_of q1
  cases r1
  exact ⟨i, rfl, k _ _ _ _ q1 t1 s1⟩
def cutD (ds : List D) (lo hi : Option Int) : List D := (ds.drop (HT.sIx ds.length 0 lo)).take (HT.sIx ds.length ds.length hi - HT.sIx ds.length 0 lo)
theorem RepL.cutD {P : Program} {w : World} {K : PySem.W.Frag} {W : Wd} {H : Hp} {vs : List V} {ds : List D} (r : RepL P w K W H vs ds) (lo hi : Option Int) : RepL P w K W H (cutV vs lo hi) (cutD ds lo hi) := by
  unfold cutV DL.cutD
  rw [r.length]
  exact (r.drop _).take _
def opCut : D → Option Int → Option Int → (D → Prop) → Prop
  | .tup ds, lo, hi, q => q (.tup (cutD ds lo hi))
  | .lst ds, lo, hi, q => q (.lst (cutD ds lo hi))
  | _, _, _, _ => False
def eCut (f : FE) (l h : FO) : FE := fun ρ μ q => f ρ μ fun d μ1 => l ρ μ1 fun lo μ2 => h ρ μ2 fun hi μ3 => opCut d lo hi fun z => q z μ3
abbrev rSl2 (K : PySem.W.Frag) : V → Option Int → Option Int → Hp → VK → Prop := fun x lo hi H Q => rSlA K x lo hi H Q ∨ rSlL K x lo hi H Q
theorem whole_cut {ds : List D} {lo hi : Option Int} (h : HT.sIx ds.length 0 lo = 0 ∧ HT.sIx ds.length ds.length hi = ds.length) : cutD ds lo hi = ds := by
  unfold cutD
  rw [h.1, h.2]
  simp
theorem de_cut {Kf : PySem.W.Frag} {lo hi : Option Expr} {tl th : TO} {l h : FO} {p2 : Pos} (ha : DO X a ta f) (hl : DP X lo tl l) (hh : DP X hi th h) (hK : X.K = Kf := by rfl) : DE X (.Subscript a (.Slice lo hi none p2) pos) (tSl (rSl2 Kf) ta tl th) (eCut f l h) := by
  subst hK
  refine ⟨pe_slice (sl_tupA.or sl_list) ha.pe hl.po hh.po, fun s hf k => ?_⟩
  refine ha.sim s hf fun d μ1 v W1 H1 q1 t1 s1 r1 => ?_
  refine hl.sim s1 q1 fun lo μ2 W2 H2 q2 t2 s2 => ?_
  refine hh.sim s2 q2 fun hi μ3 W3 H3 q3 t3 s3 => ?_
  have r3 := r1.tr (t2.trans t3) s1.wok.sub
  have tt := (t1.trans t2).trans t3
  unfold opCut at q3
  split at q3
  · obtain ⟨p, xs, rfl, hp, r⟩ := r3.tup
    refine .inl ⟨p, xs, rfl, hp.sq, fun hw => ?_, fun hw p' hp' => ?_⟩
    · rw [r.length] at hw
      rw [whole_cut hw] at q3
      exact k _ _ _ _ _ q3 tt s3 (.tup hp r)
    · exact k _ _ _ _ _ q3 (tt.trans (ext_upd hp').tr) (s3.ext (ext_upd hp')) (rep_newT s3 hp' (r.cutD _ _))
  · obtain ⟨p, xs, rfl, hp, r⟩ := r3.lst
    refine .inr ⟨p, xs, rfl, SqL.of hp, fun p' hp' => ?_⟩
    exact k _ _ _ _ _ q3 (tt.trans (ext_upd hp').tr) (s3.ext (ext_upd hp')) (rep_newL s3 hp' (r.cutD _ _))
  · exact q3.elim

/-! ### built-ins by values -/
def e1 (p : D → (D → Prop) → Prop) (f : FE) : FE := fun ρ μ q => f ρ μ fun d μ1 => p d fun z => q z μ1
def e2 (p : D → D → (D → Prop) → Prop) (f g : FE) : FE := eBin p f g
theorem sim_c1 {P : Program} {w : World} {K : PySem.W.Frag} {r : List V → Hp → VK → Prop} {p : D → (D → Prop) → Prop} (ha : SimO P w K ta f) (hr : SimC1 P w K r p) : SimE P w K (tCB r (tCons ta tNil)) (e1 p f) := by
  intro W0 B W σ H ρ μ q Q s hf k
  refine ha s hf fun x μ1 v W1 H1 q1 t1 s1 r1 => ?_
  exact hr s1 r1 q1 fun d z W2 H2 q2 t2 s2 r2 => k _ _ _ _ _ q2 (t1.trans t2) s2 r2
theorem sim_c1F {P : Program} {w : World} {K : PySem.W.Frag} {r : List V → Hp → VK → Prop} {p : D → (D → Prop) → Prop} (ha : SimO P w K ta f) (hr : SimC1F P w K r p) : SimF P w K (tCB r (tCons ta tNil)) (e1 p f) := by
  intro W0 B W σ H ρ μ q Q s hf k
  refine ha s hf fun x μ1 v W1 H1 q1 t1 s1 r1 => ?_
  exact hr s1 r1 q1 fun d z W2 H2 q2 t2 s2 hn he hc r2 => k _ _ _ _ _ q2 (t1.trans t2) s2 (t1.back s1.wok hn) he hc r2
/-- a built-in function f(a) -/
theorem de_b1 {x : Str} {id : String} {r : List V → Hp → VK → Prop} {p : D → (D → Prop) → Prop} {pp : Pos} (hc : CallR X (.builtin id) r) (hr : SimC1 X.prog X.w X.K r p) (hg : Gl X x) (hm : X.mg x = none) (hv : bootBuiltins x = some (.builtin id)) (ha : DO X a ta f)
    (hn : x ≠ "__name__" := by decide) (hdb : (x == ("__debug__" : Str)) = false := by decide) (hs : starEach [a] X.env = [(false, eval a X.env)] := by rfl) :
    DE X (.Call (.Name x pp) [a] [] pos) (tCB r (tCons ta tNil)) (e1 p f) := ⟨pe_callB hc hg hm hv (pa_cons ha.pe pa_nil hs) hn hdb hs (by rfl), sim_c1 ha.sim hr⟩
theorem de_t1 {x : Str} {id : String} {r : List V → Hp → VK → Prop} {p : D → (D → Prop) → Prop} {pp : Pos} (hc : CallR X (.type id) r) (hr : SimC1 X.prog X.w X.K r p) (hg : Gl X x) (hm : X.mg x = none) (hv : bootBuiltins x = some (.type id)) (ha : DO X a ta f)
    (hn : x ≠ "__name__" := by decide) (hdb : (x == ("__debug__" : Str)) = false := by decide) (hs : starEach [a] X.env = [(false, eval a X.env)] := by rfl) :
    DE X (.Call (.Name x pp) [a] [] pos) (tCB r (tCons ta tNil)) (e1 p f) := ⟨pe_callTy hc hg hm hv (pa_cons ha.pe pa_nil hs) hn hdb hs (by rfl), sim_c1 ha.sim hr⟩
theorem df_b1 {x : Str} {id : String} {r : List V → Hp → VK → Prop} {p : D → (D → Prop) → Prop} {pp : Pos} (hc : CallR X (.builtin id) r) (hr : SimC1F X.prog X.w X.K r p) (hg : Gl X x) (hm : X.mg x = none) (hv : bootBuiltins x = some (.builtin id)) (ha : DO X a ta f)
    (hn : x ≠ "__name__" := by decide) (hdb : (x == ("__debug__" : Str)) = false := by decide) (hs : starEach [a] X.env = [(false, eval a X.env)] := by rfl) :
    DF X (.Call (.Name x pp) [a] [] pos) (tCB r (tCons ta tNil)) (e1 p f) := ⟨pe_callB hc hg hm hv (pa_cons ha.pe pa_nil hs) hn hdb hs (by rfl), sim_c1F ha.sim hr⟩
theorem df_t1 {x : Str} {id : String} {r : List V → Hp → VK → Prop} {p : D → (D → Prop) → Prop} {pp : Pos} (hc : CallR X (.type id) r) (hr : SimC1F X.prog X.w X.K r p) (hg : Gl X x) (hm : X.mg x = none) (hv : bootBuiltins x = some (.type id)) (ha : DO X a ta f)
    (hn : x ≠ "__name__" := by decide) (hdb : (x == ("__debug__" : Str)) = false := by decide) (hs : starEach [a] X.env = [(false, eval a X.env)] := by rfl) :
    DF X (.Call (.Name x pp) [a] [] pos) (tCB r (tCons ta tNil)) (e1 p f) := ⟨pe_callTy hc hg hm hv (pa_cons ha.pe pa_nil hs) hn hdb hs (by rfl), sim_c1F ha.sim hr⟩
/-- of two arguments, of three: ints -/
def cI2 (z : Int → Int → Int) : D → D → (D → Prop) → Prop
  | .int i, .int j, q => q (.int (z i j))
  | _, _, _ => False
theorem de_b2 {x : Str} {id : String} {z : Int → Int → Int} {pp : Pos} (hc : CallR X (.builtin id) fun xs H Q => ∃ i j, xs = [V.int i, V.int j] ∧ Q (.int (z i j)) H) (hg : Gl X x) (hm : X.mg x = none) (hv : bootBuiltins x = some (.builtin id)) (ha : DE X a ta f) (hb : DE X b tb g)
    (hn : x ≠ "__name__" := by decide) (hdb : (x == ("__debug__" : Str)) = false := by decide) (hs : starEach [a, b] X.env = (false, eval a X.env) :: starEach [b] X.env := by rfl) (hs2 : starEach [b] X.env = [(false, eval b X.env)] := by rfl) :
    DE X (.Call (.Name x pp) [a, b] [] pos) (tCB (fun xs H Q => ∃ i j, xs = [V.int i, V.int j] ∧ Q (.int (z i j)) H) (tCons ta (tCons tb tNil))) (eBin (cI2 z) f g) := by
  refine ⟨pe_callB hc hg hm hv (pa_cons ha.pe (pa_cons hb.pe pa_nil hs2) hs) hn hdb hs (by rw [hs2]; rfl), fun s hf k => ?_⟩
  refine ha.sim s hf fun x μ1 v W1 H1 q1 t1 s1 r1 => ?_
  refine hb.sim s1 q1 fun y μ2 u W2 H2 q2 t2 s2 r2 => ?_
  unfold cI2 at q2
  split at q2
  · cases r1
    cases r2
    exact ⟨_, _, rfl, k _ _ _ _ _ q2 (t1.trans t2) s2 (.int _)⟩
  · exact q2.elim
abbrev zMax (i j : Int) : Int := if j > i then j else i
abbrev zMin (i j : Int) : Int := if j < i then j else i
theorem de_max2 {pp : Pos} (hc : X.calm = true) (hm : X.mg "max" = none) (ha : DE X a ta f) (hb : DE X b tb g) (hg : Gl X "max" := by rfl) (hs : starEach [a, b] X.env = (false, eval a X.env) :: starEach [b] X.env := by rfl) (hs2 : starEach [b] X.env = [(false, eval b X.env)] := by rfl) :
    DE X (.Call (.Name "max" pp) [a, b] [] pos) (tCB (fun xs H Q => ∃ i j, xs = [V.int i, V.int j] ∧ Q (.int (zMax i j)) H) (tCons ta (tCons tb tNil))) (eBin (cI2 zMax) f g) :=
  de_b2 (z := zMax) (call_max2 hc) hg hm (by decide +kernel) ha hb (by decide) (by decide) hs hs2
theorem de_min2 {pp : Pos} (hc : X.calm = true) (hm : X.mg "min" = none) (ha : DE X a ta f) (hb : DE X b tb g) (hg : Gl X "min" := by rfl) (hs : starEach [a, b] X.env = (false, eval a X.env) :: starEach [b] X.env := by rfl) (hs2 : starEach [b] X.env = [(false, eval b X.env)] := by rfl) :
    DE X (.Call (.Name "min" pp) [a, b] [] pos) (tCB (fun xs H Q => ∃ i j, xs = [V.int i, V.int j] ∧ Q (.int (zMin i j)) H) (tCons ta (tCons tb tNil))) (eBin (cI2 zMin) f g) :=
  de_b2 (z := zMin) (call_min2 hc) hg hm (by decide +kernel) ha hb (by decide) (by decide) hs hs2
end

/-! ### len, abs, int, all, tuple, list, sorted, isinstance -/
def cLen : D → (D → Prop) → Prop
  | .tup ds, q => q (.int ds.length)
  | .lst ds, q => q (.int ds.length)
  | .ro ds, q => q (.int ds.length)
  | .str x, q => x.length ≤ sizeLine ∧ q (.int x.length)
  | _, _ => False
def cAbs : D → (D → Prop) → Prop
  | .int i, q => q (.int (if i < 0 then -i else i))
  | _, _ => False
def cInt : D → (D → Prop) → Prop
  | .int i, q => q (.int i)
  | .bl b, q => q (.int (if b then 1 else 0))
  | _, _ => False
def blL : List D → Option (List Bool)
  | [] => some []
  | .bl b :: ds => (blL ds).map (b :: ·)
  | _ => none
def blLD (d : D) (k : List Bool → Prop) : Prop := match d with
  | .lst ds => (match blL ds with
    | some bs => k bs
    | none => False)
  | _ => False
def cAll : D → (D → Prop) → Prop := fun d q => blLD d fun bs => q (.bl (bs.all id))
def cTuple : D → (D → Prop) → Prop
  | .tup ds, q => q (.tup ds)
  | .lst ds, q => q (.tup ds)
  | _, _ => False
def cList : D → (D → Prop) → Prop
  | .tup ds, q => q (.lst ds)
  | .lst ds, q => q (.lst ds)
  | _, _ => False
def intL : List D → Option (List Int)
  | [] => some []
  | .int i :: ds => (intL ds).map (i :: ·)
  | _ => none
def intLD (d : D) (k : List Int → Prop) : Prop := match d with
  | .lst ds => (match intL ds with
    | some bs => k bs
    | none => False)
  | _ => False
def sortI (ns : List Int) : List Int := ns.mergeSort fun a b => decide (a ≤ b)
def cSortI : D → (D → Prop) → Prop := fun d q => intLD d fun ns => q (.lst ((sortI ns).map D.int))
def cSum : D → (D → Prop) → Prop := fun d q => intLD d fun ns => q (.int ns.sum)
def maxL : List Int → Int
  | [] => 0
  | n :: ns => ns.foldl max n
def cMaxL : D → (D → Prop) → Prop := fun d q => intLD d fun ns => ns ≠ [] ∧ q (.int (maxL ns))
theorem intLD_of {d : D} {k : List Int → Prop} (h : intLD d k) : ∃ ns, d = .lst (ns.map D.int) ∧ k ns := by
  unfold intLD at h
  split at h
  · rename_i ds
    split at h
    · rename_i ns e
      refine ⟨ns, ?_, h⟩
      congr 1
      clear h
      induction ds generalizing ns with
      | nil =>
        cases e
        rfl
      | cons d ds ih =>
        cases d <;> first | (simp [intL] at e; done) | skip
        simp only [intL, Option.map_eq_some_iff] at e
        obtain ⟨ms, e1, rfl⟩ := e
        rw [List.map_cons, ← ih ms e1]
    · exact h.elim
  · exact h.elim
theorem blLD_of {d : D} {k : List Bool → Prop} (h : blLD d k) : ∃ ns, d = .lst (ns.map D.bl) ∧ k ns := by
  unfold blLD at h
  split at h
  · rename_i ds
    split at h
    · rename_i ns e
      refine ⟨ns, ?_, h⟩
      congr 1
      clear h
      induction ds generalizing ns with
      | nil =>
        cases e
        rfl
      | cons d ds ih =>
        cases d <;> first | (simp [blL] at e; done) | skip
        simp only [blL, Option.map_eq_some_iff] at e
        obtain ⟨ms, e1, rfl⟩ := e
        rw [List.map_cons, ← ih ms e1]
    · exact h.elim
  · exact h.elim
theorem sortI_uniq {ns ms : List Int} (h : ms.Perm ns) (s : ms.Pairwise (· ≤ ·)) : ms = sortI ns := by
  have h2 : (sortI ns).Perm ns := List.mergeSort_perm ns _
  have h3 : (sortI ns).Pairwise (fun a b => decide (a ≤ b) = true) := List.pairwise_mergeSort (fun a b c h1 h2 => by simp at *; omega) (fun a b => by simp; omega) ns
  exact (h.trans h2.symm).eq_of_pairwise (fun a b _ _ h1 h2 => by omega) s (h3.imp fun h => by simpa using h)
section
variable {P : Program} {w : World} {K : PySem.W.Frag}
theorem RepL.ints {W : Wd} {H : Hp} : ∀ {ns : List Int} {vs : List V}, RepL P w K W H vs (ns.map D.int) → vs = ns.map V.int
  | [], _, .nil => rfl
  | n :: ns, _, .cons r s => by
    cases r
    rw [RepL.ints s, List.map_cons]
theorem RepL.of_ints {W : Wd} {H : Hp} : ∀ (ns : List Int), RepL P w K W H (ns.map V.int) (ns.map D.int)
  | [] => .nil
  | n :: ns => .cons (.int n) (RepL.of_ints ns)
theorem RepL.bls {W : Wd} {H : Hp} : ∀ {ns : List Bool} {vs : List V}, RepL P w K W H vs (ns.map D.bl) → vs = ns.map V.bl
  | [], _, .nil => rfl
  | n :: ns, _, .cons r s => by
    cases r
    rw [RepL.bls s, List.map_cons]
theorem sim_len : SimC1 P w K (fun xs H Q => ∃ x n, xs = [x] ∧ LenV K x H n ∧ Q (.int n) H) cLen := by
  intro W0 B W σ H ρ μ x dx q Q s rx hq k
  unfold cLen at hq
  split at hq
  · obtain ⟨p, xs, rfl, hp, r⟩ := rx.tup
    exact ⟨_, _, rfl, .inr ⟨xs, hp.sq, rfl⟩, by rw [r.length]; exact k _ _ _ _ hq Tr.refl s (.int _)⟩
  · obtain ⟨p, xs, rfl, hp, r⟩ := rx.lst
    exact ⟨_, _, rfl, .inl ⟨xs, SqL.of hp, rfl⟩, by rw [r.length]; exact k _ _ _ _ hq Tr.refl s (.int _)⟩
  · obtain ⟨p, xs, rfl, hp, r⟩ := rx.ro
    exact ⟨_, _, rfl, .inl ⟨xs, hp, rfl⟩, by rw [r.length]; exact k _ _ _ _ hq Tr.refl s (.int _)⟩
  · cases rx.str
    exact ⟨_, _, rfl, ⟨hq.1, rfl⟩, k _ _ _ _ hq.2 Tr.refl s (.int _)⟩
  · exact hq.elim
theorem sim_abs : SimC1 P w K (fun xs H Q => ∃ i, xs = [.int i] ∧ Q (.int (if i < 0 then -i else i)) H) cAbs := by
  intro W0 B W σ H ρ μ x dx q Q s rx hq k
  unfold cAbs at hq
  split at hq
  · cases rx.int
    exact ⟨_, rfl, k _ _ _ _ hq Tr.refl s (.int _)⟩
  · exact hq.elim
theorem sim_int : SimC1 P w K (fun xs H Q => (∃ i, xs = [.int i] ∧ Q (.int i) H) ∨ ∃ k, xs = [.bl k] ∧ Q (.int (if k then 1 else 0)) H) cInt := by
  intro W0 B W σ H ρ μ x dx q Q s rx hq k
  unfold cInt at hq
  split at hq
  · cases rx.int
    exact .inl ⟨_, rfl, k _ _ _ _ hq Tr.refl s (.int _)⟩
  · cases rx.bl
    exact .inr ⟨_, rfl, k _ _ _ _ hq Tr.refl s (.int _)⟩
  · exact hq.elim
theorem sim_all : SimC1 P w K (rAll K) cAll := by
  intro W0 B W σ H ρ μ x dx q Q s rx hq k
  obtain ⟨bs, rfl, hq'⟩ := blLD_of hq
  obtain ⟨p, xs, rfl, hp, r⟩ := rx.lst
  rw [r.bls] at hp
  exact ⟨p, bs, rfl, SqL.of hp, k _ _ _ _ hq' Tr.refl s (.bl _)⟩
theorem sim_sum : SimC1 P w K (rSum K) cSum := by
  intro W0 B W σ H ρ μ x dx q Q s rx hq k
  obtain ⟨bs, rfl, hq'⟩ := intLD_of hq
  obtain ⟨p, xs, rfl, hp, r⟩ := rx.lst
  rw [r.ints] at hp
  exact ⟨p, bs, rfl, SqL.of hp, k _ _ _ _ hq' Tr.refl s (.int _)⟩
theorem foldl_max : ∀ (ns : List Int) (n : Int), n ≤ ns.foldl max n ∧ (∀ y ∈ ns, y ≤ ns.foldl max n) ∧ (ns.foldl max n = n ∨ ns.foldl max n ∈ ns)
  | [], n => by simp
  | m :: ns, n => by
    obtain ⟨h1, h2, h3⟩ := foldl_max ns (max n m)
    rw [List.foldl_cons]
    refine ⟨by omega, fun y hy => ?_, ?_⟩
    · rcases List.mem_cons.mp hy with e | hy
      · subst e
        omega
      · exact h2 y hy
    · rcases h3 with h3 | h3
      · rw [h3]
        by_cases e : n ≤ m
        · exact .inr (by rw [Int.max_eq_right e]; exact List.mem_cons_self)
        · exact .inl (Int.max_eq_left (by omega))
      · exact .inr (List.mem_cons_of_mem _ h3)
theorem maxL_spec {ns : List Int} (h : ns ≠ []) : maxL ns ∈ ns ∧ ∀ y ∈ ns, y ≤ maxL ns := by
  cases ns with
  | nil => exact absurd rfl h
  | cons n ns =>
    obtain ⟨h1, h2, h3⟩ := foldl_max ns n
    refine ⟨?_, fun y hy => ?_⟩
    · rcases h3 with h3 | h3
      · show ns.foldl max n ∈ _
        rw [h3]
        exact List.mem_cons_self
      · exact List.mem_cons_of_mem _ h3
    · rcases List.mem_cons.mp hy with e | hy
      · subst e
        exact h1
      · exact h2 y hy
theorem sim_maxL : SimC1 P w K (rMax K) cMaxL := by
  intro W0 B W σ H ρ μ x dx q Q s rx hq k
  obtain ⟨bs, rfl, hne, hq'⟩ := intLD_of hq
  obtain ⟨p, xs, rfl, hp, r⟩ := rx.lst
  rw [r.ints] at hp
  refine ⟨p, bs, rfl, SqL.of hp, List.length_pos_iff.mpr hne, fun m hm hle => ?_⟩
  obtain ⟨g1, g2⟩ := maxL_spec hne
  have e : m = maxL bs := by
    have := hle _ g1
    have := g2 _ hm
    omega
  rw [e]
  exact k _ _ _ _ hq' Tr.refl s (.int _)
theorem sim_sortI : SimC1F P w K (rSortedI K) cSortI := by
  intro W0 B W σ H ρ μ x dx q Q s rx hq k
  obtain ⟨bs, rfl, hq'⟩ := intLD_of hq
  obtain ⟨p, xs, rfl, hp, r⟩ := rx.lst
  rw [r.ints] at hp
  refine ⟨p, bs, rfl, SqL.of hp, fun ns' p' perm rising hn => ?_⟩
  rw [← sortI_uniq perm rising] at hq'
  obtain ⟨s2, t2, e2, c2⟩ := own_new (o := .lst (ns'.map V.int)) s hn
  exact k _ _ _ _ hq' t2 s2 hn e2 c2 (own_newL s hn (RepL.of_ints ns'))
end
/-! ### the rules by name -/
section
variable {X : Cx} {a : Expr} {ta : TE} {f : FE} {pos pp : Pos} {Kf : PySem.W.Frag}
abbrev rLenK (K : PySem.W.Frag) : List V → Hp → VK → Prop := fun xs H Q => ∃ x n, xs = [x] ∧ LenV K x H n ∧ Q (.int n) H
theorem de_len (hm : X.mg "len" = none) (ha : DO X a ta f) (hg : Gl X "len" := by rfl) (hs : starEach [a] X.env = [(false, eval a X.env)] := by rfl) (hK : X.K = Kf := by rfl) : DE X (.Call (.Name "len" pp) [a] [] pos) (tCB (rLenK Kf) (tCons ta tNil)) (e1 cLen f) := by
  subst hK
  exact de_b1 (p := cLen) call_len sim_len hg hm boot_len ha (by decide) (by decide) hs
theorem de_all (hm : X.mg "all" = none) (ha : DO X a ta f) (hg : Gl X "all" := by rfl) (hs : starEach [a] X.env = [(false, eval a X.env)] := by rfl) (hc : X.calm = true := by rfl) (hK : X.K = Kf := by rfl) : DE X (.Call (.Name "all" pp) [a] [] pos) (tCB (rAll Kf) (tCons ta tNil)) (e1 cAll f) := by
  subst hK
  exact de_b1 (p := cAll) (cr_all hc) sim_all hg hm (by decide +kernel) ha (by decide) (by decide) hs
theorem de_sum (hm : X.mg "sum" = none) (ha : DO X a ta f) (hg : Gl X "sum" := by rfl) (hs : starEach [a] X.env = [(false, eval a X.env)] := by rfl) (hc : X.calm = true := by rfl) (hK : X.K = Kf := by rfl) : DE X (.Call (.Name "sum" pp) [a] [] pos) (tCB (rSum Kf) (tCons ta tNil)) (e1 cSum f) := by
  subst hK
  exact de_b1 (p := cSum) (cr_sum hc) sim_sum hg hm (by decide +kernel) ha (by decide) (by decide) hs
theorem de_maxL (hm : X.mg "max" = none) (ha : DO X a ta f) (hg : Gl X "max" := by rfl) (hs : starEach [a] X.env = [(false, eval a X.env)] := by rfl) (hc : X.calm = true := by rfl) (hK : X.K = Kf := by rfl) : DE X (.Call (.Name "max" pp) [a] [] pos) (tCB (rMax Kf) (tCons ta tNil)) (e1 cMaxL f) := by
  subst hK
  exact de_b1 (p := cMaxL) (cr_max hc) sim_maxL hg hm (by decide +kernel) ha (by decide) (by decide) hs
theorem df_sortI (hm : X.mg "sorted" = none) (ha : DO X a ta f) (hg : Gl X "sorted" := by rfl) (hs : starEach [a] X.env = [(false, eval a X.env)] := by rfl) (hK : X.K = Kf := by rfl) : DF X (.Call (.Name "sorted" pp) [a] [] pos) (tCB (rSortedI Kf) (tCons ta tNil)) (e1 cSortI f) := by
  subst hK
  exact df_b1 (p := cSortI) cr_sortedI sim_sortI hg hm (by decide +kernel) ha (by decide) (by decide) hs
theorem de_abs (hm : X.mg "abs" = none) (ha : DO X a ta f) (hg : Gl X "abs" := by rfl) (hs : starEach [a] X.env = [(false, eval a X.env)] := by rfl) : DE X (.Call (.Name "abs" pp) [a] [] pos) (tCB (fun xs H Q => ∃ i, xs = [V.int i] ∧ Q (.int (if i < 0 then -i else i)) H) (tCons ta tNil)) (e1 cAbs f) :=
  de_b1 (p := cAbs) call_abs sim_abs hg hm (by decide +kernel) ha (by decide) (by decide) hs
theorem de_intc (hm : X.mg "int" = none) (ha : DO X a ta f) (hg : Gl X "int" := by rfl) (hs : starEach [a] X.env = [(false, eval a X.env)] := by rfl) : DE X (.Call (.Name "int" pp) [a] [] pos) (tCB (fun xs H Q => (∃ i, xs = [V.int i] ∧ Q (.int i) H) ∨ ∃ k, xs = [V.bl k] ∧ Q (.int (if k then 1 else 0)) H) (tCons ta tNil)) (e1 cInt f) :=
  de_t1 (p := cInt) call_int1 sim_int hg hm (by decide +kernel) ha (by decide) (by decide) hs
end
end DL

set_option Elab.async false
set_option linter.all false
set_option maxRecDepth 100000
set_option maxHeartbeats 4000000
/-! DL6: isinstance, tuple(), list(), calls, what a loop walks, comprehensions. -/
namespace DL
open PySem PySem.Spec PyProof.Rows L2

/-! ### isinstance -/
def tyN : D → Option String
  | .non => some "NoneType"
  | .bl _ => some "bool"
  | .int _ => some "int"
  | .str _ => some "str"
  | .tup _ => some "tuple"
  | .lst _ => some "list"
  | .ro _ => some "list"
  | _ => none
abbrev tyNames : List String := ["NoneType", "bool", "int", "str", "tuple", "list"]
def isTy (T n : String) : Bool := n == T || (n == "bool" && T == "int")
def cIsi (T : String) : D → (D → Prop) → Prop := fun d q => match tyN d with
  | some n => q (.bl (isTy T n))
  | none => False
section
variable {P : Program} {w : World} {K : PySem.W.Frag}
theorem TupAt.ty {W : Wd} {H : Hp} {a : Addr} {xs : List V} (h : TupAt K W H a xs) : TyX K H (.ref a) (.type "tuple") := by
  rcases h with ⟨_, h⟩ | h
  · exact .base (.tup h)
  · rcases h (fun _ => none) with (z | ⟨_, z⟩) | ⟨o, its, n, e, c, _⟩
    · cases z
    · cases z
    · exact .kTuple e c
theorem RoAt.ty {W : Wd} {H : Hp} {a : Addr} {xs : List V} (h : RoAt K W H a xs) : TyX K H (.ref a) (.type "list") := by
  rcases h with ⟨_, h | ⟨o, h⟩⟩ | h
  · exact .base (.lst h)
  · exact .base (.frz h)
  · rcases h (fun _ => none) with (z | ⟨_, z⟩) | ⟨o, its, n, e, c, _⟩
    · cases z
    · cases z
    · exact .kList e c
theorem Rep.ty {W : Wd} {H : Hp} {v : V} {d : D} {n : String} (r : Rep P w K W H v d) (h : tyN d = some n) : TyX K H v (.type n) ∧ n ∈ tyNames := by
  cases r <;> first
    | (cases h; exact ⟨.base .non, by decide⟩)
    | (cases h; exact ⟨.base (.bl _), by decide⟩)
    | (cases h; exact ⟨.base (.int _), by decide⟩)
    | (cases h; exact ⟨.base (.str _), by decide⟩)
    | (rename_i t _; cases h; exact ⟨t.ty, by decide⟩)
    | (rename_i t _; cases h; exact ⟨.base (.lst t), by decide⟩)
    | (rename_i t _; cases h; exact ⟨t.ty, by decide⟩)
    | cases h
end
section
variable {X : Cx} {a b c : Expr} {ta tb tc : TE} {f g h : FE} {pos : Pos} {es : List Expr} {tA : TA} {F : FA}
theorem de_isi {Kf : PySem.W.Frag} {T : Str} {Tn : String} {p1 p2 : Pos} (hm : X.mg "isinstance" = none) (hmT : X.mg T = none) (hv : bootBuiltins T = some (.type Tn)) (ha : DE X a ta f) (hT : ∀ n ∈ tyNames, kitB n Tn = some (isTy Tn n) := by decide +kernel)
    (hg : Gl X "isinstance" := by rfl) (hgT : Gl X T := by rfl) (hnT : T ≠ "__name__" := by decide) (hdT : (T == ("__debug__" : Str)) = false := by decide)
    (hs : starEach [a, .Name T p2] X.env = (false, eval a X.env) :: starEach [.Name T p2] X.env := by rfl) (hpl : (backTo pos (starEach [.Name T p2] X.env)).any (·.1) = false := by rfl) (hK : X.K = Kf := by rfl) :
    DE X (.Call (.Name "isinstance" p1) [a, .Name T p2] [] pos) (tCB (rIsi Kf) (tCons ta (tCons (tC (.ty Tn)) tNil))) (e1 (cIsi Tn) f) := by
  subst hK
  refine ⟨pe_callB call_isi hg hm (by decide +kernel) (pa_cons ha.pe (pa_cons (pe_bltn hgT hmT hv rfl hnT hdT) pa_nil) hs) (by decide) (by decide) hs hpl, fun s hf k => ?_⟩
  refine ha.sim s hf fun d μ1 v W1 H1 q1 t1 s1 r1 => ?_
  unfold cIsi at q1
  split at q1
  · rename_i n e
    obtain ⟨h1, h2⟩ := r1.ty e
    exact ⟨_, _, _, _, _, rfl, .ty Tn, h1, kit_ty (hT n h2), k _ _ _ _ _ q1 t1 s1 (.bl _)⟩
  · exact q1.elim
end
section
variable {P : Program} {w : World} {K : PySem.W.Frag}
theorem sim_tuple : SimC1 P w K (fun xs H Q => ∃ p ys, xs = [.ref p] ∧ ((SqL K H p ys ∧ ∀ l, H l = none → Q (.ref l) (upd H l (.tup ys))) ∨ (SqT K H p ys ∧ Q (.ref p) H))) cTuple := by
  intro W0 B W σ H ρ μ x dx q Q s rx hq k
  unfold cTuple at hq
  split at hq
  · obtain ⟨p, xs, rfl, hp, r⟩ := rx.tup
    exact ⟨p, xs, rfl, .inr ⟨hp.sq, k _ _ _ _ hq Tr.refl s (.tup hp r)⟩⟩
  · obtain ⟨p, xs, rfl, hp, r⟩ := rx.lst
    exact ⟨p, xs, rfl, .inl ⟨SqL.of hp, fun l hl => k _ _ _ _ hq (ext_upd hl).tr (s.ext (ext_upd hl)) (rep_newT s hl r)⟩⟩
  · exact hq.elim
theorem sim_list : SimC1F P w K (fun xs H Q => ∃ p ys, xs = [.ref p] ∧ (SqL K H p ys ∨ SqT K H p ys) ∧ ∀ l, H l = none → Q (.ref l) (upd H l (.lst ys))) cList := by
  intro W0 B W σ H ρ μ x dx q Q s rx hq k
  unfold cList at hq
  split at hq
  · obtain ⟨p, xs, rfl, hp, r⟩ := rx.tup
    refine ⟨p, xs, rfl, .inr hp.sq, fun l hl => ?_⟩
    obtain ⟨s2, t2, e2, c2⟩ := own_new (o := .lst xs) s hl
    exact k _ _ _ _ hq t2 s2 hl e2 c2 (own_newL s hl r)
  · obtain ⟨p, xs, rfl, hp, r⟩ := rx.lst
    refine ⟨p, xs, rfl, .inl (SqL.of hp), fun l hl => ?_⟩
    obtain ⟨s2, t2, e2, c2⟩ := own_new (o := .lst xs) s hl
    exact k _ _ _ _ hq t2 s2 hl e2 c2 (own_newL s hl r)
  · exact hq.elim
end

/-! ### the text's own defs -/
abbrev FSem := List D → Mu → (D → Mu → Prop) → Prop
section
variable (P : Program) (w : World) (K : PySem.W.Frag)
/-- what a call hands back: plain data (fr = false), or a new list or dict -/
def RetOk (fr : Bool) (W0 : Wd) (B : Hp) (W : Wd) (H : Hp) (v : V) (d : D) : Prop := match fr with
  | false => Rep P w K W H v d
  | true => ∃ p, v = .ref p ∧ B p = none ∧ W.ex p ∧ p ∉ W.C ∧ OwnAt P w K W H p d
def spD (n : Nat) (fr : Bool) (F : FSem) : Sp := fun vs H Q _ => ∃ W ds μ q, ds.length = n ∧ WOk W H ∧ Cells P w K W H μ ∧ RepL P w K W H vs ds ∧ F ds μ q ∧
  ∀ d μ' v W' H', q d μ' → Tr W H W' H' → WOk W' H' → Cells P w K W' H' μ' → RetOk P w K fr W H W' H' v d → Q v H'
/-- a def of the module by its name -/
structure Fn (mg : Str → Option Value) (base : Heap) (k : Nat) (x : Str) (n : Nat) (fr : Bool) (F : FSem) : Prop where
  ex : ∃ (f : Addr) (fd : FuncData) (ps : List Str), FnOk P w K mg base CX0 k f fd ps (spD P w K n fr F) ∧ mg x = some (.ref f) ∧ PySem.W.keepIn K (.ref f) = true ∧ Binds K fd ps []
end
theorem Fn.imp {P : Program} {w : World} {K : PySem.W.Frag} {mg : Str → Option Value} {base : Heap} {k n : Nat} {x : Str} {fr : Bool} {F F' : FSem} (h : Fn P w K mg base k x n fr F) (i : ∀ ds μ q, ds.length = n → F' ds μ q → F ds μ q) : Fn P w K mg base k x n fr F' := by
  obtain ⟨f, fd, ps, h1, h2⟩ := h.ex
  refine ⟨f, fd, ps, h1.imp fun vs H Q E hs => ?_, h2⟩
  obtain ⟨W, ds, μ, q, a, b, c, d, e, g⟩ := hs
  exact ⟨W, ds, μ, q, a, b, c, d, i _ _ _ a e, g⟩
def eCall (F : FSem) (A : FA) : FE := fun ρ μ q => A ρ μ fun ds μ1 => F ds μ1 q
section
variable {X : Cx} {a b c : Expr} {ta tb tc : TE} {f g h : FE} {pos p : Pos} {es : List Expr} {tA : TA} {A : FA} {k n : Nat} {x : Str} {F : FSem}
theorem de_call {Pf : Program} {wf : World} {Kf : PySem.W.Frag} (G : Fn Pf wf Kf X.mg X.base k x n false F) (hr : Room k X.A) (ha : DA X (a :: es) tA A) (hn : (a :: es).length = n := by rfl) (hg : Gl X x := by rfl)
    (hdb : (x == ("__debug__" : Str)) = false := by decide) (he : starEach (a :: es) X.env = (false, eval a X.env) :: starEach es X.env := by rfl) (hpl : (backTo pos (starEach es X.env)).any (·.1) = false := by rfl) (hP : X.prog = Pf := by rfl) (hw : X.w = wf := by rfl) (hK : X.K = Kf := by rfl) :
    DE X (.Call (.Name x p) (a :: es) [] pos) (tCall (spD Pf wf Kf n false F) [] E0 tA) (eCall F A) := by
  subst hP hw hK
  obtain ⟨fa, fd, ps, h1, h2, h3, h4⟩ := G.ex
  refine ⟨pe_call h1 hr hg h2 h3 h4 .nil pass0 ha.pa hdb he hpl, fun s hf k => ?_⟩
  refine ha.sim s hf fun ds μ1 vs W1 H1 l1 q1 t1 s1 r1 => ?_
  rw [List.append_nil]
  exact ⟨W1, ds, μ1, _, l1.trans hn, s1.wok, s1.cel, r1, q1, fun d μ' v W' H' q t ok c r => k d μ' v W' H' q (t1.trans t) (s1.step t ok c) r⟩
theorem df_call {Pf : Program} {wf : World} {Kf : PySem.W.Frag} (G : Fn Pf wf Kf X.mg X.base k x n true F) (hr : Room k X.A) (ha : DA X (a :: es) tA A) (hn : (a :: es).length = n := by rfl) (hg : Gl X x := by rfl)
    (hdb : (x == ("__debug__" : Str)) = false := by decide) (he : starEach (a :: es) X.env = (false, eval a X.env) :: starEach es X.env := by rfl) (hpl : (backTo pos (starEach es X.env)).any (·.1) = false := by rfl) (hP : X.prog = Pf := by rfl) (hw : X.w = wf := by rfl) (hK : X.K = Kf := by rfl) :
    DF X (.Call (.Name x p) (a :: es) [] pos) (tCall (spD Pf wf Kf n true F) [] E0 tA) (eCall F A) := by
  subst hP hw hK
  obtain ⟨fa, fd, ps, h1, h2, h3, h4⟩ := G.ex
  refine ⟨pe_call h1 hr hg h2 h3 h4 .nil pass0 ha.pa hdb he hpl, fun s hf k => ?_⟩
  refine ha.sim s hf fun ds μ1 vs W1 H1 l1 q1 t1 s1 r1 => ?_
  rw [List.append_nil]
  refine ⟨W1, ds, μ1, _, l1.trans hn, s1.wok, s1.cel, r1, q1, fun d μ' v W' H' q t ok c r => ?_⟩
  obtain ⟨pp, rfl, n1, n2, n3, n4⟩ := r
  exact k d μ' pp W' H' q (t1.trans t) (s1.step t ok c) (t1.back s1.wok n1) n2 n3 n4
end
section
variable {X : Cx} {a : Expr} {ta : TE} {f : FE} {pos pp : Pos} {Kf : PySem.W.Frag}
abbrev rTupK (K : PySem.W.Frag) : List V → Hp → VK → Prop := fun xs H Q => ∃ p ys, xs = [.ref p] ∧ ((SqL K H p ys ∧ ∀ l, H l = none → Q (.ref l) (upd H l (.tup ys))) ∨ (SqT K H p ys ∧ Q (.ref p) H))
theorem de_tuplec (hm : X.mg "tuple" = none) (ha : DO X a ta f) (hg : Gl X "tuple" := by rfl) (hs : starEach [a] X.env = [(false, eval a X.env)] := by rfl) (hc : X.calm = true := by rfl) (hK : X.K = Kf := by rfl) : DE X (.Call (.Name "tuple" pp) [a] [] pos) (tCB (rTupK Kf) (tCons ta tNil)) (e1 cTuple f) := by
  subst hK
  exact de_t1 (p := cTuple) call_tuple_of sim_tuple hg hm (by decide +kernel) ha (by decide) (by decide) hs
abbrev rLstK (K : PySem.W.Frag) : List V → Hp → VK → Prop := fun xs H Q => ∃ p ys, xs = [.ref p] ∧ (SqL K H p ys ∨ SqT K H p ys) ∧ ∀ l, H l = none → Q (.ref l) (upd H l (.lst ys))
theorem df_listc (hm : X.mg "list" = none) (ha : DO X a ta f) (hg : Gl X "list" := by rfl) (hs : starEach [a] X.env = [(false, eval a X.env)] := by rfl) (hc : X.calm = true := by rfl) (hK : X.K = Kf := by rfl) : DF X (.Call (.Name "list" pp) [a] [] pos) (tCB (rLstK Kf) (tCons ta tNil)) (e1 cList f) := by
  subst hK
  exact df_t1 (p := cList) call_list_of sim_list hg hm (by decide +kernel) ha (by decide) (by decide) hs
end
end DL

set_option Elab.async false
set_option linter.all false
set_option maxRecDepth 100000
set_option maxHeartbeats 4000000
/-! DL7: targets, what is walked, comprehensions. -/
namespace DL
open PySem PySem.Spec PyProof.Rows L2

abbrev FG := D → Loc → (Loc → Prop) → Prop
abbrev FGs := List D → Loc → (Loc → Prop) → Prop
abbrev FI := Loc → Mu → (List D → Mu → Prop) → Prop
section
variable (P : Program) (w : World) (K : PySem.W.Frag)
/-- a target that stores into the slots js -/
def SimG (t : TG) (f : FG) (js : List Nat) : Prop := ∀ {W0 : Wd} {B : Hp} {W : Wd} {σ : L2.St} {H : Hp} {ρ : Loc} {μ : Mu} {v : V} {d : D} {q : Loc → Prop} {Q : L2.St → Hp → Prop}, SR P w K W0 B W σ H ρ μ → Rep P w K W H v d → f d ρ q →
  (∀ ρ' σ', q ρ' → SR P w K W0 B W σ' H ρ' μ → (σ'.length = σ.length ∧ ∀ j : Nat, j ∉ js → σ'[j]? = σ[j]?) → Q σ' H) → t v σ H Q
def SimGs (t : TGs) (f : FGs) (js : List Nat) : Prop := ∀ {W0 : Wd} {B : Hp} {W : Wd} {σ : L2.St} {H : Hp} {ρ : Loc} {μ : Mu} {vs : List V} {ds : List D} {q : Loc → Prop} {Q : L2.St → Hp → Prop}, SR P w K W0 B W σ H ρ μ → RepL P w K W H vs ds → f ds ρ q →
  (∀ ρ' σ', q ρ' → SR P w K W0 B W σ' H ρ' μ → (σ'.length = σ.length ∧ ∀ j : Nat, j ∉ js → σ'[j]? = σ[j]?) → Q σ' H) → t vs σ H Q
/-- what is walked gives the items ds, one after another -/
def SimI (t : TI) (f : FI) : Prop := ∀ {W0 : Wd} {B : Hp} {W : Wd} {σ : L2.St} {H : Hp} {ρ : Loc} {μ : Mu} {q : List D → Mu → Prop} {R : It → Hp → Prop}, SR P w K W0 B W σ H ρ μ → f ρ μ q →
  (∀ ds μ' W' H' (J : It) (G : Hp → Prop) (Y : Nat → Hp → V → Hp → Prop), q ds μ' → Tr W H W' H' → SR P w K W0 B W' σ H' ρ μ' → Walk J ds.length G Y → (∀ W2 H2, TrS W' H' W2 H2 → G H2) →
    (∀ i Hi x Hi' W2 d, TrS W' H' W2 Hi → (∀ a, W2.ex a → ∃ o, Hi a = some o) → Y i Hi x Hi' → ds[i]? = some d → Ext Hi Hi' ∧ Rep P w K W2 Hi' x d) → R J H') → t σ H R
end
structure DG (X : Cx) (tg : Expr) (t : TG) (f : FG) (js : List Nat) : Prop where
  pg : PG X tg t
  sim : SimG X.prog X.w X.K t f js
structure DGs (X : Cx) (tgs : List Expr) (t : TGs) (f : FGs) (js : List Nat) : Prop where
  pgs : PGs X tgs t
  sim : SimGs X.prog X.w X.K t f js
structure DI (X : Cx) (tg it : Expr) (t : TI) (f : FI) : Prop where
  pi : PI X tg it t
  sim : SimI X.prog X.w X.K t f

section
variable {P : Program} {w : World} {K : PySem.W.Frag} {W0 W W' : Wd} {B H H' : Hp} {σ : L2.St} {ρ : Loc} {μ μ' : Mu}
theorem SR.set (s : SR P w K W0 B W σ H ρ μ) {v : V} {d : D} (i : Nat) (r : Rep P w K W H v d) : SR P w K W0 B W (σ.set i (some v)) H (ρ.set i (some (.dat d))) μ where
  len := by rw [List.length_set, List.length_set, s.len]
  dat := fun j e h => by
    by_cases hj : i = j
    · subst hj
      by_cases hl : i < ρ.length
      · rw [List.getElem?_set_self hl] at h
        cases h
        exact ⟨v, by rw [List.getElem?_set_self (by rw [s.len]; exact hl)], r⟩
      · rw [List.getElem?_eq_none (by rw [List.length_set]; omega)] at h
        cases h
    · rw [List.getElem?_set_ne hj] at h ⊢
      exact s.dat j e h
  own := fun j e h => by
    by_cases hj : i = j
    · subst hj
      by_cases hl : i < ρ.length
      · rw [List.getElem?_set_self hl] at h
        cases h
      · rw [List.getElem?_eq_none (by rw [List.length_set]; omega)] at h
        cases h
    · rw [List.getElem?_set_ne hj] at h ⊢
      exact s.own j e h
  inj := fun j k d e a n h1 h2 h3 h4 => by
    have nj : i ≠ j := fun z => by
      subst z
      by_cases hl : i < ρ.length
      · rw [List.getElem?_set_self hl] at h1
        cases h1
      · rw [List.getElem?_eq_none (by rw [List.length_set]; omega)] at h1
        cases h1
    have nk : i ≠ k := fun z => by
      subst z
      by_cases hl : i < ρ.length
      · rw [List.getElem?_set_self hl] at h2
        cases h2
      · rw [List.getElem?_eq_none (by rw [List.length_set]; omega)] at h2
        cases h2
    rw [List.getElem?_set_ne nj] at h1 h3
    rw [List.getElem?_set_ne nk] at h2 h4
    exact s.inj j k d e a n h1 h2 h3 h4
  wok := s.wok
  cel := s.cel
  base := s.base
  ent := s.ent
/-- fewer slots are told -/
theorem SR.sub (s : SR P w K W0 B W σ H ρ μ) {σ' : L2.St} {ρ' : Loc} (hl : σ'.length = ρ'.length) (h : ∀ (i : Nat) e, ρ'[i]? = some (some e) → ρ[i]? = some (some e) ∧ σ'[i]? = σ[i]?) : SR P w K W0 B W σ' H ρ' μ where
  len := hl
  dat := fun i d e => by
    obtain ⟨h1, h2⟩ := h i _ e
    rw [h2]
    exact s.dat i d h1
  own := fun i d e => by
    obtain ⟨h1, h2⟩ := h i _ e
    rw [h2]
    exact s.own i d h1
  inj := fun i j d e a n h1 h2 h3 h4 => by
    obtain ⟨g1, k1⟩ := h i _ h1
    obtain ⟨g2, k2⟩ := h j _ h2
    exact s.inj i j d e a n g1 g2 (k1 ▸ h3) (k2 ▸ h4)
  wok := s.wok
  cel := s.cel
  base := s.base
  ent := s.ent
def wipeL (ρ : Loc) : List Nat → Loc
  | [] => ρ
  | v :: vs => (wipeL ρ vs).set v none
theorem wipeL_length (ρ : Loc) : ∀ vs : List Nat, (wipeL ρ vs).length = ρ.length
  | [] => rfl
  | v :: vs => by unfold wipeL; rw [List.length_set, wipeL_length ρ vs]
theorem wipeL_some {ρ : Loc} {i : Nat} {x : Slot} : ∀ {vs : List Nat}, (wipeL ρ vs)[i]? = some (some x) → ρ[i]? = some (some x) ∧ i ∉ vs
  | [], h => ⟨h, by simp⟩
  | v :: vs, h => by
    unfold wipeL at h
    by_cases hi : v = i
    · subst hi
      by_cases hv : v < (wipeL ρ vs).length
      · rw [List.getElem?_set_self hv] at h; cases h
      · rw [List.getElem?_eq_none (by simpa using hv)] at h; cases h
    · rw [List.getElem?_set_ne hi] at h
      obtain ⟨h1, h2⟩ := wipeL_some h
      exact ⟨h1, by simp only [List.mem_cons, not_or]; exact ⟨fun e => hi e.symm, h2⟩⟩
theorem wipe_in {σ : L2.St} {i : Nat} : ∀ {vs : List Nat}, i ∈ vs → i < σ.length → (wipe σ vs)[i]? = some none
  | v :: vs, h, hl => by
    unfold wipe
    by_cases e : v = i
    · subst e
      rw [List.getElem?_set_self (by rw [wipe_length]; exact hl)]
    · rw [List.getElem?_set_ne e]
      exact wipe_in ((List.mem_cons.mp h).resolve_left fun z => e z.symm) hl
theorem wipe_same {σ τ : L2.St} {vs : List Nat} (hl : σ.length = τ.length) (h : ∀ j : Nat, j ∉ vs → σ[j]? = τ[j]?) : wipe σ vs = wipe τ vs := by
  apply List.ext_getElem?
  intro i
  by_cases m : i ∈ vs
  · by_cases hi : i < σ.length
    · rw [wipe_in m hi, wipe_in m (hl ▸ hi)]
    · rw [List.getElem?_eq_none (by rw [wipe_length]; omega), List.getElem?_eq_none (by rw [wipe_length]; omega)]
  · rw [wipe_out m, wipe_out m, h i m]
theorem SR.wipe (s : SR P w K W0 B W σ H ρ μ) (vs : List Nat) : SR P w K W0 B W (L2.wipe σ vs) H (wipeL ρ vs) μ :=
  s.sub (by rw [wipe_length, wipeL_length, s.len]) fun i e h => by
    obtain ⟨h1, h2⟩ := wipeL_some h
    exact ⟨h1, wipe_out h2⟩
/-- the frame's own list or dict at D, that no slot holds, is written -/
theorem SR.write (s : SR P w K W0 B W σ H ρ μ) {p : Addr} (hD : W.ex p) (hC : p ∉ W.C) (hB : B p = none) (hO : ∀ (i : Nat) d, ρ[i]? = some (some (.own d)) → σ[i]? ≠ some (some (.ref p))) (o : HO) : SR P w K W0 B W σ (upd H p o) ρ μ := by
  have t : TrS W H W (upd H p o) := ⟨fun _ _ h => h, fun a u n e => ⟨by rw [upd_ne (fun z => n (by rw [z]; exact hD))]; exact e, n⟩⟩
  refine ⟨s.len, fun i d e => ?_, fun i d e => ?_, s.inj, ⟨s.wok.sub, fun a h => ?_, s.wok.nd⟩, ⟨s.cel.len, fun n a ob h1 h2 => ?_⟩, ⟨s.base.C, s.base.ex, fun a u n e => ?_⟩, s.ent⟩
  · obtain ⟨v, h1, h2⟩ := s.dat i d e
    exact ⟨v, h1, h2.tr t⟩
  · obtain ⟨a, h1, h2, h3, h4, h5⟩ := s.own i d e
    have ne : a ≠ p := fun z => hO i d e (z ▸ h1)
    exact ⟨a, h1, h2, h3, h4, h5.tr t fun u q => by rw [upd_ne ne]; exact q⟩
  · by_cases z : a = p
    · subst z
      exact ⟨o, upd_same⟩
    · obtain ⟨u, q⟩ := s.wok.dom a h
      exact ⟨u, by rw [upd_ne z]; exact q⟩
  · have ne : a ≠ p := fun z => hC (z ▸ List.mem_of_getElem? h1)
    exact (s.cel.at_ n a ob h1 h2).tr t fun u q => by rw [upd_ne ne]; exact q
  · obtain ⟨h1, h2, h3⟩ := s.base.fr a u n e
    have ne : a ≠ p := fun z => by
      subst z
      rw [hB] at e
      cases e
    exact ⟨by rw [upd_ne ne]; exact h1, h2, h3⟩
end

/-! ### targets -/
section
variable {X : Cx} {tg : Expr} {tgs : List Expr} {pos : Pos}
def gtName (i : Nat) : FG := fun d ρ q => q (ρ.set i (some (.dat d)))
theorem dg_name {i : Nat} {x : Str} (hN : X.N.Nodup) (hi : X.N[i]? = some x := by rfl) (hx : L2.Loc X.env.scope x := by first | exact Or.inl rfl | exact Or.inr rfl) (hf : X.fn x = true ∨ X.env.scope.names.lookup x = some .local := by first | exact .inl rfl | exact .inr rfl) : DG X (.Name x pos) (gName i) (gtName i) [i] := by
  refine ⟨pg_name hN hi hx hf, fun s r hf k => ?_⟩
  exact k _ _ hf (s.set i r) ⟨List.length_set, fun j hj => List.getElem?_set_ne (fun e => hj (by simp [e]))⟩
def gtNil : FGs := fun ds ρ q => match ds with
  | [] => q ρ
  | _ => False
def gtCons (f : FG) (g : FGs) : FGs := fun ds ρ q => match ds with
  | d :: r => f d ρ fun ρ' => g r ρ' q
  | _ => False
theorem dgs_nil : DGs X [] gNil gtNil [] := by
  refine ⟨pgs_nil, fun s r hf k => ?_⟩
  unfold gtNil at hf
  split at hf
  · cases r
    exact ⟨rfl, k _ _ hf s ⟨rfl, fun _ _ => rfl⟩⟩
  · exact hf.elim
theorem dgs_cons {t : TG} {u : TGs} {f : FG} {g : FGs} {js ks : List Nat} (ha : DG X tg t f js) (hb : DGs X tgs u g ks) (hs : (assignEach (tg :: tgs) X.env).map (·.2) = assign tg X.env :: (assignEach tgs X.env).map (·.2) := by rfl) : DGs X (tg :: tgs) (gCons t u) (gtCons f g) (js ++ ks) := by
  refine ⟨pgs_cons ha.pg hb.pgs hs, fun {W0 B W σ H ρ μ vs ds q Q} s r hf k => ?_⟩
  unfold gtCons at hf
  split at hf
  · cases r with
    | cons r rr =>
      refine ⟨_, _, rfl, ha.sim s r hf fun ρ' σ' hq s' e => ?_⟩
      refine hb.sim s' rr hq fun ρ2 σ2 q2 s2 e2 => k ρ2 σ2 q2 s2 ⟨e2.1.trans e.1, fun j hj => ?_⟩
      rw [List.mem_append, not_or] at hj
      rw [e2.2 j hj.2, e.2 j hj.1]
  · exact hf.elim
def gtTup (n : Nat) (g : FGs) : FG := fun d ρ q => match d with
  | .tup ds => ds.length = n ∧ g ds ρ q
  | _ => False
theorem dg_tup {Kf : PySem.W.Frag} {kk n : Nat} {u : TGs} {g : FGs} {js : List Nat} (hc : X.calm = true) (hb : DGs X tgs u g js) (hn : (assignEach tgs X.env).length = n := by rfl) (hst : (assignEach tgs X.env).findIdx? (·.1) = none := by rfl) (hK : X.K = Kf := by rfl) : DG X (.Tuple tgs kk pos) (gTup Kf n u) (gtTup n g) js := by
  subst hK
  refine ⟨pg_tup hc hb.pgs hn hst, fun s r hf k => ?_⟩
  unfold gtTup at hf
  split at hf
  · cases r with
    | tup h r => exact ⟨_, _, rfl, h.sq, r.length.trans hf.1, hb.sim s r hf.2 k⟩
  · exact hf.elim
end
end DL

set_option Elab.async false
set_option linter.all false
set_option maxRecDepth 100000
set_option maxHeartbeats 4000000
/-! DL8: what is walked; comprehensions. -/
namespace DL
open PySem PySem.Spec PyProof.Rows L2

section
variable {P : Program} {w : World} {K : PySem.W.Frag} {W0 W W' : Wd} {B H H' : Hp} {σ : L2.St} {ρ : Loc} {μ μ' : Mu}
theorem Rep.ext {v : V} {d : D} (e : Ext H H') (r : Rep P w K W H v d) : Rep P w K W H' v d := r.tr e.trS
/-- a new pair -/
theorem pair_ok {dom : ∀ a, W.ex a → ∃ o, H a = some o} {T : Addr} {x y : V} {dx dy : D} (hT : H T = none) (rx : Rep P w K W H x dx) (ry : Rep P w K W H y dy) : Ext H (upd H T (.tup [x, y])) ∧ Rep P w K W (upd H T (.tup [x, y])) (.ref T) (.tup [dx, dy]) := by
  refine ⟨ext_upd hT, .tup (.inl ⟨fun z => ?_, upd_same⟩) (.cons (rx.ext (ext_upd hT)) (.cons (ry.ext (ext_upd hT)) .nil))⟩
  obtain ⟨o, ho⟩ := dom T z
  rw [hT] at ho
  cases ho
end

section
variable {X : Cx} {tg a b c : Expr} {ta tb tc : TE} {f g h : FE} {pos : Pos}
/-- a list's or a tuple's items -/
def seqD (d : D) (k : List D → Prop) : Prop := match d with
  | .tup ds => k ds
  | .lst ds => k ds
  | _ => False
def tupD (d : D) (k : List D → Prop) : Prop := match d with
  | .tup ds => k ds
  | _ => False
def lstD (d : D) (k : List D → Prop) : Prop := match d with
  | .lst ds => k ds
  | _ => False
theorem tupD_of {d : D} {k : List D → Prop} (h : tupD d k) : ∃ ds, d = .tup ds ∧ k ds := by
  unfold tupD at h
  split at h
  · exact ⟨_, rfl, h⟩
  · exact h.elim
theorem lstD_of {d : D} {k : List D → Prop} (h : lstD d k) : ∃ ds, d = .lst ds ∧ k ds := by
  unfold lstD at h
  split at h
  · exact ⟨_, rfl, h⟩
  · exact h.elim
def iTupD (f : FE) : FI := fun ρ μ q => f ρ μ fun d μ1 => tupD d fun ds => q ds μ1
def iLstD (f : FE) : FI := fun ρ μ q => f ρ μ fun d μ1 => lstD d fun ds => q ds μ1
theorem di_tup (ha : DE X a ta f) : DI X tg a (iTup X.K ta) (iTupD f) := by
  refine ⟨pi_tup ha.pe, fun s hf k => ?_⟩
  refine ha.sim s hf fun d μ1 v W1 H1 q1 t1 s1 r1 => ?_
  obtain ⟨ds, rfl, q1'⟩ := tupD_of q1
  cases r1 with
  | tup hp r =>
    rename_i p xs
    refine ⟨p, rfl, ⟨xs, hp.sq⟩, k ds μ1 W1 H1 _ (fun H => SqT X.K H p xs) (YAt xs) q1' t1 s1 (r.length ▸ walk_tup) (fun W2 H2 t2 => (hp.tr t2).sq) fun i Hi x Hi' W2 d t2 dom y hd => ?_⟩
    obtain ⟨rfl, hx⟩ := y
    obtain ⟨v, hv, rv⟩ := r.get hd
    rw [hx] at hv
    cases hv
    exact ⟨Ext.refl, rv.tr t2⟩
theorem di_lst (ha : DE X a ta f) : DI X tg a (iList X.K ta) (iLstD f) := by
  refine ⟨pi_list ha.pe, fun s hf k => ?_⟩
  refine ha.sim s hf fun d μ1 v W1 H1 q1 t1 s1 r1 => ?_
  obtain ⟨ds, rfl, q1'⟩ := lstD_of q1
  cases r1 with
  | lst n hp r =>
    rename_i p xs
    refine ⟨p, rfl, ⟨xs, SqL.of hp⟩, k ds μ1 W1 H1 _ (fun H => SqL X.K H p xs) (YAt xs) q1' t1 s1 (r.length ▸ walk_list) (fun W2 H2 t2 => SqL.of (t2.fr p _ n hp).1) fun i Hi x Hi' W2 d t2 dom y hd => ?_⟩
    obtain ⟨rfl, hx⟩ := y
    obtain ⟨v, hv, rv⟩ := r.get hd
    rw [hx] at hv
    cases hv
    exact ⟨Ext.refl, rv.tr t2⟩
/-! ranges -/
def rgD (lo : Int) (n : Nat) : List D := (List.range n).map fun i => .int (lo + (i : Nat))
theorem rgD_length (lo : Int) (n : Nat) : (rgD lo n).length = n := by simp [rgD]
theorem rgD_get {lo : Int} {n i : Nat} {d : D} (h : (rgD lo n)[i]? = some d) : d = .int (lo + (i : Nat)) := by
  unfold rgD at h
  rw [List.getElem?_map] at h
  by_cases hi : i < n
  · rw [List.getElem?_range hi] at h
    cases h
    rfl
  · rw [List.getElem?_eq_none (by simpa using hi)] at h
    cases h
abbrev sm (i : Int) : Prop := -(2 ^ 62) ≤ i ∧ i < 2 ^ 62
def iR1 (f : FE) : FI := fun ρ μ q => f ρ μ fun d μ1 => intD d fun n => sm n ∧ q (rgD 0 n.toNat) μ1
def iR2 (f g : FE) : FI := fun ρ μ q => f ρ μ fun d μ1 => intD d fun i => g ρ μ1 fun e μ2 => intD e fun j => sm i ∧ sm j ∧ q (rgD i (j - i).toNat) μ2
theorem di_r1 {p : Pos} (hm : X.mg "range" = none) (ha : DE X a ta f) (hg : Gl X "range" := by rfl) (hs : starEach [a] X.env = [(false, eval a X.env)] := by rfl) : DI X tg (.Call (.Name "range" p) [a] [] pos) (iRng1 (tCons ta tNil)) (iR1 f) := by
  refine ⟨pi_range1 hg hm (pa_cons ha.pe pa_nil hs) hs, fun s hf k => ?_⟩
  refine ha.sim s hf fun d μ1 v W1 H1 q1 t1 s1 r1 => ?_
  obtain ⟨n, rfl, h1, q1'⟩ := intD_of q1
  cases r1
  refine ⟨n, rfl, h1.1, h1.2, k _ μ1 W1 H1 _ (fun _ => True) (YFn fun i => .int (0 + i)) q1' t1 s1 (by rw [rgD_length]; exact walk_range) (fun _ _ _ => trivial) fun i Hi x Hi' W2 d t2 dom y hd => ?_⟩
  obtain ⟨rfl, rfl⟩ := y
  rw [rgD_get hd]
  exact ⟨Ext.refl, .int _⟩
theorem di_r2 {p : Pos} (hm : X.mg "range" = none) (ha : DE X a ta f) (hb : DE X b tb g) (hg : Gl X "range" := by rfl) (hs : starEach [a, b] X.env = (false, eval a X.env) :: starEach [b] X.env := by rfl) (hs2 : starEach [b] X.env = [(false, eval b X.env)] := by rfl) :
    DI X tg (.Call (.Name "range" p) [a, b] [] pos) (iRng2 (tCons ta (tCons tb tNil))) (iR2 f g) := by
  refine ⟨pi_range2 hg hm (pa_cons ha.pe (pa_cons hb.pe pa_nil hs2) hs) (by rw [hs, hs2]) hs2, fun s hf k => ?_⟩
  refine ha.sim s hf fun d μ1 v W1 H1 q1 t1 s1 r1 => ?_
  obtain ⟨i, rfl, q1'⟩ := intD_of q1
  cases r1
  refine hb.sim s1 q1' fun e μ2 u W2 H2 q2 t2 s2 r2 => ?_
  obtain ⟨j, rfl, h1, h2, q2'⟩ := intD_of q2
  cases r2
  refine ⟨i, j, rfl, ⟨h1.1, h1.2, h2.1, h2.2⟩, k _ μ2 W2 H2 _ (fun _ => True) (YFn fun l => .int (i + l)) q2' (t1.trans t2) s2 (by rw [rgD_length]; exact walk_range) (fun _ _ _ => trivial) fun i Hi x Hi' W2 d t2 dom y hd => ?_⟩
  obtain ⟨rfl, rfl⟩ := y
  rw [rgD_get hd]
  exact ⟨Ext.refl, .int _⟩
/-- a step -/
def rgC (lo c : Int) (n : Nat) : List D := (List.range n).map fun i => .int (lo + (i : Nat) * c)
theorem rgC_length (lo c : Int) (n : Nat) : (rgC lo c n).length = n := by simp [rgC]
theorem rgC_get {lo c : Int} {n i : Nat} {d : D} (h : (rgC lo c n)[i]? = some d) : d = .int (lo + (i : Nat) * c) := by
  unfold rgC at h
  rw [List.getElem?_map] at h
  by_cases hi : i < n
  · rw [List.getElem?_range hi] at h
    cases h
    rfl
  · rw [List.getElem?_eq_none (by simpa using hi)] at h
    cases h
def iR3 (f g h : FE) : FI := fun ρ μ q => f ρ μ fun d μ1 => intD d fun i => g ρ μ1 fun e μ2 => intD e fun j => h ρ μ2 fun z μ3 => intD z fun c => ∃ n, RgC i j c n ∧ q (rgC i c n) μ3
theorem di_r3 {p : Pos} (hm : X.mg "range" = none) (ha : DE X a ta f) (hb : DE X b tb g) (hc : DE X c tc h) (hg : Gl X "range" := by rfl) (hs : starEach [a, b, c] X.env = (false, eval a X.env) :: starEach [b, c] X.env := by rfl)
    (hs2 : starEach [b, c] X.env = (false, eval b X.env) :: starEach [c] X.env := by rfl) (hs3 : starEach [c] X.env = [(false, eval c X.env)] := by rfl) :
    DI X tg (.Call (.Name "range" p) [a, b, c] [] pos) (iRng3 (tCons ta (tCons tb (tCons tc tNil)))) (iR3 f g h) := by
  refine ⟨pi_range3 hg hm (pa_cons ha.pe (pa_cons hb.pe (pa_cons hc.pe pa_nil hs3) hs2) hs) hs (by rw [hs2, hs3]; rfl), fun s hf k => ?_⟩
  refine ha.sim s hf fun d μ1 v W1 H1 q1 t1 s1 r1 => ?_
  obtain ⟨i, rfl, q1'⟩ := intD_of q1
  cases r1
  refine hb.sim s1 q1' fun e μ2 u W2 H2 q2 t2 s2 r2 => ?_
  obtain ⟨j, rfl, q2'⟩ := intD_of q2
  cases r2
  refine hc.sim s2 q2' fun z μ3 u3 W3 H3 q3 t3 s3 r3 => ?_
  obtain ⟨c, rfl, n, hn, q3'⟩ := intD_of q3
  cases r3
  refine ⟨i, j, c, n, rfl, hn, k _ μ3 W3 H3 _ (fun _ => True) (YFn fun l => .int (i + (l : Nat) * c)) q3' ((t1.trans t2).trans t3) s3 (by rw [rgC_length]; exact walk_rangeC) (fun _ _ _ => trivial) fun i Hi x Hi' W2 d t2 dom y hd => ?_⟩
  obtain ⟨rfl, rfl⟩ := y
  rw [rgC_get hd]
  exact ⟨Ext.refl, .int _⟩
/-! a text's signs -/
def strD (d : D) (k : Str → Prop) : Prop := match d with
  | .str x => k x
  | _ => False
theorem strD_of {d : D} {k : Str → Prop} (h : strD d k) : ∃ x, d = .str x ∧ k x := by
  unfold strD at h
  split at h
  · exact ⟨_, rfl, h⟩
  · exact h.elim
def signs (x : Str) : List D := x.cps.toList.map fun c => .str ⟨#[c]⟩
def iStrD (f : FE) : FI := fun ρ μ q => f ρ μ fun d μ1 => strD d fun x => q (signs x) μ1
theorem di_str (ha : DE X a ta f) : DI X tg a (L2.iStr ta) (iStrD f) := by
  refine ⟨pi_str ha.pe, fun s hf k => ?_⟩
  refine ha.sim s hf fun d μ1 v W1 H1 q1 t1 s1 r1 => ?_
  obtain ⟨z, rfl, q1'⟩ := strD_of q1
  cases r1
  refine ⟨z, rfl, k _ μ1 W1 H1 _ (fun _ => True) _ q1' t1 s1 (by rw [show (signs z).length = z.cps.size by simp [signs]]; exact walk_str) (fun _ _ _ => trivial) fun i Hi x Hi' W2 d t2 dom y hd => ?_⟩
  obtain ⟨rfl, c, hc, rfl⟩ := y
  unfold signs at hd
  rw [List.getElem?_map] at hd
  rw [show z.cps.toList[i]? = some c by simpa using hc] at hd
  cases hd
  exact ⟨Ext.refl, .str _⟩
/-! zip of two lists, of two tuples -/
def zipD (xs ys : List D) : List D := (xs.zip ys).map fun p => .tup [p.1, p.2]
theorem zipD_length (xs ys : List D) : (zipD xs ys).length = min xs.length ys.length := by simp [zipD]
theorem zipD_get {xs ys : List D} {i : Nat} {d : D} (h : (zipD xs ys)[i]? = some d) : ∃ x y, xs[i]? = some x ∧ ys[i]? = some y ∧ d = .tup [x, y] := by
  unfold zipD at h
  rw [List.getElem?_map, Option.map_eq_some_iff] at h
  obtain ⟨⟨x, y⟩, h1, h2⟩ := h
  rw [List.getElem?_zip_eq_some] at h1
  exact ⟨x, y, h1.1, h1.2, h2.symm⟩
def zipQ (d e : D) (k : List D → Prop) : Prop := match d, e with
  | .lst xs, .lst ys => k (zipD xs ys)
  | .tup xs, .tup ys => k (zipD xs ys)
  | _, _ => False
def iZipD (f g : FE) : FI := fun ρ μ q => f ρ μ fun d μ1 => g ρ μ1 fun e μ2 => zipQ d e fun ds => q ds μ2
theorem walk_zipT {K : PySem.W.Frag} {p p' : Addr} {xs ys : List V} {n : Nat} (hn : n = min xs.length ys.length) : Walk (RZ.ItzT K p p') n (fun H => SqT K H p xs ∧ SqT K H p' ys) (YPair (fun i => xs[i]?) (fun i => ys[i]?)) := by
  subst hn
  constructor
  · intro i H hi q
    have h1 : i < xs.length := by omega
    have h2 : i < ys.length := by omega
    exact ⟨xs, ys, _, _, q.1, q.2, List.getElem?_eq_getElem h1, List.getElem?_eq_getElem h2⟩
  · intro H q
    exact ⟨xs, ys, q.1, q.2, by omega⟩
  · rintro i H v H' hi q ⟨T, x, z, e1, e2, e3, e4, e5⟩
    exact ⟨T, x, z, e1, e2, e3, e4 xs q.1, e5 ys q.2⟩
theorem di_zip {Kf : PySem.W.Frag} {p tpos : Pos} {elts : List Expr} {kk : Nat} (hm : X.mg "zip" = none) (ha : DE X a ta f) (hb : DE X b tb g) (hg : Gl X "zip" := by rfl) (hs : starEach [a, b] X.env = (false, eval a X.env) :: starEach [b] X.env := by rfl) (hs2 : starEach [b] X.env = [(false, eval b X.env)] := by rfl) (hK : X.K = Kf := by rfl) :
    DI X (.Tuple elts kk tpos) (.Call (.Name "zip" p) [a, b] [] pos) (RZ.iZipA Kf (tCons ta (tCons tb tNil))) (iZipD f g) := by
  subst hK
  refine ⟨RZ.pi_zipA hg hm (pa_cons ha.pe (pa_cons hb.pe pa_nil hs2) hs) hs (by rw [hs2]; rfl), fun s hf k => ?_⟩
  refine ha.sim s hf fun d μ1 v W1 H1 q1 t1 s1 r1 => ?_
  refine hb.sim s1 q1 fun e μ2 u W2 H2 q2 t2 s2 r2 => ?_
  have r1' := r1.tr (s1.trs t2)
  unfold zipQ at q2
  split at q2
  · cases r1' with
    | lst n hp rx =>
      cases r2 with
      | lst n' hp' ry =>
        rename_i pa xs pb ys
        refine ⟨pa, pb, xs, ys, rfl, .inl ⟨SqL.of hp, SqL.of hp', k _ μ2 W2 H2 _ _ _ q2 (t1.trans t2) s2 (walk_zip (by rw [zipD_length, rx.length, ry.length])) (fun W3 H3 t3 => ⟨SqL.of (t3.fr pa _ n hp).1, SqL.of (t3.fr pb _ n' hp').1⟩) fun i Hi x Hi' W3 d t3 dom y hd => ?_⟩⟩
        obtain ⟨T, x', y', rfl, hT, rfl, hx, hy⟩ := y
        obtain ⟨dx, dy, e1, e2, rfl⟩ := zipD_get hd
        obtain ⟨v1, g1, g2⟩ := rx.get e1
        obtain ⟨v2, g3, g4⟩ := ry.get e2
        have hx : xs[i]? = some x' := hx
        have hy : ys[i]? = some y' := hy
        rw [hx] at g1
        cases g1
        rw [hy] at g3
        cases g3
        exact pair_ok (dom := dom) hT (g2.tr t3) (g4.tr t3)
  · cases r1' with
    | tup hp rx =>
      cases r2 with
      | tup hp' ry =>
        rename_i pa xs pb ys
        refine ⟨pa, pb, xs, ys, rfl, .inr ⟨hp.sq, hp'.sq, k _ μ2 W2 H2 _ _ _ q2 (t1.trans t2) s2 (walk_zipT (by rw [zipD_length, rx.length, ry.length])) (fun W3 H3 t3 => ⟨(hp.tr t3).sq, (hp'.tr t3).sq⟩) fun i Hi x Hi' W3 d t3 dom y hd => ?_⟩⟩
        obtain ⟨T, x', y', rfl, hT, rfl, hx, hy⟩ := y
        obtain ⟨dx, dy, e1, e2, rfl⟩ := zipD_get hd
        obtain ⟨v1, g1, g2⟩ := rx.get e1
        obtain ⟨v2, g3, g4⟩ := ry.get e2
        have hx : xs[i]? = some x' := hx
        have hy : ys[i]? = some y' := hy
        rw [hx] at g1
        cases g1
        rw [hy] at g3
        cases g3
        exact pair_ok (dom := dom) hT (g2.tr t3) (g4.tr t3)
  · exact q2.elim
/-! enumerate of a list -/
def enumD (xs : List D) : List D := xs.mapIdx fun i x => .tup [.int (i : Nat), x]
theorem enumD_get {xs : List D} {i : Nat} {d : D} (h : (enumD xs)[i]? = some d) : ∃ x, xs[i]? = some x ∧ d = .tup [.int (i : Nat), x] := by
  unfold enumD at h
  rw [List.getElem?_mapIdx, Option.map_eq_some_iff] at h
  obtain ⟨x, h1, h2⟩ := h
  exact ⟨x, h1, h2.symm⟩
def iEnumD (f : FE) : FI := fun ρ μ q => f ρ μ fun d μ1 => lstD d fun ds => q (enumD ds) μ1
theorem di_enumL {p tpos : Pos} {elts : List Expr} {kk : Nat} (hm : X.mg "enumerate" = none) (ha : DE X a ta f) (hg : Gl X "enumerate" := by rfl) (hs : starEach [a] X.env = [(false, eval a X.env)] := by rfl) :
    DI X (.Tuple elts kk tpos) (.Call (.Name "enumerate" p) [a] [] pos) (iEnum X.K (tCons ta tNil)) (iEnumD f) := by
  refine ⟨pi_enum hg hm (pa_cons ha.pe pa_nil hs) hs, fun s hf k => ?_⟩
  refine ha.sim s hf fun d μ1 v W1 H1 q1 t1 s1 r1 => ?_
  obtain ⟨ds, rfl, q1'⟩ := lstD_of q1
  cases r1 with
  | lst n hp r =>
    rename_i pa xs
    refine ⟨pa, xs, rfl, SqL.of hp, k _ μ1 W1 H1 _ _ _ q1' t1 s1 (by rw [show (enumD ds).length = xs.length by simp [enumD, r.length]]; exact walk_enum) (fun W3 H3 t3 => SqL.of (t3.fr pa _ n hp).1) fun i Hi x Hi' W3 d t3 dom y hd => ?_⟩
    obtain ⟨T, x', y', rfl, hT, rfl, hx, hy⟩ := y
    obtain ⟨dx, e1, rfl⟩ := enumD_get hd
    obtain ⟨v1, g1, g2⟩ := r.get e1
    cases hx
    have hy : xs[i]? = some y' := hy
    rw [hy] at g1
    cases g1
    exact pair_ok (dom := dom) hT (.int _) (g2.tr t3)
end

/-! ### comprehensions -/
structure DTs (X : Cx) (ifs : List Expr) (t : TT) (f : FT) : Prop where
  pt : PTs X ifs t
  sim : SimT X.prog X.w X.K t f
def tYesF : FT := fun _ μ q => q true μ
section
variable {X : Cx} {c : Expr} {t : TT} {f : FT}
theorem dts_nil : DTs X [] tYes tYesF := ⟨pts_nil, fun s hf k => k _ _ _ _ hf Tr.refl s⟩
theorem dts_one (h : DT X c t f) : DTs X [c] t f := ⟨pts_one h.pt, h.sim⟩
end
def lcL (tg : FG) (tt : FT) (el : FE) (ρ : Loc) : List D → Mu → (List D → Mu → Prop) → Prop
  | [], μ, q => q [] μ
  | d :: ds, μ, q => tg d ρ fun ρ1 => tt ρ1 μ fun b μ1 => if b = true then el ρ1 μ1 fun y μ2 => lcL tg tt el ρ ds μ2 fun ys μ3 => q (y :: ys) μ3 else lcL tg tt el ρ ds μ1 q
def eLc (it : FI) (tg : FG) (tt : FT) (el : FE) (vs : List Nat) : FE := fun ρ μ q => it ρ μ fun ds μ1 => ds.length ≤ sizeLine ∧ lcL tg tt el (wipeL ρ vs) ds μ1 fun ys μ2 => q (.lst ys) μ2
theorem sim_lc {P : Program} {w : World} {K : PySem.W.Frag} {wi : TI} {g : TG} {tt : TT} {te : TE} {vs js : List Nat} {fi : FI} {fg : FG} {ft : FT} {fe : FE} (hi : SimI P w K wi fi) (hg : SimG P w K g fg js) (ht : SimT P w K tt ft) (he : SimE P w K te fe) (hj : ∀ j ∈ js, j ∈ vs) :
    SimF P w K (tLc wi g tt te vs) (eLc fi fg ft fe vs) := by
  intro W0 B W σ H ρ μ q Q s hf k
  refine hi s hf fun ds μ1 W1 H1 J G Y ⟨hz, q1⟩ t1 s1 wk hG hY => ?_
  intro p hp
  have hB : B p = none := s1.base.back s1.wok hp
  have hO : ∀ (i : Nat) d, ρ[i]? = some (some (.own d)) → σ[i]? ≠ some (some (.ref p)) := fun i d e z => by
    obtain ⟨a, h1, _, _, _, h5⟩ := s1.own i d e
    rw [z] at h1
    cases h1
    obtain ⟨o, ho⟩ := h5.some
    rw [hp] at ho
    cases ho
  refine lc_it wk (fun i H' => ∃ W' μ' acc dacc, Tr W1 H1 W' H' ∧ SR P w K W0 B W' σ H' ρ μ' ∧ W'.ex p ∧ p ∉ W'.C ∧ H' p = some (.lst acc) ∧ RepL P w K W' H' acc dacc ∧ acc.length ≤ i ∧
    lcL fg ft fe (wipeL ρ vs) (ds.drop i) μ' (fun ys μ2 => q (.lst (dacc ++ ys)) μ2)) ?_ ?_ ?_ ?_
  · obtain ⟨s2, t2, e2, c2⟩ := own_new (o := .lst []) s1 hp
    exact ⟨W1.put p, μ1, [], [], t2, s2, e2, c2, upd_same, .nil, Nat.le_refl _, q1⟩
  · rintro i H' _ ⟨W', μ', acc, dacc, tr, sr, _⟩
    exact hG W' H' (s1.trs tr)
  · rintro i x H2 H3 hlt ⟨W', μ', acc, dacc, tr, sr, hex, hC, hacc, racc, hl, hq⟩ y
    have hd : ds[i]? = some ds[i] := by simp [hlt]
    rw [show ds.drop i = ds[i] :: ds.drop (i + 1) by rw [List.drop_eq_getElem_cons hlt]] at hq
    obtain ⟨ex, rx⟩ := hY i H2 x H3 W' ds[i] (s1.trs tr) sr.wok.dom y hd
    have sr3 := sr.ext ex
    refine hg (sr3.wipe vs) rx hq fun ρ4 σ4 q4 s4 e4 => ?_
    refine ⟨?_, ?_⟩
    · have h1 : wipe σ4 vs = wipe (wipe σ vs) vs := wipe_same (vs := vs) e4.1 fun j hjv => e4.2 j fun m => hjv (hj j m)
      rw [h1]
      exact wipe_same (wipe_length σ vs) fun j hjv => wipe_out hjv
    · refine ht s4 q4 fun b μ5 W5 H5 q5 t5 s5 => ?_
      have t35 : Tr W1 H1 W5 H5 := (tr.trans ex.tr).trans t5
      cases b with
      | false =>
        show ∃ _, _
        exact ⟨W5, μ5, acc, dacc, t35, sr3.step t5 s5.wok s5.cel, t5.ex p hex, (t5.fr p _ hC (ex p _ hacc)).2.1, (t5.fr p _ hC (ex p _ hacc)).1, racc.tr (ex.trS.trans (sr3.trs t5)), by omega, q5⟩
      | true =>
        show te _ H5 _
        refine he s5 q5 fun d6 μ6 v6 W6 H6 q6 t6 s6 r6 => ?_
        have hp5 := t5.fr p _ hC (ex p _ hacc)
        have hp6 := t6.fr p _ hp5.2.1 hp5.1
        have t16 : Tr W1 H1 W6 H6 := t35.trans t6
        have sr6 := (sr3.step t5 s5.wok s5.cel).step t6 s6.wok s6.cel
        have hex6 := t6.ex p (t5.ex p hex)
        have hz' : ds.length ≤ sizeLine := hz
        refine ⟨acc, hp6.1, by omega, W6, μ6, acc ++ [v6], dacc ++ [d6], ?_, sr6.write hex6 hp6.2.1 hB hO _, hex6, hp6.2.1, upd_same, ?_, by simp; omega, ?_⟩
        · refine ⟨t16.C, t16.ex, fun a o n e => ?_⟩
          obtain ⟨g1, g2, g3⟩ := t16.fr a o n e
          have ne : a ≠ p := fun z => by
            subst z
            rw [hp] at e
            cases e
          exact ⟨by rw [upd_ne ne]; exact g1, g2, g3⟩
        · have tw : TrS W6 H6 W6 (upd H6 p (.lst (acc ++ [v6]))) := ⟨fun _ _ h => h, fun a u n e => ⟨by rw [upd_ne (fun z => n (by rw [z]; exact hex6))]; exact e, n⟩⟩
          exact (((racc.tr (ex.trS.trans (sr3.trs t5))).tr (s5.trs t6)).append (.one r6)).tr tw
        · simpa using q6
  · rintro H' ⟨W', μ', acc, dacc, tr, sr, hex, hC, hacc, racc, hl, hq⟩
    rw [List.drop_length] at hq
    have hq' : q (.lst (dacc ++ [])) μ' := hq
    rw [List.append_nil] at hq'
    exact k _ _ p W' H' hq' (t1.trans tr) sr (t1.back s1.wok hp) hex hC ⟨acc, hacc, racc⟩
end DL

set_option Elab.async false
set_option linter.all false
set_option maxRecDepth 100000
set_option maxHeartbeats 4000000
/-! DL9: statements, defs. -/
namespace DL
open PySem PySem.Spec PyProof.Rows L2

structure FEnds where
  nx : Loc → Mu → Prop
  rt : D → Mu → Prop
  bk : Loc → Mu → Prop := fun _ _ => False
  ct : Loc → Mu → Prop := fun _ _ => False
abbrev FS := FEnds → Loc → Mu → Prop
section
variable (P : Program) (w : World) (K : PySem.W.Frag)
/-- the ends of a statement that stands at W, H -/
structure EOk (fr : Bool) (W0 : Wd) (B : Hp) (W : Wd) (H : Hp) (q : FEnds) (E : Ends) : Prop where
  nx : ∀ ρ' μ' W' σ' H', q.nx ρ' μ' → TrS W H W' H' → SR P w K W0 B W' σ' H' ρ' μ' → E.nx σ' H'
  rt : ∀ d μ' v W' H', q.rt d μ' → Tr W0 B W' H' → WOk W' H' → Cells P w K W' H' μ' → RetOk P w K fr W0 B W' H' v d → E.rt v H'
  bk : ∀ ρ' μ' W' σ' H', q.bk ρ' μ' → TrS W H W' H' → SR P w K W0 B W' σ' H' ρ' μ' → E.bk σ' H'
  ct : ∀ ρ' μ' W' σ' H', q.ct ρ' μ' → TrS W H W' H' → SR P w K W0 B W' σ' H' ρ' μ' → E.ct σ' H'
def SimS (fr : Bool) (t : TS) (f : FS) : Prop := ∀ {W0 : Wd} {B : Hp} {W : Wd} {σ : L2.St} {H : Hp} {ρ : Loc} {μ : Mu} {q : FEnds} {E : Ends}, SR P w K W0 B W σ H ρ μ → f q ρ μ → EOk P w K fr W0 B W H q E → t E σ H
end
section
variable {P : Program} {w : World} {K : PySem.W.Frag} {W0 W W' : Wd} {B H H' : Hp} {σ : L2.St} {ρ : Loc} {μ μ' : Mu} {fr : Bool} {q : FEnds} {E : Ends}
theorem EOk.tr (k : EOk P w K fr W0 B W H q E) (t : TrS W H W' H') : EOk P w K fr W0 B W' H' q E :=
  ⟨fun ρ' μ' W2 σ' H2 h t2 s => k.nx ρ' μ' W2 σ' H2 h (t.trans t2) s, k.rt, fun ρ' μ' W2 σ' H2 h t2 s => k.bk ρ' μ' W2 σ' H2 h (t.trans t2) s, fun ρ' μ' W2 σ' H2 h t2 s => k.ct ρ' μ' W2 σ' H2 h (t.trans t2) s⟩
end
structure DS (X : Cx) (fr : Bool) (st : Stmt) (t : TS) (f : FS) : Prop where
  ps : PS X st t
  sim : SimS X.prog X.w X.K fr t f
structure DSs (X : Cx) (fr : Bool) (st : List Stmt) (t : TS) (f : FS) : Prop where
  ps : PSs X st t
  sim : SimS X.prog X.w X.K fr t f
/-- a comprehension: as a value, and stored into a name -/
structure DLc (X : Cx) (e : Expr) (t : TE) (f : FE) : Prop where
  pe : PE X e t
  set : ∀ {i : Nat} {y : Str} {py spos : Pos}, X.N[i]? = some y → X.env.scope.names.lookup y = some .local → swapsWith e (some (.Name y py)) spos.line X.env = pure true → PS X (.Assign [.Name y py] e spos) (tAsg t (gName i))
  sim : SimF X.prog X.w X.K t f

section
variable {X : Cx} {fr : Bool} {st : Stmt} {rest : List Stmt} {t u : TS} {F G : FS} {e a b c : Expr} {te ta tb : TE} {f g : FE} {pos pos' : Pos} {x : Str}
theorem dlc {elt tg iter : Expr} {ifs : List Expr} {scope : Scope} {own : List (Str × Nat)} {wi : TI} {gg : TG} {tt : TT} {fi : FI} {fg : FG} {ft : FT} {js : List Nat} (hc : X.calm = true) (hN : X.N.Nodup) (hi : DI X tg iter wi fi) (ok : BlkOk X.N X.env.scope scope own)
    (hg : ∀ (s : Shared) (H : Hp) (C : Addr) (cl : List (Str × Addr)) (fp : List Addr), DG (X.blk s H scope (compEnvC scope cl C X.env) fp) tg gg fg js) (ht : ∀ (s : Shared) (H : Hp) (C : Addr) (cl : List (Str × Addr)) (fp : List Addr), DTs (X.blk s H scope (compEnvC scope cl C X.env) fp) ifs tt ft)
    (he : ∀ (s : Shared) (H : Hp) (C : Addr) (cl : List (Str × Addr)) (fp : List Addr), DE (X.blk s H scope (compEnvC scope cl C X.env) fp) elt te f) (hj : (js.all fun j => (own.map (·.2)).contains j) = true := by rfl) (hs : ∀ x, foldedSetIterable iter X.env x = pure x := by intro _; rfl) :
    DLc X (.ListComp elt [⟨tg, iter, ifs, 0⟩] scope pos) (tLc wi gg tt te (own.map (·.2))) (eLc fi fg ft f (own.map (·.2))) where
  pe := pe_lc hc hN hi.pi ok (fun s H C cl fp => (hg s H C cl fp).pg) (fun s H C cl fp => (ht s H C cl fp).pt) (fun s H C cl fp => (he s H C cl fp).pe) hs
  set := fun h1 h2 h3 => ps_setLc hc hN h1 h2 h3 hi.pi ok (fun s H C cl fp => (hg s H C cl fp).pg) (fun s H C cl fp => (ht s H C cl fp).pt) (fun s H C cl fp => (he s H C cl fp).pe) hs
  sim := sim_lc hi.sim (hg {} (fun _ => none) 0 [] []).sim (ht {} (fun _ => none) 0 [] []).sim (he {} (fun _ => none) 0 [] []).sim fun j m => by
    have q := List.all_eq_true.mp hj j m
    simpa using q
theorem DLc.df (h : DLc X e te f) : DF X e te f := ⟨h.pe, h.sim⟩
theorem DLc.de (h : DLc X e te f) : DE X e te f := h.df.de

/-! ### blocks -/
def sNext : FS := fun q ρ μ => q.nx ρ μ
def sSeq (f g : FS) : FS := fun q ρ μ => f { q with nx := g q } ρ μ
theorem sim_next {P : Program} {w : World} {K : PySem.W.Frag} : SimS P w K fr tNext sNext := fun s hf k => k.nx _ _ _ _ _ hf TrS.refl s
theorem sim_seq {P : Program} {w : World} {K : PySem.W.Frag} (h1 : SimS P w K fr t F) (h2 : SimS P w K fr u G) : SimS P w K fr (tSeq t u) (sSeq F G) := by
  intro W0 B W σ H ρ μ q E s hf k
  exact h1 s hf ⟨fun ρ' μ' W' σ' H' hq tr s' => h2 s' hq (k.tr tr), k.rt, k.bk, k.ct⟩
theorem dss_nil : DSs X fr [] tNext sNext := ⟨pss_nil, sim_next⟩
theorem dss_cons (h1 : DS X fr st t F) (h2 : DSs X fr rest u G) : DSs X fr (st :: rest) (tSeq t u) (sSeq F G) := ⟨pss_cons h1.ps h2.ps, sim_seq h1.sim h2.sim⟩
theorem dss_one (h1 : DS X fr st t F) : DSs X fr [st] t F := ⟨pss_one h1.ps, h1.sim⟩
theorem ds_pass : DS X fr (.Pass pos) tNext sNext := ⟨ps_pass, sim_next⟩
theorem ds_doc {z j pos'} : DS X fr (.Expr (.Constant (.str z) j pos) pos') tNext sNext := ⟨ps_doc, sim_next⟩
def sBreak : FS := fun q ρ μ => q.bk ρ μ
def sCont : FS := fun q ρ μ => q.ct ρ μ
theorem ds_break : DS X fr (.Break pos) tBreak sBreak := ⟨ps_break, fun s hf k => k.bk _ _ _ _ _ hf TrS.refl s⟩
theorem ds_cont : DS X fr (.Continue pos) tCont sCont := ⟨ps_continue, fun s hf k => k.ct _ _ _ _ _ hf TrS.refl s⟩
def sNever : FS := fun _ _ _ => False
theorem ds_never : DS X fr st tNever sNever := ⟨ps_never, fun _ hf _ => hf.elim⟩
/-- an expression whose value is dropped -/
def sDrop (f : FE) : FS := fun q ρ μ => f ρ μ fun _ μ1 => q.nx ρ μ1
theorem ds_expr (he : DE X e te f) (hs : swapsWith e none pos.line X.env = pure false := by rfl) : DS X fr (.Expr e pos) (tDrop te) (sDrop f) :=
  ⟨ps_expr he.pe hs, fun s hf k => he.sim s hf fun d μ1 v W1 H1 q1 t1 s1 r1 => k.nx _ _ _ _ _ q1 (s.trs t1) s1⟩
/-! ### names stored -/
def sSet (i : Nat) (f : FE) : FS := fun q ρ μ => f ρ μ fun d μ1 => q.nx (ρ.set i (some (.dat d))) μ1
def sSetO (i : Nat) (f : FE) : FS := fun q ρ μ => f ρ μ fun d μ1 => q.nx (ρ.set i (some (.own d))) μ1
theorem sim_set {P : Program} {w : World} {K : PySem.W.Frag} {i : Nat} (h : SimE P w K te f) : SimS P w K fr (tAsg te (gName i)) (sSet i f) := fun s hf k =>
  h s hf fun d μ1 v W1 H1 q1 t1 s1 r1 => k.nx _ _ _ _ _ q1 (s.trs t1) (s1.set i r1)
theorem SR.setO {P : Program} {w : World} {K : PySem.W.Frag} {W0 W W' : Wd} {B H H' : Hp} {σ : L2.St} {ρ : Loc} {μ μ' : Mu} {p : Addr} {d : D} (i : Nat) (s0 : SR P w K W0 B W σ H ρ μ) (s : SR P w K W0 B W' σ H' ρ μ') (hn : H p = none) (he : W'.ex p) (hc : p ∉ W'.C) (o : OwnAt P w K W' H' p d) :
    SR P w K W0 B W' (σ.set i (some (.ref p))) H' (ρ.set i (some (.own d))) μ' := by
  have old : ∀ (j : Nat) e a, ρ[j]? = some (some (.own e)) → σ[j]? = some (some (.ref a)) → a ≠ p := fun j e a h1 h2 z => by
    obtain ⟨a', k1, _, _, _, k5⟩ := s0.own j e h1
    rw [h2] at k1
    cases k1
    obtain ⟨o, ho⟩ := k5.some
    rw [z, hn] at ho
    cases ho
  refine ⟨by rw [List.length_set, List.length_set, s.len], fun j e h => ?_, fun j e h => ?_, fun j k e1 e2 a n h1 h2 h3 h4 => ?_, s.wok, s.cel, s.base, s.ent⟩
  · by_cases hj : i = j
    · subst hj
      by_cases hl : i < ρ.length
      · rw [List.getElem?_set_self hl] at h
        cases h
      · rw [List.getElem?_eq_none (by rw [List.length_set]; omega)] at h
        cases h
    · rw [List.getElem?_set_ne hj] at h ⊢
      exact s.dat j e h
  · by_cases hj : i = j
    · subst hj
      by_cases hl : i < ρ.length
      · rw [List.getElem?_set_self hl] at h
        cases h
        exact ⟨p, by rw [List.getElem?_set_self (by rw [s.len]; exact hl)], he, hc, s0.base.back s0.wok hn, o⟩
      · rw [List.getElem?_eq_none (by rw [List.length_set]; omega)] at h
        cases h
    · rw [List.getElem?_set_ne hj] at h ⊢
      exact s.own j e h
  · by_cases ej : i = j
    · by_cases ek : i = k
      · exact n (ej.symm.trans ek)
      · subst ej
        rw [List.getElem?_set_ne ek] at h2 h4
        have hl : i < σ.length := by
          refine Classical.byContradiction fun hl => ?_
          rw [List.getElem?_eq_none (by rw [List.length_set]; omega)] at h3
          cases h3
        rw [List.getElem?_set_self hl] at h3
        cases h3
        exact old k e2 p h2 h4 rfl
    · rw [List.getElem?_set_ne ej] at h1 h3
      by_cases ek : i = k
      · subst ek
        have hl : i < σ.length := by
          refine Classical.byContradiction fun hl => ?_
          rw [List.getElem?_eq_none (by rw [List.length_set]; omega)] at h4
          cases h4
        rw [List.getElem?_set_self hl] at h4
        cases h4
        exact old j e1 p h1 h3 rfl
      · rw [List.getElem?_set_ne ek] at h2 h4
        exact s.inj j k e1 e2 a n h1 h2 h3 h4
theorem sim_setO {P : Program} {w : World} {K : PySem.W.Frag} {i : Nat} (h : SimF P w K te f) : SimS P w K fr (tAsg te (gName i)) (sSetO i f) := fun s hf k =>
  h s hf fun d μ1 p W1 H1 q1 t1 s1 hn he hc r1 => k.nx _ _ _ _ _ q1 (s.trs t1) (s.setO i s1 hn he hc r1)
theorem ds_set {i : Nat} (hN : X.N.Nodup) (he : DE X e te f) (hi : X.N[i]? = some x := by rfl) (hx : L2.Loc X.env.scope x := by first | exact Or.inl rfl | exact Or.inr rfl) (hs : swapsWith e (some (.Name x pos')) pos.line X.env = pure false := by rfl) (hf : X.fn x = true ∨ X.env.scope.names.lookup x = some .local := by first | exact .inl rfl | exact .inr rfl) :
    DS X fr (.Assign [.Name x pos'] e pos) (tAsg te (gName i)) (sSet i f) := ⟨ps_set hN hi hx he.pe hs hf, sim_set he.sim⟩
theorem ds_setO {i : Nat} (hN : X.N.Nodup) (he : DF X e te f) (hi : X.N[i]? = some x := by rfl) (hx : L2.Loc X.env.scope x := by first | exact Or.inl rfl | exact Or.inr rfl) (hs : swapsWith e (some (.Name x pos')) pos.line X.env = pure false := by rfl) (hf : X.fn x = true ∨ X.env.scope.names.lookup x = some .local := by first | exact .inl rfl | exact .inr rfl) :
    DS X fr (.Assign [.Name x pos'] e pos) (tAsg te (gName i)) (sSetO i f) := ⟨ps_set hN hi hx he.pe hs hf, sim_setO he.sim⟩
theorem ds_setL {i : Nat} (he : DLc X e te f) (hsw : swapsWith e (some (.Name x pos')) pos.line X.env = pure true) (hi : X.N[i]? = some x := by rfl) (hx : X.env.scope.names.lookup x = some .local := by rfl) :
    DS X fr (.Assign [.Name x pos'] e pos) (tAsg te (gName i)) (sSet i f) := ⟨he.set hi hx hsw, sim_set he.de.sim⟩
theorem ds_setLO {i : Nat} (he : DLc X e te f) (hsw : swapsWith e (some (.Name x pos')) pos.line X.env = pure true) (hi : X.N[i]? = some x := by rfl) (hx : X.env.scope.names.lookup x = some .local := by rfl) :
    DS X fr (.Assign [.Name x pos'] e pos) (tAsg te (gName i)) (sSetO i f) := ⟨he.set hi hx hsw, sim_setO he.sim⟩
/-! a, b, .. = e -/
def sUnp (f : FE) (g : FG) : FS := fun q ρ μ => f ρ μ fun d μ1 => g d ρ fun ρ' => q.nx ρ' μ1
theorem ds_unp {tg : Expr} {tgt : TG} {gg : FG} {js : List Nat} (he : DE X e te f) (hg : DG X tg tgt gg js) (hs : swapsWithSole [tg] e pos.line X.env = pure false := by rfl) (hw : swappedStores [tg] e X.env = pure none := by rfl) (h1 : (assignEach [tg] X.env).map (·.2) = [assign tg X.env] := by rfl) :
    DS X fr (.Assign [tg] e pos) (tAsg te tgt) (sUnp f gg) :=
  ⟨ps_asg he.pe hg.pg hs hw h1, fun s hf k => he.sim s hf fun d μ1 v W1 H1 q1 t1 s1 r1 => hg.sim s1 r1 q1 fun ρ' σ' hq s' _ => k.nx _ _ _ _ _ hq (s.trs t1) s'⟩
/-! a, b = x, y -/
def sPar (i j : Nat) (F : FA) : FS := fun q ρ μ => F ρ μ fun ds μ1 => match ds with
  | [x, y] => q.nx ((ρ.set i (some (.dat x))).set j (some (.dat y))) μ1
  | _ => False
theorem ds_par {i j : Nat} {x y : Str} {tA : TA} {A : FA} {px py pt : Pos} {kt k2 pt2} (hc : X.calm = true) (hN : X.N.Nodup) (ha : DA X [a, b] tA A) (hi : X.N[i]? = some x := by rfl) (hj : X.N[j]? = some y := by rfl) (hij : i ≠ j := by decide) (hx : X.env.scope.names.lookup x = some .local := by rfl) (hy : X.env.scope.names.lookup y = some .local := by rfl)
    (hw : swappedStores [.Tuple [.Name x px, .Name y py] kt pt] (.Tuple [a, b] k2 pt2) X.env = pure (some [x, y]) := by rfl) (hs : swapsWithSole [.Tuple [.Name x px, .Name y py] kt pt] (.Tuple [a, b] k2 pt2) pos.line X.env = pure false := by rfl) :
    DS X fr (.Assign [.Tuple [.Name x px, .Name y py] kt pt] (.Tuple [a, b] k2 pt2) pos) (tPar i j tA) (sPar i j A) := by
  refine ⟨ps_par hc hN hi hj hij hx hy ha.pa hw hs, fun s hf k => ?_⟩
  refine ha.sim s hf fun ds μ1 vs W1 H1 l1 q1 t1 s1 r1 => ?_
  match ds, vs, q1, r1 with
  | [d1, d2], [v1, v2], q1, .cons r1 (.cons r2 .nil) => exact ⟨v1, v2, rfl, k.nx _ _ _ _ _ q1 (s.trs t1) ((s1.set i r1).set j r2)⟩
/-! ### return -/
def sRet (f : FE) : FS := fun q ρ μ => f ρ μ fun d μ1 => q.rt d μ1
def sRetN : FS := fun q _ μ => q.rt .non μ
theorem ds_ret (he : DE X e te f) : DS X false (.Return (some e) pos) (tRet te) (sRet f) :=
  ⟨ps_ret he.pe, fun s hf k => he.sim s hf fun d μ1 v W1 H1 q1 t1 s1 r1 => k.rt _ _ _ _ _ q1 s1.base s1.wok s1.cel r1⟩
theorem ds_retF (he : DF X e te f) : DS X true (.Return (some e) pos) (tRet te) (sRet f) :=
  ⟨ps_ret he.pe, fun s hf k => he.sim s hf fun d μ1 p W1 H1 q1 t1 s1 hn hex hcc r1 => k.rt _ _ _ _ _ q1 s1.base s1.wok s1.cel ⟨p, rfl, s.base.back s.wok hn, hex, hcc, r1⟩⟩
theorem ds_retN : DS X false (.Return none pos) tRetN sRetN := ⟨ps_retN, fun s hf k => k.rt _ _ _ _ _ hf s.base s.wok s.cel .non⟩
/-- the frame's own list or dict is handed back -/
theorem ds_retO (i : Nat) (hN : X.N[i]? = some x := by rfl) (hv : Vis X.env.scope x := by first | exact Or.inl rfl | exact Or.inr (Or.inl rfl) | exact Or.inr (Or.inr rfl)) (hd : (x == ("__debug__" : Str)) = false := by decide)
    (hcd : (x == ("__classdict__" : Str)) = false := by decide) : DS X fr (.Return (some (.Name x pos')) pos) (tRet (tVar i)) (sRet (eOwn i)) := by
  refine ⟨ps_ret (pe_var hN hv hd hcd), fun s hf k => ?_⟩
  obtain ⟨d, e, q⟩ := ownD_of hf
  obtain ⟨a, h1, h2, h3, h4, h5⟩ := s.own i d e
  refine ⟨_, h1, ?_⟩
  cases fr with
  | true => exact k.rt _ _ _ _ _ q s.base s.wok s.cel ⟨a, rfl, h4, h2, h3, h5⟩
  | false =>
    refine k.rt _ _ _ (_) _ q ?_ (s.wok.cut h3) s.cel.cut h5.rep
    refine ⟨s.base.C, fun b z => ⟨s.base.ex b z, fun e => by
      obtain ⟨o, ho⟩ := s.ent b z
      rw [e, h4] at ho
      cases ho⟩, fun b o n e => let ⟨e1, g1, k1⟩ := s.base.fr b o n e; ⟨e1, g1, fun z => k1 z.1⟩⟩
/-! ### if -/
variable {tC : TT} {C : FT} {sa sb : List Stmt}
def sIf (c : FT) (f g : FS) : FS := fun q ρ μ => c ρ μ fun b μ1 => if b = true then f q ρ μ1 else g q ρ μ1
theorem ds_if (hc : DT X c tC C) (ha : DSs X fr sa t F) (hb : DSs X fr sb u G) : DS X fr (.If c sa sb pos) (tIfS tC t u) (sIf C F G) := by
  refine ⟨ps_if hc.pt ha.ps hb.ps, fun s hf k => ?_⟩
  refine hc.sim s hf fun b μ1 W1 H1 q1 t1 s1 => ?_
  cases b with
  | true =>
    show t _ _ H1
    exact ha.sim s1 q1 (k.tr (s.trs t1))
  | false =>
    show u _ _ H1
    exact hb.sim s1 q1 (k.tr (s.trs t1))
/-! ### for -/
def forL (tg : FG) (b : FS) (q : FEnds) : List D → Loc → Mu → Prop
  | [], ρ, μ => q.nx ρ μ
  | d :: ds, ρ, μ => tg d ρ fun ρ1 => b { q with nx := forL tg b q ds, ct := forL tg b q ds, bk := q.nx } ρ1 μ
def sFor (it : FI) (tg : FG) (b : FS) : FS := fun q ρ μ => it ρ μ fun ds μ1 => forL tg b q ds ρ μ1
theorem sim_for {P : Program} {w : World} {K : PySem.W.Frag} {wi : TI} {g : TG} {tb : TS} {fi : FI} {fg : FG} {fb : FS} {js : List Nat} (hi : SimI P w K wi fi) (hg : SimG P w K g fg js) (hb : SimS P w K fr tb fb) : SimS P w K fr (tFor wi g tb) (sFor fi fg fb) := by
  intro W0 B W σ H ρ μ q E s hf k
  refine hi s hf fun ds μ1 W1 H1 J G Y q1 t1 s1 wk hG hY => ?_
  refine for_it wk (fun i σ' H' => ∃ W' ρ' μ', TrS W1 H1 W' H' ∧ SR P w K W0 B W' σ' H' ρ' μ' ∧ forL fg fb q (ds.drop i) ρ' μ') ⟨W1, ρ, μ1, TrS.refl, s1, q1⟩ ?_ ?_ ?_
  · rintro i σ' H' _ ⟨W', ρ', μ', tr, _⟩
    exact hG W' H' tr
  · rintro i x σ' H2 H3 hlt ⟨W', ρ', μ', tr, sr, hq⟩ y
    have hd : ds[i]? = some ds[i] := by simp [hlt]
    rw [show ds.drop i = ds[i] :: ds.drop (i + 1) by rw [List.drop_eq_getElem_cons hlt]] at hq
    obtain ⟨ex, rx⟩ := hY i H2 x H3 W' ds[i] tr sr.wok.dom y hd
    refine hg (sr.ext ex) rx hq fun ρ4 σ4 q4 s4 _ => ?_
    have t4 : TrS W1 H1 W' H3 := tr.trans ex.trS
    refine hb s4 q4 ⟨fun ρ5 μ5 W5 σ5 H5 q5 t5 s5 => ⟨W5, ρ5, μ5, t4.trans t5, s5, q5⟩, k.rt, fun ρ5 μ5 W5 σ5 H5 q5 t5 s5 => k.nx ρ5 μ5 W5 σ5 H5 q5 ((s.trs t1).trans (t4.trans t5)) s5, fun ρ5 μ5 W5 σ5 H5 q5 t5 s5 => ⟨W5, ρ5, μ5, t4.trans t5, s5, q5⟩⟩
  · rintro σ' H' ⟨W', ρ', μ', tr, sr, hq⟩
    rw [List.drop_length] at hq
    exact k.nx ρ' μ' W' σ' H' hq ((s.trs t1).trans tr) sr
theorem ds_for {tg iter : Expr} {wi : TI} {g : TG} {fi : FI} {fg : FG} {js : List Nat} (hp : PassesOwn (model X.prog X.w) X.A X.env X.xe) (hc : X.calm = true) (hi : DI X tg iter wi fi) (hg : DG X tg g fg js) (hb : DSs X fr sa t F) (hs : ∀ x, foldedSetIterable iter X.env x = pure x := by intro _; rfl) :
    DS X fr (.For tg iter sa [] pos) (tFor wi g t) (sFor fi fg F) := ⟨ps_for hp hc hi.pi hg.pg hb.ps hs, sim_for hi.sim hg.sim hb.sim⟩
/-! ### while -/
def whN (c : FT) (b : FS) (q : FEnds) : Nat → Loc → Mu → Prop
  | 0, _, _ => False
  | n + 1, ρ, μ => c ρ μ fun v μ1 => if v = true then b { q with nx := whN c b q n, ct := whN c b q n, bk := q.nx } ρ μ1 else q.nx ρ μ1
def sWhile (c : FT) (b : FS) : FS := fun q ρ μ => ∃ n, whN c b q n ρ μ
theorem sim_while {P : Program} {w : World} {K : PySem.W.Frag} {tc : TT} {tb : TS} {fc : FT} {fb : FS} (hc : SimT P w K tc fc) (hb : SimS P w K fr tb fb) : SimS P w K fr (tWhile tc tb) (sWhile fc fb) := by
  intro W0 B W σ H ρ μ q E s hf k
  obtain ⟨n, hf⟩ := hf
  refine ⟨fun m σ' H' => ∃ W' ρ' μ', TrS W H W' H' ∧ SR P w K W0 B W' σ' H' ρ' μ' ∧ whN fc fb q m ρ' μ', ⟨n, W, ρ, μ, TrS.refl, s, hf⟩, ?_⟩
  rintro m σ' H' ⟨W', ρ', μ', tr, sr, hq⟩
  cases m with
  | zero => exact hq.elim
  | succ m =>
    refine hc sr hq fun b μ1 W1 H1 q1 t1 s1 => ?_
    have tr1 := tr.trans (sr.trs t1)
    cases b with
    | true =>
      show ∃ _, _
      refine ⟨fun σ5 H5 => ∃ W' ρ' μ', TrS W H W' H5 ∧ SR P w K W0 B W' σ5 H5 ρ' μ' ∧ whN fc fb q m ρ' μ', fun σ5 H5 h => ⟨m, Nat.lt_succ_self m, h⟩, ?_⟩
      exact hb s1 q1 ⟨fun ρ5 μ5 W5 σ5 H5 q5 t5 s5 => ⟨W5, ρ5, μ5, tr1.trans t5, s5, q5⟩, k.rt, fun ρ5 μ5 W5 σ5 H5 q5 t5 s5 => k.nx ρ5 μ5 W5 σ5 H5 q5 (tr1.trans t5) s5, fun ρ5 μ5 W5 σ5 H5 q5 t5 s5 => ⟨W5, ρ5, μ5, tr1.trans t5, s5, q5⟩⟩
    | false => exact k.nx _ _ _ _ _ q1 tr1 s1
theorem ds_while (hp : PassesOwn (model X.prog X.w) X.A X.env X.xe) (hc : DT X c tC C) (hb : DSs X fr sa t F) : DS X fr (.While c sa [] pos) (tWhile tC t) (sWhile C F) := ⟨ps_while hp hc.pt hb.ps, sim_while hc.sim hb.sim⟩
/-! ### the frame's own lists, shared lists: x[i] = v, x.append(v) -/
theorem SR.own_write {P : Program} {w : World} {K : PySem.W.Frag} {W0 W : Wd} {B H : Hp} {σ : L2.St} {ρ : Loc} {μ : Mu} {i : Nat} {d d' : D} {a : Addr} {o : HO} (s : SR P w K W0 B W σ H ρ μ) (e : ρ[i]? = some (some (.own d))) (h1 : σ[i]? = some (some (.ref a))) (h2 : W.ex a) (h3 : a ∉ W.C) (h4 : B a = none)
    (ho : OwnAt P w K W (upd H a o) a d') : SR P w K W0 B W σ (upd H a o) (ρ.set i (some (.own d'))) μ ∧ TrS W H W (upd H a o) := by
  have hl : i < ρ.length := (List.getElem?_eq_some_iff.mp e).1
  have t : TrS W H W (upd H a o) := ⟨fun _ _ h => h, fun b u n e => ⟨by rw [upd_ne (fun z => n (by rw [z]; exact h2))]; exact e, n⟩⟩
  refine ⟨?_, t⟩
  -- without the slot, the list is written; then the slot is told again
  have s1 : SR P w K W0 B W σ H (ρ.set i none) μ := s.sub (by rw [List.length_set, s.len]) fun j x hx => by
    by_cases hj : i = j
    · subst hj
      rw [List.getElem?_set_self hl] at hx
      cases hx
    · rw [List.getElem?_set_ne hj] at hx
      exact ⟨hx, rfl⟩
  have s2 := s1.write h2 h3 h4 (fun j x hx z => by
    by_cases hj : i = j
    · subst hj
      rw [List.getElem?_set_self hl] at hx
      cases hx
    · rw [List.getElem?_set_ne hj] at hx
      exact s.inj i j d x a hj e hx h1 z) o
  refine ⟨by rw [List.length_set, s.len], fun j x hx => ?_, fun j x hx => ?_, fun j k e1 e2 b n g1 g2 g3 g4 => ?_, s2.wok, s2.cel, s2.base, s2.ent⟩
  · by_cases hj : i = j
    · subst hj
      rw [List.getElem?_set_self hl] at hx
      cases hx
    · rw [List.getElem?_set_ne hj] at hx
      exact s2.dat j x (by rw [List.getElem?_set_ne hj]; exact hx)
  · by_cases hj : i = j
    · subst hj
      rw [List.getElem?_set_self hl] at hx
      cases hx
      exact ⟨a, h1, h2, h3, h4, ho⟩
    · rw [List.getElem?_set_ne hj] at hx
      exact s2.own j x (by rw [List.getElem?_set_ne hj]; exact hx)
  · have was : ∀ (j : Nat) x, (ρ.set i (some (.own d')))[j]? = some (some (.own x)) → ∃ y, ρ[j]? = some (some (.own y)) := fun j x hx => by
      by_cases hj : i = j
      · subst hj
        exact ⟨d, e⟩
      · rw [List.getElem?_set_ne hj] at hx
        exact ⟨x, hx⟩
    obtain ⟨y1, k1⟩ := was j e1 g1
    obtain ⟨y2, k2⟩ := was k e2 g2
    exact s.inj j k y1 y2 b n k1 k2 g3 g4
theorem SR.cell_write {P : Program} {w : World} {K : PySem.W.Frag} {W0 W : Wd} {B H : Hp} {σ : L2.St} {ρ : Loc} {μ : Mu} {n : Nat} {a : Addr} {o : HO} {ob : Ob} (s : SR P w K W0 B W σ H ρ μ) (hn : W.C[n]? = some a) (ho : CellAt P w K W (upd H a o) a ob) (hne : H a ≠ none) :
    SR P w K W0 B W σ (upd H a o) ρ (μ.set n ob) ∧ Tr W H W (upd H a o) := by
  have hm : a ∈ W.C := List.mem_of_getElem? hn
  have hex := s.wok.sub a hm
  have t : Tr W H W (upd H a o) := ⟨fun _ _ h => h, fun _ h => h, fun b u nb e => ⟨by rw [upd_ne (fun z => nb (by rw [z]; exact hm))]; exact e, nb, fun x => x⟩⟩
  refine ⟨s.step t ⟨s.wok.sub, fun b h => ?_, s.wok.nd⟩ ⟨by rw [List.length_set]; exact s.cel.len, fun m b u h1 h2 => ?_⟩, t⟩
  · by_cases z : b = a
    · subst z
      exact ⟨o, upd_same⟩
    · obtain ⟨u, q⟩ := s.wok.dom b h
      exact ⟨u, by rw [upd_ne z]; exact q⟩
  · by_cases z : n = m
    · subst z
      rw [hn] at h1
      cases h1
      have hl : n < μ.length := by
        rw [← s.cel.len]
        exact (List.getElem?_eq_some_iff.mp hn).1
      rw [List.getElem?_set_self hl] at h2
      cases h2
      exact ho
    · rw [List.getElem?_set_ne z] at h2
      have ne : b ≠ a := fun e => by
        subst e
        obtain ⟨l1, g1⟩ := List.getElem?_eq_some_iff.mp hn
        obtain ⟨l2, g2⟩ := List.getElem?_eq_some_iff.mp h1
        exact z ((List.getElem_inj s.wok.nd).mp (g1.trans g2.symm))
      exact (s.cel.at_ m b u h1 h2).tr (t.s s.wok.sub) fun v q => by rw [upd_ne ne]; exact q
/-- a list with its k-th item another -/
def putL (ds : List D) (k v : D) (q : List D → Prop) : Prop := intD k fun i => match ixN ds.length i with
  | some j => q (ds.set j v)
  | none => False
/-- x[k] = v where x holds the frame's own list, or a shared one -/
def cellL (o : Option Ob) (k : List D → Prop) : Prop := match o with
  | some (.lst ds) => k ds
  | _ => False
theorem cellL_of {o : Option Ob} {k : List D → Prop} (h : cellL o k) : ∃ ds, o = some (.lst ds) ∧ k ds := by
  unfold cellL at h
  split at h
  · exact ⟨_, rfl, h⟩
  · exact h.elim
def sPut (i : Nat) (fk fv : FE) : FS := fun q ρ μ => match ρ[i]? with
  | some (some (.own (.lst ds))) => fv ρ μ fun v μ1 => fk ρ μ1 fun k μ2 => putL ds k v fun es => q.nx (ρ.set i (some (.own (.lst es)))) μ2
  | some (some (.dat (.cell n))) => fv ρ μ fun v μ1 => fk ρ μ1 fun k μ2 => cellL μ2[n]? fun ds => putL ds k v fun es => q.nx ρ (μ2.set n (.lst es))
  | _ => False
/-- x.append(v) -/
def sApp (i : Nat) (fv : FE) : FS := fun q ρ μ => match ρ[i]? with
  | some (some (.own (.lst ds))) => fv ρ μ fun v μ1 => ds.length < sizeLine ∧ q.nx (ρ.set i (some (.own (.lst (ds ++ [v]))))) μ1
  | _ => False
theorem putL_of {ds : List D} {k v : D} {q : List D → Prop} (h : putL ds k v q) : ∃ i j, k = .int i ∧ ixN ds.length i = some j ∧ q (ds.set j v) := by
  obtain ⟨i, rfl, h'⟩ := intD_of h
  split at h'
  · exact ⟨i, _, rfl, by assumption, h'⟩
  · exact h'.elim
theorem ds_put (i : Nat) {p1 p2 : Pos} (hk : DE X b tb g) (hv : DE X a ta f) (hN : X.N[i]? = some x := by rfl) (hvx : Vis X.env.scope x := by first | exact Or.inl rfl | exact Or.inr (Or.inl rfl) | exact Or.inr (Or.inr rfl)) (hs : swapsWithSole [.Subscript (.Name x p1) b p2] a pos.line X.env = pure false := by rfl)
    (hw : swappedStores [.Subscript (.Name x p1) b p2] a X.env = pure none := by rfl) (h1 : (assignEach [.Subscript (.Name x p1) b p2] X.env).map (·.2) = [assign (.Subscript (.Name x p1) b p2) X.env] := by rfl)
    (has : ∀ v, assign (.Subscript (.Name x p1) b p2) X.env v = (do
      let ov ← holding [v] (eval (.Name x p1) X.env)
      let iv ← holding [v, ov] (eval b X.env)
      standAt p2
      holding [v, ov, iv] (setItem ov iv v)
      release [v, ov, iv] []) := by intro _; rfl) (hd : (x == ("__debug__" : Str)) = false := by decide) (hcd : (x == ("__classdict__" : Str)) = false := by decide) :
    DS X fr (.Assign [.Subscript (.Name x p1) b p2] a pos) (tAsg ta (gSub (tVar i) tb rSetL)) (sPut i g f) := by
  refine ⟨ps_asg hv.pe (pg_sub (pe_var hN hvx hd hcd) hk.pe set_list has) hs hw h1, fun {W0 B W σ H ρ μ q E} s hf k => ?_⟩
  unfold sPut at hf
  split at hf
  · rename_i ds e
    refine hv.sim s hf fun v μ1 vv W1 H1 q1 t1 s1 r1 => ?_
    obtain ⟨p, h1, h2, h3, h4, vs, h5, h6⟩ := s1.own i _ e
    refine ⟨_, h1, ?_⟩
    refine hk.sim s1 q1 fun kd μ2 kv W2 H2 q2 t2 s2 r2 => ?_
    obtain ⟨j, n, rfl, hj, q3⟩ := putL_of q2
    cases r2
    obtain ⟨e5, c5, _⟩ := t2.fr p _ h3 h5
    refine ⟨p, vs, j, n, rfl, rfl, e5, by rw [h6.length]; exact hj, ?_⟩
    have x2 := t2.ex p h2
    obtain ⟨s3, t3⟩ := s2.own_write (o := .lst (vs.set n vv)) (d' := .lst (ds.set n v)) e h1 x2 c5 h4 ⟨_, upd_same, ((h6.tr (s1.trs t2)).set (r1.tr (s1.trs t2)) n).tr ⟨fun _ _ h => h, fun b u nb e => ⟨by rw [upd_ne (fun z => nb (by rw [z]; exact x2))]; exact e, nb⟩⟩⟩
    exact k.nx _ _ _ _ _ q3 (((s.trs t1).trans (s1.trs t2)).trans t3) s3
  · rename_i n e
    refine hv.sim s hf fun v μ1 vv W1 H1 q1 t1 s1 r1 => ?_
    obtain ⟨sv, h1, h2⟩ := s1.dat i _ e
    cases h2 with
    | cell hn =>
      refine ⟨_, h1, ?_⟩
      refine hk.sim s1 q1 fun kd μ2 kv W2 H2 q2 t2 s2 r2 => ?_
      obtain ⟨ds, e2, q2'⟩ := cellL_of q2
      obtain ⟨j, m, rfl, hj, q3⟩ := putL_of q2'
      cases r2
      have hn2 := t2.C _ _ hn
      obtain ⟨vs, h5, h6⟩ := s2.cel.at_ _ _ _ hn2 e2
      refine ⟨_, vs, j, m, rfl, rfl, h5, by rw [h6.length]; exact hj, ?_⟩
      have x2 := s2.wok.sub _ (List.mem_of_getElem? hn2)
      obtain ⟨s3, t3⟩ := s2.cell_write (o := .lst (vs.set m vv)) (ob := .lst (ds.set m v)) hn2 ⟨_, upd_same, (h6.set (r1.tr (s1.trs t2)) m).tr ⟨fun _ _ h => h, fun b u nb e => ⟨by rw [upd_ne (fun z => nb (by rw [z]; exact x2))]; exact e, nb⟩⟩⟩ (by rw [h5]; exact fun z => nomatch z)
      exact k.nx _ _ _ _ _ q3 (((s.trs t1).trans (s1.trs t2)).trans (s2.trs t3)) s3
  · exact hf.elim
theorem ds_app (i : Nat) {p1 p2 p3 : Pos} (hv : DE X a ta f) (hN : X.N[i]? = some x := by rfl) (hvx : Vis X.env.scope x := by first | exact Or.inl rfl | exact Or.inr (Or.inl rfl) | exact Or.inr (Or.inr rfl)) (hs : starEach [a] X.env = [(false, eval a X.env)] := by rfl)
    (hb : attributeBase (.Name x p1) "append" X.env (eval (.Name x p1) X.env) = eval (.Name x p1) X.env := by rfl) (hsw : swapsWith (.Call (.Attribute (.Name x p1) "append" p2) [a] [] p3) none pos.line X.env = pure false := by rfl) (hd : (x == ("__debug__" : Str)) = false := by decide) (hcd : (x == ("__classdict__" : Str)) = false := by decide)
    (hfew : ((backTo p3 (starEach [a] X.env)).all (fun x => !x.1) && (backToKw p3 (keywordEach [] X.env)).all (fun x => x.1.isSome) && decide ([a].length + ([] : List Keyword).length + (if ([] : List Keyword).isEmpty then 0 else 1) < 30)) = true := by rfl) (hline : (p2.endLine == p3.line) = true := by rfl) :
    DS X fr (.Expr (.Call (.Attribute (.Name x p1) "append" p2) [a] [] p3) pos) (tDrop (tBM X.K "list" rAppend (tVar i) (tCons ta tNil))) (sApp i f) := by
  refine ⟨ps_expr (pe_bm PySem.F.plainAttrs_list PySem.F.slot_list_append PySem.F.type_list_append mt_append (pe_var hN hvx hd hcd) (pa_cons hv.pe pa_nil hs) hb hfew hline hs (by rfl)) hsw, fun {W0 B W σ H ρ μ q E} s hf k => ?_⟩
  unfold sApp at hf
  split at hf
  · rename_i ds e
    obtain ⟨p, h1, h2, h3, h4, vs, h5, h6⟩ := s.own i _ e
    refine ⟨_, h1, .inl ⟨rfl, _, SqL.of h5⟩, ?_⟩
    refine hv.sim s hf fun v μ1 vv W1 H1 q1 t1 s1 r1 => ?_
    obtain ⟨e5, c5, _⟩ := t1.fr p _ h3 h5
    refine ⟨p, vs, vv, rfl, rfl, e5, by rw [h6.length]; exact q1.1, ?_⟩
    have x2 := t1.ex p h2
    obtain ⟨s3, t3⟩ := s1.own_write (o := .lst (vs ++ [vv])) (d' := .lst (ds ++ [v])) e h1 x2 c5 h4 ⟨_, upd_same, ((h6.tr (s.trs t1)).append (.one r1)).tr ⟨fun _ _ h => h, fun b u nb e => ⟨by rw [upd_ne (fun z => nb (by rw [z]; exact x2))]; exact e, nb⟩⟩⟩
    exact k.nx _ _ _ _ _ q1.2 ((s.trs t1).trans t3) s3
  · exact hf.elim
/-! ### defs -/
end
/-- the locals at the entry -/
def startL (N : List Str) (ds : List D) : Loc := ds.map (fun d => some (Slot.dat d)) ++ List.replicate (N.length - ds.length) none
/-- a def's meaning from its body's -/
def semFn (N : List Str) (fr : Bool) (g : FS) : FSem := fun ds μ q => g { nx := fun _ μ' => fr = false ∧ q .non μ', rt := q } (startL N ds) μ
theorem start_sr {P : Program} {w : World} {K : PySem.W.Frag} {N : List Str} {vs : List V} {ds : List D} {W : Wd} {H : Hp} {μ : Mu} (hl : ds.length ≤ N.length) (o : WOk W H) (c : Cells P w K W H μ) (r : RepL P w K W H vs ds) : SR P w K W H W (L2.start N vs) H (startL N ds) μ := by
  have hlen := r.length
  have noOwn : ∀ (i : Nat) d, (startL N ds)[i]? ≠ some (some (.own d)) := fun i d e => by
    unfold startL at e
    by_cases hi : i < ds.length
    · rw [List.getElem?_append_left (by simpa using hi), List.getElem?_map] at e
      cases z : ds[i]? with
      | none =>
        rw [z] at e
        cases e
      | some y =>
        rw [z] at e
        cases e
    · rw [List.getElem?_append_right (by simpa using hi), List.getElem?_replicate] at e
      split at e <;> cases e
  refine ⟨?_, fun i d e => ?_, fun i d e => absurd e (noOwn i d), fun i j d _ _ _ e => absurd e (noOwn i d), o, c, Tr.refl, o.dom⟩
  · unfold L2.start startL
    simp [hlen]
  · unfold startL at e
    by_cases hi : i < ds.length
    · rw [List.getElem?_append_left (by simpa using hi), List.getElem?_map] at e
      cases z : ds[i]? with
      | none =>
        rw [z] at e
        cases e
      | some y =>
        rw [z] at e
        cases e
        obtain ⟨v, h1, h2⟩ := r.get z
        refine ⟨v, ?_, h2⟩
        unfold L2.start
        rw [List.getElem?_append_left (by simpa [hlen] using hi), List.getElem?_map, h1]
        rfl
    · rw [List.getElem?_append_right (by simpa using hi), List.getElem?_replicate] at e
      split at e <;> cases e
/-- a def's body has this meaning -/
theorem fn_ok {P : Program} {w : World} {K : PySem.W.Frag} {mg : Str → Option Value} {base : Heap} {x qual : Str} {params : Arguments} {body : List Stmt} {sc : Scope} {f : Addr} {fd : FuncData} {N ps : List Str} {k n : Nat} {fr : Bool} {g : FS}
    (D0 : FunD K x qual params body sc [] [] f fd) (S : FnScope N ps sc) (hn : ps.length = n)
    (hbody : ∀ (cdv : Value) (A : Around) (outer : List Env) (s : Shared) (H : Hp) (E : XK), Room k (A.deeper (envOfC qual sc s.heap.objs.size f cdv)) → ∃ t, DSs (cxOf CX0 P w K mg base N qual sc f cdv A outer s H E).nox fr body t g) :
    FnOk P w K mg base CX0 (k + 1) f fd ps (spD P w K n fr (semFn N fr g)) := by
  have hps : ps.length ≤ N.length := by have := congrArg List.length S.pre; rw [List.length_take] at this; omega
  refine D0.ok S (fun vs H Q E h => ?_) (fun cdv A outer s H vs Q E hr h => ?_)
  · obtain ⟨W, ds, μ, q, hl, _, _, r, _⟩ := h
    rw [r.length, hl, hn]
  · obtain ⟨W, ds, μ, q, hl, ok, ce, r, hq, k⟩ := h
    obtain ⟨t, ht⟩ := hbody cdv A outer s H E hr
    refine ⟨t, ht.ps.nox, ?_⟩
    have sr := start_sr (N := N) (by omega) ok ce r
    refine ht.sim sr hq ⟨fun ρ' μ' W' σ' H' hq' tr s' => ?_, fun d μ' v W' H' hq' tr ok' ce' rr => k d μ' v W' H' hq' tr ok' ce' rr, fun _ _ _ _ _ h => h.elim, fun _ _ _ _ _ h => h.elim⟩
    obtain ⟨rfl, hq'⟩ := hq'
    exact k .non μ' .non W' H' hq' s'.base s'.wok s'.cel .non
/-- a def of the module, by its name -/
theorem fn_dl {P : Program} {w : World} {K : PySem.W.Frag} {mg : Str → Option Value} {base : Heap} {x qual : Str} {params : Arguments} {body : List Stmt} {sc : Scope} {f : Addr} {fd : FuncData} {N ps : List Str} {k n : Nat} {fr : Bool} {g : FS}
    (D0 : FunD K x qual params body sc [] [] f fd) (S : FnScope N ps sc) (hm : mg x = some (.ref f)) (hn : ps.length = n) (hbind : Binds K fd ps [])
    (hbody : ∀ (cdv : Value) (A : Around) (outer : List Env) (s : Shared) (H : Hp) (E : XK), Room k (A.deeper (envOfC qual sc s.heap.objs.size f cdv)) → ∃ t, DSs (cxOf CX0 P w K mg base N qual sc f cdv A outer s H E).nox fr body t g) :
    Fn P w K mg base (k + 1) x n fr (semFn N fr g) := ⟨f, fd, ps, fn_ok D0 S hn hbody, hm, D0.kp, hbind⟩
/-- a def that is not run -/
theorem fn_never {P : Program} {w : World} {K : PySem.W.Frag} {mg : Str → Option Value} {base : Heap} {x qual : Str} {params : Arguments} {body : List Stmt} {sc : Scope} {f : Addr} {fd : FuncData} {N ps : List Str} {k n : Nat} {fr : Bool}
    (D0 : FunD K x qual params body sc [] [] f fd) (S : FnScope N ps sc) (hm : mg x = some (.ref f)) (hn : ps.length = n) (hbind : Binds K fd ps []) : Fn P w K mg base k x n fr fun _ _ _ => False := by
  refine ⟨f, fd, ps, ⟨fun vs H Q E h => ?_, fun A outer s H args us vs Q E hr h0 hb r h => ?_⟩, hm, D0.kp, hbind⟩
  · obtain ⟨W, ds, μ, q, hl, _, _, r, _⟩ := h
    rw [r.length, hl, hn]
  · obtain ⟨W, ds, μ, q, hl, _, _, r, z, _⟩ := h
    exact z.elim
end DL

set_option Elab.async false
set_option linter.all false
set_option maxRecDepth 100000
set_option maxHeartbeats 4000000
/-! DL11: a walk over a list, a tuple or a text, as it comes; new shared objects; what a frame held becomes plain data. -/
namespace DL
open PySem PySem.Spec PyProof.Rows L2
section
variable {X : Cx} {tg a b c : Expr} {ta tb tc : TE} {f g h : FE} {pos : Pos} {fr : Bool}
def iAny (K : PySem.W.Frag) (te : TE) : TI := fun σ H R => te σ H fun x H1 => (∃ p xs, x = .ref p ∧ SqL K H1 p xs ∧ R (Itl K p) H1) ∨ (∃ p xs, x = .ref p ∧ SqT K H1 p xs ∧ R (Itt K p) H1) ∨ (∃ z, x = .str z ∧ R (Its z) H1)
theorem pi_any (he : PE X a ta) : PI X tg a (iAny X.K ta) where
  run pins s σ H R I hw := thn (he.run pins s σ H _ I hw) fun v s1 ⟨x, H1, I1, rx, hx⟩ => by
    rcases hx with ⟨p, xs, rfl, hp, q⟩ | ⟨p, xs, rfl, hp, q⟩ | ⟨z, rfl, q⟩
    · cases rx
      have ⟨its, rv, pl, _⟩ := I1.list hp
      exact wpAny_pyIter_list pl.isList (pi_one (tk := s1.toks) I1 _ (turn_list p _) ⟨_, Heap.get?_push_size _ rfl, rfl, rfl⟩ q)
    · cases rx
      have ⟨its, rv, pl, _⟩ := I1.tuple hp
      exact wpAny_pyIter_tuple (items := its.toArray) pl (pi_one (tk := s1.toks) I1 _ (turn_tuple p _) ⟨_, Heap.get?_push_size _ rfl, rfl, rfl⟩ q)
    · obtain ⟨t, rfl⟩ := rx
      cases asc : z.cps.all (· < 128) with
      | false => exact wpAny_pyIter_wide asc (pi_one (tk := s1.toks) I1 _ (turn_str _ z t "str_iterator" (Or.inr rfl)) ⟨_, Heap.get?_push_size _ rfl, rfl, rfl⟩ q)
      | true => exact wpAny_pyIter_ascii asc (pi_one (tk := s1.toks) I1 _ (turn_str _ z t "str_ascii_iterator" (Or.inl rfl)) ⟨_, Heap.get?_push_size _ rfl, rfl, rfl⟩ q)
def anyD (d : D) (k : List D → Prop) : Prop := match d with
  | .tup ds => k ds
  | .lst ds => k ds
  | .ro ds => k ds
  | .str x => k (signs x)
  | _ => False
def iSeqD (f : FE) : FI := fun ρ μ q => f ρ μ fun d μ1 => anyD d fun ds => q ds μ1
theorem di_seq {Kf : PySem.W.Frag} (ha : DE X a ta f) (hK : X.K = Kf := by rfl) : DI X tg a (iAny Kf ta) (iSeqD f) := by
  subst hK
  refine ⟨pi_any ha.pe, fun s hf k => ?_⟩
  refine ha.sim s hf fun d μ1 v W1 H1 q1 t1 s1 r1 => ?_
  unfold anyD at q1
  split at q1
  · cases r1 with
    | tup hp r =>
      rename_i p xs
      refine .inr (.inl ⟨p, xs, rfl, hp.sq, k _ μ1 W1 H1 _ (fun H => SqT X.K H p xs) (YAt xs) q1 t1 s1 (r.length ▸ walk_tup) (fun W2 H2 t2 => (hp.tr t2).sq) fun i Hi x Hi' W2 d t2 dom y hd => ?_⟩)
      obtain ⟨rfl, hx⟩ := y
      obtain ⟨v, hv, rv⟩ := r.get hd
      rw [hx] at hv
      cases hv
      exact ⟨Ext.refl, rv.tr t2⟩
  · cases r1 with
    | lst n hp r =>
      rename_i p xs
      refine .inl ⟨p, xs, rfl, SqL.of hp, k _ μ1 W1 H1 _ (fun H => SqL X.K H p xs) (YAt xs) q1 t1 s1 (r.length ▸ walk_list) (fun W2 H2 t2 => SqL.of (t2.fr p _ n hp).1) fun i Hi x Hi' W2 d t2 dom y hd => ?_⟩
      obtain ⟨rfl, hx⟩ := y
      obtain ⟨v, hv, rv⟩ := r.get hd
      rw [hx] at hv
      cases hv
      exact ⟨Ext.refl, rv.tr t2⟩
  · cases r1 with
    | ro hp r =>
      rename_i p xs
      refine .inl ⟨p, xs, rfl, hp.sq, k _ μ1 W1 H1 _ (fun H => SqL X.K H p xs) (YAt xs) q1 t1 s1 (r.length ▸ walk_list) (fun W2 H2 t2 => (hp.tr t2).sq) fun i Hi x Hi' W2 d t2 dom y hd => ?_⟩
      obtain ⟨rfl, hx⟩ := y
      obtain ⟨v, hv, rv⟩ := r.get hd
      rw [hx] at hv
      cases hv
      exact ⟨Ext.refl, rv.tr t2⟩
  · rename_i z
    cases r1
    refine .inr (.inr ⟨z, rfl, k _ μ1 W1 H1 _ (fun _ => True) _ q1 t1 s1 (by rw [show (signs z).length = z.cps.size by simp [signs]]; exact walk_str) (fun _ _ _ => trivial) fun i Hi x Hi' W2 d t2 dom y hd => ?_⟩)
    obtain ⟨rfl, c, hc, rfl⟩ := y
    unfold signs at hd
    rw [List.getElem?_map] at hd
    rw [show z.cps.toList[i]? = some c by simpa using hc] at hd
    cases hd
    exact ⟨Ext.refl, .str _⟩
  · exact q1.elim
/-! ### - a -/
def cNeg : D → (D → Prop) → Prop
  | .int i, q => q (.int (-i))
  | _, _ => False
theorem de_neg (ha : DE X a ta f) : DE X (.UnaryOp .USub a pos) (tUn (rU fun i => .int (-i)) ta) (e1 cNeg f) := by
  refine ⟨pe_un un_neg ha.pe, fun s hf k => ?_⟩
  refine ha.sim s hf fun d μ1 v W1 H1 q1 t1 s1 r1 => ?_
  unfold cNeg at q1
  split at q1
  · cases r1
    exact ⟨_, rfl, k _ _ _ _ _ q1 t1 s1 (.int _)⟩
  · exact q1.elim
/-! ### x = a new list that is shared from now on -/
def sSetC (i : Nat) (f : FE) : FS := fun q ρ μ => f ρ μ fun d μ1 => lstD d fun ds => q.nx (ρ.set i (some (.dat (.cell μ1.length)))) (μ1 ++ [.lst ds])
theorem SR.share {P : Program} {w : World} {K : PySem.W.Frag} {W0 W W' : Wd} {B H H' : Hp} {σ : L2.St} {ρ : Loc} {μ μ' : Mu} {p : Addr} {ds : List D} (s0 : SR P w K W0 B W σ H ρ μ) (s : SR P w K W0 B W' σ H' ρ μ') (hn : H p = none) (he : W'.ex p) (hc : p ∉ W'.C) (o : OwnAt P w K W' H' p (.lst ds)) :
    ∃ W2 : Wd, SR P w K W0 B W2 σ H' ρ (μ' ++ [.lst ds]) ∧ TrS W' H' W2 H' ∧ W2.C[μ'.length]? = some p := by
  have t : TrS W' H' ⟨W'.C ++ [p], W'.ex⟩ H' := ⟨fun n a h => by
    rw [List.getElem?_append_left (List.getElem?_eq_some_iff.mp h).1]
    exact h, fun a u n e => ⟨e, n⟩⟩
  have hB : B p = none := s0.base.back s0.wok hn
  refine ⟨⟨W'.C ++ [p], W'.ex⟩, ⟨s.len, fun i d e => ?_, fun i d e => ?_, s.inj, ⟨fun a h => ?_, s.wok.dom, ?_⟩, ⟨?_, fun n a ob h1 h2 => ?_⟩, ⟨fun n a h => t.C n a (s.base.C n a h), s.base.ex, fun a u n e => ?_⟩, s.ent⟩, t, ?_⟩
  · obtain ⟨v, h1, h2⟩ := s.dat i d e
    exact ⟨v, h1, h2.tr t⟩
  · obtain ⟨a, h1, h2, h3, h4, h5⟩ := s.own i d e
    obtain ⟨a', k1, _, _, _, k5⟩ := s0.own i d e
    refine ⟨a, h1, h2, fun m => ?_, h4, h5.tr t fun _ q => q⟩
    rcases List.mem_append.mp m with m | m
    · exact h3 m
    · have ea : a = p := by simpa using m
      rw [h1] at k1
      cases k1
      obtain ⟨u, hu⟩ := k5.some
      rw [ea, hn] at hu
      cases hu
  · rcases List.mem_append.mp h with m | m
    · exact s.wok.sub a m
    · have ea : a = p := by simpa using m
      rw [ea]
      exact he
  · show (W'.C ++ [p]).Nodup
    rw [List.nodup_append]
    exact ⟨s.wok.nd, by simp, fun x hx y hy e => hc (by
      have : y = p := by simpa using hy
      rw [← this, ← e]
      exact hx)⟩
  · show (W'.C ++ [p]).length = _
    rw [List.length_append, List.length_append, s.cel.len]
    rfl
  · have h1 : (W'.C ++ [p])[n]? = some a := h1
    by_cases hl : n < W'.C.length
    · rw [List.getElem?_append_left hl] at h1
      rw [List.getElem?_append_left (by rw [← s.cel.len]; exact hl)] at h2
      exact (s.cel.at_ n a ob h1 h2).tr t fun _ q => q
    · rw [List.getElem?_append_right (by omega)] at h1
      rw [List.getElem?_append_right (by rw [← s.cel.len]; omega)] at h2
      have e0 : n - W'.C.length = 0 := by
        by_cases z : n - W'.C.length = 0
        · exact z
        · rw [List.getElem?_eq_none (by simp; omega)] at h1
          cases h1
      have e1 : n - μ'.length = 0 := by rw [← s.cel.len]; exact e0
      rw [e0] at h1
      rw [e1] at h2
      cases h1
      cases h2
      obtain ⟨vs, g1, g2⟩ := o
      exact ⟨vs, g1, g2.tr t⟩
  · obtain ⟨h1, h2, h3⟩ := s.base.fr a u n e
    refine ⟨h1, fun m => ?_, h3⟩
    rcases List.mem_append.mp m with m | m
    · exact h2 m
    · have ea : a = p := by simpa using m
      rw [ea, hB] at e
      cases e
  · show (W'.C ++ [p])[μ'.length]? = some p
    rw [List.getElem?_append_right (by rw [s.cel.len]; exact Nat.le_refl _), s.cel.len, Nat.sub_self]
    rfl
theorem sim_setC {P : Program} {w : World} {K : PySem.W.Frag} {i : Nat} (h : SimF P w K ta f) : SimS P w K fr (tAsg ta (gName i)) (sSetC i f) := fun s hf k =>
  h s hf fun d μ1 p W1 H1 q1 t1 s1 hn he hc r1 => by
    obtain ⟨ds, rfl, q1'⟩ := lstD_of q1
    obtain ⟨W2, s2, t2, e2⟩ := s.share s1 hn he hc r1
    exact k.nx _ _ _ _ _ q1' ((s.trs t1).trans t2) (s2.set i (.cell e2))
theorem ds_setC {i : Nat} {x : Str} {pos' : Pos} (hN : X.N.Nodup) (he : DF X a ta f) (hi : X.N[i]? = some x := by rfl) (hx : L2.Loc X.env.scope x := by first | exact Or.inl rfl | exact Or.inr rfl) (hs : swapsWith a (some (.Name x pos')) pos.line X.env = pure false := by rfl) (hf : X.fn x = true ∨ X.env.scope.names.lookup x = some .local := by first | exact .inl rfl | exact .inr rfl) :
    DS X fr (.Assign [.Name x pos'] a pos) (tAsg ta (gName i)) (sSetC i f) := ⟨ps_set hN hi hx he.pe hs hf, sim_setC he.sim⟩
/-! ### the slot i's list or dict becomes plain data -/
def frz (ρ : Loc) (i : Nat) : Loc := match ρ[i]? with
  | some (some (.own d)) => ρ.set i (some (.dat d))
  | _ => ρ
theorem SR.frz {P : Program} {w : World} {K : PySem.W.Frag} {W0 W : Wd} {B H : Hp} {σ : L2.St} {ρ : Loc} {μ : Mu} (i : Nat) (s : SR P w K W0 B W σ H ρ μ) : ∃ W', SR P w K W0 B W' σ H (DL.frz ρ i) μ ∧ TrS W H W' H := by
  unfold DL.frz
  split
  · rename_i d e
    obtain ⟨a, h1, h2, h3, h4, h5⟩ := s.own i d e
    have hl : i < ρ.length := (List.getElem?_eq_some_iff.mp e).1
    refine ⟨W.cut a, ?_, cut_trS⟩
    refine ⟨by rw [List.length_set, s.len], fun j x hx => ?_, fun j x hx => ?_, fun j k e1 e2 b n g1 g2 g3 g4 => ?_, s.wok.cut h3, s.cel.cut, ⟨s.base.C, fun b z => ⟨s.base.ex b z, fun e => ?_⟩, fun b o n e => let ⟨e1, g1, k1⟩ := s.base.fr b o n e; ⟨e1, g1, fun z => k1 z.1⟩⟩, s.ent⟩
    · by_cases hj : i = j
      · subst hj
        rw [List.getElem?_set_self hl] at hx
        cases hx
        exact ⟨_, h1, h5.rep⟩
      · rw [List.getElem?_set_ne hj] at hx
        obtain ⟨v, g1, g2⟩ := s.dat j x hx
        exact ⟨v, g1, g2.tr cut_trS⟩
    · by_cases hj : i = j
      · subst hj
        rw [List.getElem?_set_self hl] at hx
        cases hx
      · rw [List.getElem?_set_ne hj] at hx
        obtain ⟨b, g1, g2, g3, g4, g5⟩ := s.own j x hx
        exact ⟨b, g1, ⟨g2, fun z => s.inj i j d x a hj e hx h1 (z ▸ g1)⟩, g3, g4, g5.tr cut_trS fun _ q => q⟩
    · have hj : i ≠ j := fun z => by
        subst z
        rw [List.getElem?_set_self hl] at g1
        cases g1
      have hk : i ≠ k := fun z => by
        subst z
        rw [List.getElem?_set_self hl] at g2
        cases g2
      rw [List.getElem?_set_ne hj] at g1
      rw [List.getElem?_set_ne hk] at g2
      exact s.inj j k e1 e2 b n g1 g2 g3 g4
    · obtain ⟨o, ho⟩ := s.ent b z
      rw [e, h4] at ho
      cases ho
  · exact ⟨W, s, TrS.refl⟩
def sFrz (i : Nat) (f : FS) : FS := fun q ρ μ => f q (frz ρ i) μ
theorem ds_frz (i : Nat) {st : Stmt} {t : TS} {F : FS} (h : DS X fr st t F) : DS X fr st t (sFrz i F) := ⟨h.ps, fun s hf k => by
  obtain ⟨W', s', tr⟩ := s.frz i
  exact h.sim s' hf (k.tr tr)⟩
end
end DL

set_option Elab.async false
set_option linter.all false
set_option maxRecDepth 100000
set_option maxHeartbeats 4000000
/-! DL12: enumerate of a tuple. -/
namespace DL
open PySem PySem.Spec PyProof.Rows L2

/-- enumerate(v), whatever iter(v) begins -/
theorem enum_new1 {v : Value} {o : Obj} {Hh : Heap → Prop} (b : Begins v o Hh) :
    Meets (Builtin.«enumerate.__new__» ⟨[.type "enumerate", v], []⟩) fun _ R s => Hh s.heap ∧
      R (.ok (.ret (.ref (s.heap.push o).objs.size))) { s with heap := (s.heap.push o).push { cls := .type "enumerate", data := .fields #[.none, .bool false, .ref s.heap.objs.size, rawInt 0, .none, .none] } } :=
  .of_wp fun prog w A R s ⟨hH, hR⟩ => by
    obtain ⟨hp, gs, dr, tk, os⟩ := s
    have low := sub_enumerate
    have go : ∀ {A2 : Around} {E2 : Value → Shared → Prop} {Q2 : Value → Shared → Prop}, Q2 (.ref hp.objs.size) ⟨hp.push o, gs, dr, tk, os⟩ → wpAny (model prog w) A2 (pyIter v) Q2 E2 ⟨hp, gs, dr, tk, os⟩ :=
      fun q => b.iter prog w _ _ ⟨hp, gs, dr, tk, os⟩ _ hH q
    wp_walk using go
    refine wpAny_stack_any fun st => wpAny_pure ?_
    split
    · rename_i cc _ _ _ _ _
      cases (cc == Value.type "enumerate") <;> (wp_walk using go; exact ⟨_, rfl, hR⟩)
    · wp_walk using go
      exact ⟨_, rfl, hR⟩
theorem enum_begins1 {prog : Program} {w : World} {A : Around} {E : Value → Shared → Prop} {s : Shared} {v : Value} {o : Obj} {Hh : Heap → Prop} {Q : Value → Shared → Prop} (b : Begins v o Hh) (h1 : Hh s.heap)
    (k : ∀ h', IsEnum h' (s.heap.objs.size + 1) s.heap.objs.size 0 .none → h'.get? s.heap.objs.size = some o → (∀ c u, s.heap.get? c = some u → h'.get? c = some u) → Q (.ref (s.heap.objs.size + 1)) { s with heap := h' }) :
    wpAny (model prog w) A (call (.type "enumerate") [v]) Q E s := by
  refine callType_new F.called_enumerate (by decide) (F.typeCall_enumerate_1 _) (F.newCall_enumerate_1 _) (fun obj => F.args_object_init_2 obj _) F.entry_enumerate_new (enum_new1 b) ⟨h1, ?_⟩
  have sz : (s.heap.push o).objs.size = s.heap.objs.size + 1 := Heap.size_push ..
  show _ ∧ _
  rw [sz]
  have it : IsEnum ((s.heap.push o).push { cls := .type "enumerate", data := .fields #[.none, .bool false, .ref s.heap.objs.size, rawInt 0, .none, .none] }) (s.heap.objs.size + 1) s.heap.objs.size 0 .none :=
    sz ▸ Heap.get?_push_size (s.heap.push o) (o := { cls := .type "enumerate", data := .fields #[.none, .bool false, .ref s.heap.objs.size, rawInt 0, .none, .none] }) rfl
  exact ⟨⟨_, it, rfl⟩, k _ it (Heap.get?_push_of_some _ (Heap.get?_push_size _ b.free)) fun c u x => Heap.get?_push_of_some _ (Heap.get?_push_of_some _ x)⟩
/-- the tuple at a, its items in new pairs -/
def IteT (K : PySem.W.Frag) (a : Addr) : It where
  go i H := ∃ (xs : List V) (x : V), SqT K H a xs ∧ xs[i]? = some x
  yld i H v H' := ∃ T x, v = .ref T ∧ H T = none ∧ H' = upd H T (.tup [.int (i : Nat), x]) ∧ ∀ xs, SqT K H a xs → xs[i]? = some x
  stop i H := ∃ xs : List V, SqT K H a xs ∧ xs.length = i
theorem mem2 {b e it : Addr} (h : b ∈ [e, it]) : b = e ∨ b = it := by simpa using h
theorem turn_enumT {P : Program} {w : World} {K : PySem.W.Frag} {elts : List Expr} {kk : Nat} {tpos : Pos} (a e it : Addr) :
    Turn P w K (.Tuple elts kk tpos) (IteT K a) [e, it] e (fun i h => (∃ old, IsEnum h e it ((i : Nat) : Int) old) ∧ h.IsTupleIter it a i ∧ e ≠ it ∧ a ≠ it ∧ a ≠ e) where
  mem := List.mem_cons_self
  obj i h st b hb := by
    obtain ⟨⟨old, he⟩, ⟨o, ho, hc, hd⟩, _⟩ := st
    rcases mem2 hb with rfl | rfl
    · exact ⟨_, he, fun v q => nomatch q⟩
    · exact ⟨o, ho, fun v q => by rw [hd] at q; cases q⟩
  keep i h h' st k := by
    obtain ⟨⟨old, he⟩, hi, rest⟩ := st
    exact ⟨⟨old, k e (by simp) _ he⟩, hi.at fun o q => k it (by simp) o q, rest⟩
  item := by
    rintro X rfl rfl rfl hc i pins s σ H E I hf ⟨⟨old, he⟩, hit, n1, n2, n3⟩ ⟨xs, x, hq, hx⟩
    obtain ⟨its, rv, p, hz⟩ := I.tuple hq
    obtain ⟨u, hu, ru⟩ := rv.get hx
    have le : e < s.heap.objs.size := Heap.lt_size he
    have li : it < s.heap.objs.size := let ⟨_, q, _⟩ := hit; Heap.lt_size q
    have D : Draws X.prog X.w X.A.in1 it [it, a] its.toArray.size (fun i v => its.toArray[i]? = some v) (fun i h => h.IsTupleIter it a i ∧ h.IsTuple a its.toArray) := Draws.tuple (A := X.A.in1) (show X.A.in1.handled = none from I.ok.hd hc) it a n2 its.toArray
    have il : i < its.toArray.size := by
      have := (List.getElem?_eq_some_iff.mp hu).1
      simpa using this
    refine wpAny_pyNext_enum_itemC D he ⟨hit, p⟩ il n1 (by simp [n1, Ne.symm n3]) fun v h' tk hv ho hst hT hsz hk => ?_
    have ev : v = u := by
      have : its[i]? = some v := by simpa using hv
      rw [hu] at this
      exact (Option.some.inj this).symm
    subst ev
    refine ⟨_, rfl, wpAny_letOwnedTupleGo_enum (s := { s with heap := h', toks := tk + 1 }) ho fun h2 he2 sb => ?_⟩
    have hT2 := (sb.2 _ (Nat.ne_of_gt le)).trans hT
    have nw : ObjOk X.prog X.w (upd H s.heap.objs.size (.tup [.int (i : Nat), x])) h2 s.heap.objs.size (.tup [.int (i : Nat), x]) :=
      ⟨(by decide : 2 ≤ sizeLine), [.int i tk, v], .cons ⟨_, rfl⟩ (.cons ru .nil), ⟨_, hT2, rfl, _, rfl⟩⟩
    have I1 : Inv X pins σ (upd H s.heap.objs.size (.tup [.int (i : Nat), x])) { s with heap := h2, toks := tk + 1 } :=
      I.turnedNew (ch := [e, it]) (fun b ob hb q => by
        have nb : b ≠ e ∧ b ≠ it := by simpa using hb
        exact (sb.2 b nb.1).trans (hk b ob nb.1 nb.2 q)) hf (Nat.le_refl _) nw
    refine ⟨.ref s.heap.objs.size, _, I1, rfl, ⟨_, x, rfl, I.hok.fresh (Nat.le_refl _), rfl, fun ys hy => by rw [I.tuple_inj hy hq]; exact hx⟩, ⟨⟨v, ?_⟩, hst.1.at fun o q => (sb.2 it (Ne.symm n1)).trans q, n1, n2, n3⟩, fun b hb => ?_⟩
    · rw [show ((i + 1 : Nat) : Int) = (i : Int) + 1 by omega]
      exact he2
    · have lb : b < s.heap.objs.size := by
        rcases mem2 hb with rfl | rfl
        · exact le
        · exact li
      rw [upd_ne (Nat.ne_of_lt lb)]
      exact (hf b hb).1
  done := by
    rintro X rfl rfl rfl hc i pins s σ H E I hf ⟨⟨old, he⟩, hit, n1, n2, n3⟩ ⟨xs, hq, hx⟩
    obtain ⟨its, rv, p, hz⟩ := I.tuple hq
    obtain ⟨f0, f1, f2, f3, f4, f5⟩ := hf it (by simp)
    have D : Draws X.prog X.w X.A.in1 it [it, a] its.toArray.size (fun i v => its.toArray[i]? = some v) (fun i h => h.IsTupleIter it a i ∧ h.IsTuple a its.toArray) := Draws.tuple (A := X.A.in1) (show X.A.in1.handled = none from I.ok.hd hc) it a n2 its.toArray
    have ei : its.toArray.size = i := by
      have := rv.length
      simp
      omega
    exact wpAny_pyNext_enum_endD D he (ei ▸ ⟨hit, p⟩) fun h' eb => ⟨rfl, I.turned (t' := s.toks) (fun b o hb q => eb b o hb q) f0 f1 f3 f4 f5⟩
  self A i s Q E st h := let ⟨⟨_, he⟩, _⟩ := st; wpAny_pyIter_enum he h
theorem walk_enumT {K : PySem.W.Frag} {a : Addr} {xs : List V} : Walk (IteT K a) xs.length (fun H => SqT K H a xs) (YPair (fun i => some (.int (i : Nat))) (fun i => xs[i]?)) where
  goes i H hi q := ⟨xs, _, q, List.getElem?_eq_getElem hi⟩
  stops H q := ⟨xs, q, rfl⟩
  yields i H v H' _ q y := by
    obtain ⟨T, x, e1, e2, e3, e4⟩ := y
    exact ⟨T, _, x, e1, e2, e3, rfl, e4 xs q⟩
def iEnumA (K : PySem.W.Frag) (t : TA) : TI := fun σ H R => t σ H fun vs H1 => ∃ p xs, vs = [.ref p] ∧ ((SqL K H1 p xs ∧ R (Ite K p) H1) ∨ (SqT K H1 p xs ∧ R (IteT K p) H1))
theorem pi_enumA {X : Cx} {e : Expr} {t : TA} {p pos tpos : Pos} {elts : List Expr} {kk : Nat} (hg : Gl X "enumerate") (hm : X.mg "enumerate" = none) (ha : PA X [e] t) (hs : starEach [e] X.env = [(false, eval e X.env)]) :
    PI X (.Tuple elts kk tpos) (.Call (.Name "enumerate" p) [e] [] pos) (iEnumA X.K t) where
  run pins s σ H R I hw := by
    refine Call_ (ld_blt I hg hm boot_enumerate (PyProof.Rows.callWith_type1 (thn (ha.run pos pins s σ H _ I hw) fun us s1 ⟨vs, H1, I1, r1, pa, xs, ev, q⟩ => ?_) hs rfl))
    subst ev
    obtain ⟨u, rfl, rx⟩ := vals1 r1
    cases rx
    have far : ∀ b ∈ [s1.heap.objs.size + 1, s1.heap.objs.size], FpOk X pins H1 b := fun b hb => by
      have le : s1.heap.objs.size ≤ b := by rcases mem2 hb with rfl | rfl <;> omega
      exact I1.fpOk le (I1.hok.fresh le)
    rcases q with ⟨hq, q⟩ | ⟨hq, q⟩
    · obtain ⟨its, rv, pl, _⟩ := I1.list hq
      refine enum_begins1 (begins_list pa its.toArray) pl.isList fun h' he ho hk => wpAny_pyIter_enum he ?_
      exact ⟨_, _, _, _, H1, rfl, I1.kept (t' := s1.toks) hk, turn_enum pa (s1.heap.objs.size + 1) s1.heap.objs.size, ⟨⟨.none, he⟩, ⟨_, ho, rfl, rfl⟩, Nat.succ_ne_self _⟩, far, q⟩
    · obtain ⟨its, rv, pl, _⟩ := I1.tuple hq
      refine enum_begins1 (begins_tuple pa its.toArray) pl fun h' he ho hk => wpAny_pyIter_enum he ?_
      have lp : pa < s1.heap.objs.size := pl.lt
      exact ⟨_, _, _, _, H1, rfl, I1.kept (t' := s1.toks) hk, turn_enumT pa (s1.heap.objs.size + 1) s1.heap.objs.size, ⟨⟨.none, he⟩, ⟨_, ho, rfl, rfl⟩, Nat.succ_ne_self _, Nat.ne_of_lt lp, Nat.ne_of_lt (Nat.lt_succ_of_lt lp)⟩, far, q⟩
/-- enumerate of a list or a tuple -/
def iEnmD (f : FE) : FI := fun ρ μ q => f ρ μ fun d μ1 => seqD d fun ds => q (enumD ds) μ1
theorem di_enum {Kf : PySem.W.Frag} {X : Cx} {a : Expr} {ta : TE} {f : FE} {p pos tpos : Pos} {elts : List Expr} {kk : Nat} (hm : X.mg "enumerate" = none) (ha : DE X a ta f) (hg : Gl X "enumerate" := by rfl) (hs : starEach [a] X.env = [(false, eval a X.env)] := by rfl) (hK : X.K = Kf := by rfl) :
    DI X (.Tuple elts kk tpos) (.Call (.Name "enumerate" p) [a] [] pos) (iEnumA Kf (tCons ta tNil)) (iEnmD f) := by
  subst hK
  refine ⟨pi_enumA hg hm (pa_cons ha.pe pa_nil hs) hs, fun s hf k => ?_⟩
  refine ha.sim s hf fun d μ1 v W1 H1 q1 t1 s1 r1 => ?_
  unfold seqD at q1
  split at q1
  · cases r1 with
    | tup hp r =>
      rename_i ds pa xs
      refine ⟨pa, xs, rfl, .inr ⟨hp.sq, k _ μ1 W1 H1 _ _ _ q1 t1 s1 (by rw [show (enumD ds).length = xs.length by simp [enumD, r.length]]; exact walk_enumT) (fun W3 H3 t3 => (hp.tr t3).sq) fun i Hi x Hi' W3 d t3 dom y hd => ?_⟩⟩
      obtain ⟨T, x', y', rfl, hT, rfl, hx, hy⟩ := y
      obtain ⟨dx, e1, rfl⟩ := enumD_get hd
      obtain ⟨v1, g1, g2⟩ := r.get e1
      cases hx
      have hy : xs[i]? = some y' := hy
      rw [hy] at g1
      cases g1
      exact pair_ok (dom := dom) hT (.int _) (g2.tr t3)
  · cases r1 with
    | lst n hp r =>
      rename_i ds pa xs
      refine ⟨pa, xs, rfl, .inl ⟨SqL.of hp, k _ μ1 W1 H1 _ _ _ q1 t1 s1 (by rw [show (enumD ds).length = xs.length by simp [enumD, r.length]]; exact walk_enum) (fun W3 H3 t3 => SqL.of (t3.fr pa _ n hp).1) fun i Hi x Hi' W3 d t3 dom y hd => ?_⟩⟩
      obtain ⟨T, x', y', rfl, hT, rfl, hx, hy⟩ := y
      obtain ⟨dx, e1, rfl⟩ := enumD_get hd
      obtain ⟨v1, g1, g2⟩ := r.get e1
      cases hx
      have hy : xs[i]? = some y' := hy
      rw [hy] at g1
      cases g1
      exact pair_ok (dom := dom) hT (.int _) (g2.tr t3)
  · exact q1.elim
end DL

set_option Elab.async false
set_option linter.all false
set_option maxRecDepth 100000
set_option maxHeartbeats 4000000
/-! DL13: reading a shared list. -/
namespace DL
open PySem PySem.Spec PyProof.Rows L2
section
variable {X : Cx} {b : Expr} {x : Str} {tb : TE} {g : FE} {pos : Pos}
def eIxV (i : Nat) (g : FE) : FE := fun ρ μ q => datD ρ[i]? fun c => g ρ μ fun k μ2 => match c with
  | .cell n => cellL μ2[n]? fun ds => intD k fun j => atD ds j fun d => q d μ2
  | _ => False
theorem de_ixv (i : Nat) {px : Pos} {Kf : PySem.W.Frag} (hb : DE X b tb g) (hs : PlainIx b := by exact fun _ _ => rfl) (hK : X.K = Kf := by rfl) (hN : X.N[i]? = some x := by rfl) (hv : Vis X.env.scope x := by first | exact Or.inl rfl | exact Or.inr (Or.inl rfl) | exact Or.inr (Or.inr rfl)) (hd : (x == ("__debug__" : Str)) = false := by decide)
    (hcd : (x == ("__classdict__" : Str)) = false := by decide) : DE X (.Subscript (.Name x px) b pos) (tOp (rIx Kf) (tVar i) tb) (eIxV i g) := by
  subst hK
  refine ⟨pe_ix ix_seq (pe_var hN hv hd hcd) hb.pe hs, fun {W0 B W σ H ρ μ q Q} s hf k => ?_⟩
  obtain ⟨c, e, q0⟩ := datD_of hf
  obtain ⟨v, h1, h2⟩ := s.dat i c e
  refine ⟨v, h1, ?_⟩
  refine hb.sim s q0 fun kd μ2 kv W2 H2 q2 t2 s2 r2 => ?_
  cases h2 with
  | cell hn =>
    obtain ⟨ds, e2, q3⟩ := cellL_of q2
    obtain ⟨j, rfl, q4⟩ := intD_of q3
    obtain ⟨d, e4, q5⟩ := atD_of q4
    have hn2 := t2.C _ _ hn
    obtain ⟨vs, h5, h6⟩ := s2.cel.at_ _ _ _ hn2 e2
    obtain ⟨u, e', r'⟩ := h6.at_ e4
    cases r2
    exact .inl ⟨_, vs, _, u, rfl, rfl, SqL.of h5, e', k _ _ _ _ _ q5 t2 s2 r'⟩
  | _ => exact q2.elim
end
end DL

set_option Elab.async false
set_option linter.all false
set_option maxRecDepth 100000
set_option maxHeartbeats 4000000
/-! DL10: the end of a law. -/
namespace DL
open PySem PySem.Spec PyProof.Rows L2

/-! ### the head's facts, and one Bool more -/
abbrev AlU : Type := He.AlD × Bool
def obsU (n : Nat) (fa : List He.Fa) (fn : List He.DefD) (ex : PySem.W.Frag → Bool) (g : Addr → Option Obj) : AlU := (He.obsD fa fn (He.frG g (He.asD g n)), ex (He.frG g (He.asD g n)))
structure SaysU (fa : List He.Fa) (fn : List He.DefD) (ex : PySem.W.Frag → Bool) (K : PySem.W.Frag) : Prop where
  d : He.SaysD fa fn K
  more : ex K = true
def hookU (n : Nat) (fa : List He.Fa) (fn : List He.DefD) (ex : PySem.W.Frag → Bool) : PySem.W.Hook where
  α := AlU
  obs := fun s => obsU n fa fn ex s.heap.get?
  val := fun _ => (He.valD fn, true)
  says := fun _ h => ∃ K : PySem.W.Frag, K.In h ∧ SaysU fa fn ex K
  of := fun _ _ e => ⟨_, He.frG_in, congrArg Prod.fst e, congrArg Prod.snd e⟩
  keeps := fun _ _ _ ⟨K, hK, c⟩ k => ⟨K, PySem.W.Frag.In.keeps hK k, c⟩
theorem obsU_eq {n : Nat} {fa : List He.Fa} {fn : List He.DefD} {ex : PySem.W.Frag → Bool} {g : Addr → Option Obj} {s : Shared} (h : ∀ a, g a = s.heap.get? a) : obsU n fa fn ex g = (hookU n fa fn ex).obs s := by
  cases (show g = s.heap.get? from funext h)
  rfl
theorem fact_in {fa : List He.Fa} {fn : List He.DefD} {K : PySem.W.Frag} (c : He.SaysD fa fn K) {f : He.Fa} (h : f ∈ fa) : f.ok K = true := by
  obtain ⟨i, hi, e⟩ := List.mem_iff_getElem.mp h
  exact c.fact i (f := f) (by rw [List.getElem?_eq_getElem hi, e])
/-- the written part tells of a module's tuple -/
theorem ktup_of {K : PySem.W.Frag} {x : Str} {vs : List He.Dv} (h : He.tupB K x vs = true) : KTup K (He.ga K x) (vs.map (He.Dv.v K)) := fun H => He.tupB_ok h H

/-- a law -/
theorem law_end {l : PySem.W.OpenLaw} {k : Nat} {q : Program} {loose : List Str} {XP : (Str → Option Value) → Heap → Prop} {YP : World → Heap → Prop} {d : DefRec} {F : FSem} (hn : l.most = some 63) (hdf : d.params.defaults = []) (hr : Room k callerA)
    (hF : ∀ (w : World) (mg : Str → Option Value) (fa : Addr) (h : Heap), YP w h → h.Ns mainGlobals mg → mg d.name = some (.ref fa) →
      ∃ (K : PySem.W.Frag) (fd : FuncData), K.In h ∧ (∀ (s : Shared) (u : Value), BindsTo s fd ⟨[u], []⟩ [("script", u)]) ∧
        ∀ base : Heap, K.In base → base.Ns mainGlobals mg → FnOk l.prog w K mg base CX0 k fa fd ["script"] (spD l.prog w K 1 false F))
    (hlaw : ∀ ns : List Int, ns.length ≤ 63 → F [.ro (ns.map D.int)] [] fun d _ => d = .bl true) :
    PySem.W.WalkO q loose XP YP l.row.toRowW d [] (fun f vs => PySem.call f vs) := by
  refine L2.walk_ofE (l := l) (n := 63) (k := k) (x := "script") (CX := CX0) hn (by decide) hdf hr (fun w mg fa h Y G hmg => ?_) fun _ _ _ _ z => z
  obtain ⟨K, fd, KX, hb, hK⟩ := hF w mg fa h Y G hmg
  refine ⟨K, fd, spD l.prog w K 1 false F, KX, hb, fun H a ns hl _ hS => ?_, hK⟩
  refine ⟨⟨[], fun _ => False⟩, [.ro (ns.map D.int)], [], _, rfl, ⟨fun a h => absurd h (by simp), fun _ h => h.elim, List.nodup_nil⟩, ⟨rfl, fun n a o h => by simp at h⟩, .cons (.ro ?_ (RepL.of_ints ns)) .nil, hlaw ns hl, fun d μ' v W' H' hq _ _ _ r => ?_⟩
  · rcases hS with h | h
    · exact .inl ⟨fun z => z, h⟩
    · exact .inr fun H => .inr h
  · subst hq
    cases r
    rfl
end DL

set_option Elab.async false
set_option linter.all false
set_option maxRecDepth 100000
set_option maxHeartbeats 4000000
/-! DS0: working with meanings. -/
namespace DL
open PySem L2
/-- a step that simp writes down -/
theorem stp {α : Sort _} {a b : α} (h : a = b) : a = b := h
section
variable {ρ : Loc} {μ : Mu} {q : D → Mu → Prop} {qe : FEnds} {f g h : FE} {F : FA} {p p' : D → D → (D → Prop) → Prop} {S T : FS} {c : FT}
@[simp ↓] theorem x_var0 {d : D} : eVar 0 (some (.dat d) :: ρ) μ q = q d μ := stp rfl
@[simp ↓] theorem x_varS {s : Option Slot} {i : Nat} : eVar (i + 1) (s :: ρ) μ q = eVar i ρ μ q := stp rfl
@[simp ↓] theorem x_own0 {d : D} : eOwn 0 (some (.own d) :: ρ) μ q = q d μ := stp rfl
@[simp ↓] theorem x_ownS {s : Option Slot} {i : Nat} : eOwn (i + 1) (s :: ρ) μ q = eOwn i ρ μ q := stp rfl
/-- ρ with another slot i -/
def putK (i : Nat) (s : Option Slot) (ρ : Loc) (k : Loc → Prop) : Prop := k (ρ.set i s)
@[simp ↓] theorem x_put0 {s s' : Option Slot} {k : Loc → Prop} : putK 0 s (s' :: ρ) k = k (s :: ρ) := stp rfl
@[simp ↓] theorem x_putS {s s' : Option Slot} {i : Nat} {k : Loc → Prop} : putK (i + 1) s (s' :: ρ) k = putK i s ρ fun ρ' => k (s' :: ρ') := stp rfl
def wipeK (ρ : Loc) (vs : List Nat) (k : Loc → Prop) : Prop := k (wipeL ρ vs)
@[simp ↓] theorem x_wipe0 {k : Loc → Prop} : wipeK ρ [] k = k ρ := stp rfl
@[simp ↓] theorem x_wipeS {v : Nat} {vs : List Nat} {k : Loc → Prop} : wipeK ρ (v :: vs) k = wipeK ρ vs fun ρ1 => putK v none ρ1 k := stp rfl
@[simp ↓] theorem x_dat {d : D} {k : D → Prop} : datD (some (some (.dat d))) k = k d := stp rfl
@[simp ↓] theorem x_ownD {d : D} {k : D → Prop} : ownD (some (some (.own d))) k = k d := stp rfl
@[simp ↓] theorem x_c {d : D} : eC d ρ μ q = q d μ := stp rfl
@[simp ↓] theorem x_bin : eBin p f g ρ μ q = f ρ μ fun x μ1 => g ρ μ1 fun y μ2 => p x y fun d => q d μ2 := stp rfl
@[simp ↓] theorem x_1 {p : D → (D → Prop) → Prop} : e1 p f ρ μ q = f ρ μ fun d μ1 => p d fun z => q z μ1 := stp rfl
@[simp ↓] theorem x_chain : eChain p p' f g h ρ μ q = f ρ μ fun x μ1 => g ρ μ1 fun y μ2 => p x y fun z => blD z fun b => if b = true then h ρ μ2 fun u μ3 => p' y u fun d => q d μ3 else q (.bl false) μ2 := stp rfl
@[simp ↓] theorem x_blD {b : Bool} {k : Bool → Prop} : blD (.bl b) k = k b := stp rfl
@[simp ↓] theorem x_intD {i : Int} {k : Int → Prop} : intD (.int i) k = k i := stp rfl
@[simp ↓] theorem x_and : eAnd f g ρ μ q = f ρ μ fun d μ1 => blD d fun b => if b = true then g ρ μ1 q else q (.bl false) μ1 := stp rfl
@[simp ↓] theorem x_or : eOr f g ρ μ q = f ρ μ fun d μ1 => blD d fun b => if b = true then q (.bl true) μ1 else g ρ μ1 q := stp rfl
@[simp ↓] theorem x_not : eNot f ρ μ q = f ρ μ fun d μ1 => blD d fun b => q (.bl (!b)) μ1 := stp rfl
@[simp ↓] theorem x_if {t : FT} : eIf t f g ρ μ q = t ρ μ fun b μ1 => if b = true then f ρ μ1 q else g ρ μ1 q := stp rfl
@[simp ↓] theorem x_tst {q : Bool → Mu → Prop} : tst f ρ μ q = f ρ μ fun d μ1 => blD d fun b => q b μ1 := stp rfl
@[simp ↓] theorem x_tand {s t : FT} {q : Bool → Mu → Prop} : tAndF s t ρ μ q = s ρ μ fun b μ1 => if b = true then t ρ μ1 q else q false μ1 := stp rfl
@[simp ↓] theorem x_tor {s t : FT} {q : Bool → Mu → Prop} : tOrF s t ρ μ q = s ρ μ fun b μ1 => if b = true then q true μ1 else t ρ μ1 q := stp rfl
@[simp ↓] theorem x_tnot {t : FT} {q : Bool → Mu → Prop} : tNotF t ρ μ q = t ρ μ fun b μ1 => q (!b) μ1 := stp rfl
@[simp ↓] theorem x_yes {q : Bool → Mu → Prop} : tYesF ρ μ q = q true μ := stp rfl
@[simp ↓] theorem x_anil {q : List D → Mu → Prop} : aNil ρ μ q = q [] μ := stp rfl
@[simp ↓] theorem x_acons {q : List D → Mu → Prop} : aCons f F ρ μ q = f ρ μ fun d μ1 => F ρ μ1 fun ds μ2 => q (d :: ds) μ2 := stp rfl
@[simp ↓] theorem x_tup : eTup F ρ μ q = F ρ μ fun ds μ1 => ds.length ≤ sizeLine ∧ q (.tup ds) μ1 := stp rfl
@[simp ↓] theorem x_lst : eLst F ρ μ q = F ρ μ fun ds μ1 => ds.length ≤ sizeLine ∧ q (.lst ds) μ1 := stp rfl
@[simp ↓] theorem x_call {Fs : FSem} : eCall Fs F ρ μ q = F ρ μ fun ds μ1 => Fs ds μ1 q := stp rfl
@[simp ↓] theorem x_seq : sSeq S T qe ρ μ = S { qe with nx := T qe } ρ μ := stp rfl
@[simp ↓] theorem x_next : sNext qe ρ μ = qe.nx ρ μ := stp rfl
@[simp ↓] theorem x_break : sBreak qe ρ μ = qe.bk ρ μ := stp rfl
@[simp ↓] theorem x_cont : sCont qe ρ μ = qe.ct ρ μ := stp rfl
@[simp ↓] theorem x_ret : sRet f qe ρ μ = f ρ μ fun d μ1 => qe.rt d μ1 := stp rfl
@[simp ↓] theorem x_retN : sRetN qe ρ μ = qe.rt .non μ := stp rfl
@[simp ↓] theorem x_sif : sIf c S T qe ρ μ = c ρ μ fun b μ1 => if b = true then S qe ρ μ1 else T qe ρ μ1 := stp rfl
@[simp ↓] theorem x_set {i : Nat} : sSet i f qe ρ μ = f ρ μ fun d μ1 => putK i (some (.dat d)) ρ fun ρ1 => qe.nx ρ1 μ1 := stp rfl
@[simp ↓] theorem x_setO {i : Nat} : sSetO i f qe ρ μ = f ρ μ fun d μ1 => putK i (some (.own d)) ρ fun ρ1 => qe.nx ρ1 μ1 := stp rfl
@[simp ↓] theorem x_setC {i : Nat} : sSetC i f qe ρ μ = f ρ μ fun d μ1 => lstD d fun ds => putK i (some (.dat (.cell μ1.length))) ρ fun ρ1 => qe.nx ρ1 (μ1 ++ [.lst ds]) := stp rfl
@[simp ↓] theorem x_unp {gg : FG} : sUnp f gg qe ρ μ = f ρ μ fun d μ1 => gg d ρ fun ρ' => qe.nx ρ' μ1 := stp rfl
@[simp ↓] theorem x_drop : sDrop f qe ρ μ = f ρ μ fun _ μ1 => qe.nx ρ μ1 := stp rfl
def twoD (ds : List D) (k : D → D → Prop) : Prop := match ds with
  | [x, y] => k x y
  | _ => False
@[simp ↓] theorem x_par {i j : Nat} : sPar i j F qe ρ μ = F ρ μ fun ds μ1 => twoD ds fun x y => putK i (some (.dat x)) ρ fun ρ1 => putK j (some (.dat y)) ρ1 fun ρ2 => qe.nx ρ2 μ1 := stp rfl
@[simp ↓] theorem x_two {x y : D} {k : D → D → Prop} : twoD [x, y] k = k x y := stp rfl
@[simp ↓] theorem x_for {it : FI} {tg : FG} : sFor it tg S qe ρ μ = it ρ μ fun ds μ1 => forL tg S qe ds ρ μ1 := stp rfl
@[simp ↓] theorem x_gname {i : Nat} {d : D} {k : Loc → Prop} : gtName i d ρ k = putK i (some (.dat d)) ρ k := stp rfl
@[simp ↓] theorem x_gnil {k : Loc → Prop} : gtNil [] ρ k = k ρ := stp rfl
@[simp ↓] theorem x_gcons {fg : FG} {gs : FGs} {d : D} {r : List D} {k : Loc → Prop} : gtCons fg gs (d :: r) ρ k = fg d ρ fun ρ' => gs r ρ' k := stp rfl
@[simp ↓] theorem x_gtup {n : Nat} {gs : FGs} {ds : List D} {k : Loc → Prop} : gtTup n gs (.tup ds) ρ k = (ds.length = n ∧ gs ds ρ k) := stp rfl
@[simp ↓] theorem x_seqI {q : List D → Mu → Prop} : iSeqD f ρ μ q = f ρ μ fun d μ1 => anyD d fun ds => q ds μ1 := stp rfl
@[simp ↓] theorem x_anyT {ds : List D} {k : List D → Prop} : anyD (.tup ds) k = k ds := stp rfl
@[simp ↓] theorem x_anyL {ds : List D} {k : List D → Prop} : anyD (.lst ds) k = k ds := stp rfl
@[simp ↓] theorem x_anyR {ds : List D} {k : List D → Prop} : anyD (.ro ds) k = k ds := stp rfl
@[simp ↓] theorem x_anyS {x : Str} {k : List D → Prop} : anyD (.str x) k = k (signs x) := stp rfl
@[simp ↓] theorem x_r1 {q : List D → Mu → Prop} : iR1 f ρ μ q = f ρ μ fun d μ1 => intD d fun n => sm n ∧ q (rgD 0 n.toNat) μ1 := stp rfl
@[simp ↓] theorem x_r2 {q : List D → Mu → Prop} : iR2 f g ρ μ q = f ρ μ fun d μ1 => intD d fun i => g ρ μ1 fun e μ2 => intD e fun j => sm i ∧ sm j ∧ q (rgD i (j - i).toNat) μ2 := stp rfl
@[simp ↓] theorem x_lc {it : FI} {tg : FG} {tt : FT} {el : FE} {vs : List Nat} : eLc it tg tt el vs ρ μ q = it ρ μ fun ds μ1 => ds.length ≤ sizeLine ∧ wipeK ρ vs fun ρ1 => lcL tg tt el ρ1 ds μ1 fun ys μ2 => q (.lst ys) μ2 := stp rfl
@[simp ↓] theorem x_lstD {ds : List D} {k : List D → Prop} : lstD (.lst ds) k = k ds := stp rfl
@[simp ↓] theorem x_tupD {ds : List D} {k : List D → Prop} : tupD (.tup ds) k = k ds := stp rfl
@[simp ↓] theorem x_cut {l h : FO} : eCut f l h ρ μ q = f ρ μ fun d μ1 => l ρ μ1 fun lo μ2 => h ρ μ2 fun hi μ3 => opCut d lo hi fun z => q z μ3 := stp rfl
@[simp ↓] theorem x_pno {q : Option Int → Mu → Prop} : pNo ρ μ q = q none μ := stp rfl
@[simp ↓] theorem x_pyes {q : Option Int → Mu → Prop} : pYes f ρ μ q = f ρ μ fun d μ1 => intD d fun i => q (some i) μ1 := stp rfl
end
section
variable {i j : Int} {x y : Str} {a b : List D} {q : D → Prop}
@[simp ↓] theorem o_add : opAdd (.int i) (.int j) q = q (.int (i + j)) := stp rfl
@[simp ↓] theorem o_addT : opAdd (.tup a) (.tup b) q = (a.length + b.length ≤ sizeLine ∧ q (.tup (a ++ b))) := stp rfl
@[simp ↓] theorem o_addL : opAdd (.lst a) (.lst b) q = (a.length + b.length ≤ sizeLine ∧ q (.lst (a ++ b))) := stp rfl
@[simp ↓] theorem o_sub : opSub (.int i) (.int j) q = q (.int (i - j)) := stp rfl
@[simp ↓] theorem o_mul : opMul (.int i) (.int j) q = (CMul i j ∧ q (.int (i * j))) := stp rfl
@[simp ↓] theorem o_div : opDiv (.int i) (.int j) q = (0 < j ∧ j < 2 ^ 64 ∧ q (.int (i / j))) := stp rfl
@[simp ↓] theorem o_mod : opMod (.int i) (.int j) q = (0 < j ∧ q (.int (i % j))) := stp rfl
@[simp ↓] theorem o_lt : opLt (.int i) (.int j) q = q (.bl (decide (i < j))) := stp rfl
@[simp ↓] theorem o_le : opLe (.int i) (.int j) q = q (.bl (decide (i ≤ j))) := stp rfl
@[simp ↓] theorem o_gt : opGt (.int i) (.int j) q = q (.bl (decide (j < i))) := stp rfl
@[simp ↓] theorem o_ge : opGe (.int i) (.int j) q = q (.bl (decide (j ≤ i))) := stp rfl
@[simp ↓] theorem o_eqI : opEq (.int i) (.int j) q = q (.bl (decide (i = j))) := stp rfl
@[simp ↓] theorem o_neI : opNe (.int i) (.int j) q = q (.bl (!decide (i = j))) := stp rfl
@[simp ↓] theorem o_eqS : opEq (.str x) (.str y) q = q (.bl (decide (x = y))) := stp rfl
@[simp ↓] theorem o_neS : opNe (.str x) (.str y) q = q (.bl (!decide (x = y))) := stp rfl
@[simp ↓] theorem o_eqB {c d : Bool} : opEq (.bl c) (.bl d) q = q (.bl (decide (c = d))) := stp rfl
@[simp ↓] theorem o_neB {c d : Bool} : opNe (.bl c) (.bl d) q = q (.bl (!decide (c = d))) := stp rfl
@[simp ↓] theorem o_is {d : D} : opIs d .non q = q (.bl (isNonD d)) := by cases d <;> rfl
@[simp ↓] theorem o_isnot {d : D} : opIsNot d .non q = q (.bl (!isNonD d)) := by cases d <;> rfl
@[simp ↓] theorem o_ixT : opIx (.tup a) (.int i) q = atD a i q := stp rfl
@[simp ↓] theorem o_ixL : opIx (.lst a) (.int i) q = atD a i q := stp rfl
@[simp ↓] theorem o_ixR : opIx (.ro a) (.int i) q = atD a i q := stp rfl
@[simp ↓] theorem o_lenT : cLen (.tup a) q = q (.int a.length) := stp rfl
@[simp ↓] theorem o_lenL : cLen (.lst a) q = q (.int a.length) := stp rfl
@[simp ↓] theorem o_lenR : cLen (.ro a) q = q (.int a.length) := stp rfl
@[simp ↓] theorem o_lenS : cLen (.str x) q = (x.length ≤ sizeLine ∧ q (.int x.length)) := stp rfl
@[simp ↓] theorem o_tupT : cTuple (.tup a) q = q (.tup a) := stp rfl
@[simp ↓] theorem o_tupL : cTuple (.lst a) q = q (.tup a) := stp rfl
@[simp ↓] theorem o_lstT : cList (.tup a) q = q (.lst a) := stp rfl
@[simp ↓] theorem o_lstL : cList (.lst a) q = q (.lst a) := stp rfl
@[simp ↓] theorem o_int : cInt (.int i) q = q (.int i) := stp rfl
@[simp ↓] theorem o_abs : cAbs (.int i) q = q (.int (if i < 0 then -i else i)) := stp rfl
@[simp ↓] theorem o_neg : cNeg (.int i) q = q (.int (-i)) := stp rfl
@[simp ↓] theorem o_i2 {z : Int → Int → Int} : cI2 z (.int i) (.int j) q = q (.int (z i j)) := stp rfl
@[simp ↓] theorem o_cutT {lo hi : Option Int} : opCut (.tup a) lo hi q = q (.tup (cutD a lo hi)) := stp rfl
@[simp ↓] theorem o_cutL {lo hi : Option Int} : opCut (.lst a) lo hi q = q (.lst (cutD a lo hi)) := stp rfl
end
theorem atI_0 {α : Type} {x : α} {xs : List α} : atI (x :: xs) 0 = some x := by simp [atI, ixN]
theorem atI_nat' {α : Type} {xs : List α} {n : Nat} {x : α} (h : xs[n]? = some x) : atI xs (n : Int) = some x := by
  obtain ⟨hl, e⟩ := List.getElem?_eq_some_iff.mp h
  simp [atI, ixN, hl, e]
@[simp ↓] theorem at_0 {d : D} {ds : List D} {k : D → Prop} : atD (d :: ds) 0 k = k d := by simp [atD, atI, ixN]
@[simp ↓] theorem at_1 {d e : D} {ds : List D} {k : D → Prop} : atD (d :: e :: ds) 1 k = k e := by
  have : (1 : Int) < (ds.length : Int) + 1 + 1 := by omega
  simp [atD, atI, ixN, this]
@[simp ↓] theorem at_2 {d e f : D} {ds : List D} {k : D → Prop} : atD (d :: e :: f :: ds) 2 k = k f := by
  have : (2 : Int) < (ds.length : Int) + 1 + 1 + 1 := by omega
  simp [atD, atI, ixN, this]
@[simp ↓] theorem at_3 {d e f g : D} {ds : List D} {k : D → Prop} : atD (d :: e :: f :: g :: ds) 3 k = k g := by
  have : (3 : Int) < (ds.length : Int) + 1 + 1 + 1 + 1 := by omega
  simp [atD, atI, ixN, this]
theorem at_n {ds : List D} {n : Nat} {d : D} {k : D → Prop} (h : ds[n]? = some d) : atD ds (n : Int) k = k d := by
  unfold atD
  rw [atI_nat' h]
section
variable {ρ : Loc} {μ : Mu} {q : D → Mu → Prop} {qe : FEnds} {fk fv g : FE}
def ixC (c k : D) (μ : Mu) (q : D → Prop) : Prop := match c with
  | .cell n => cellL μ[n]? fun ds => intD k fun j => atD ds j q
  | _ => False
@[simp ↓] theorem x_ixC {n : Nat} {j : Int} {q : D → Prop} : ixC (.cell n) (.int j) μ q = cellL μ[n]? fun ds => atD ds j q := stp rfl
@[simp ↓] theorem x_cellL {ds : List D} {k : List D → Prop} : cellL (some (.lst ds)) k = k ds := stp rfl
def putC (c k v : D) (μ : Mu) (q : Mu → Prop) : Prop := match c with
  | .cell n => cellL μ[n]? fun ds => putL ds k v fun es => q (μ.set n (.lst es))
  | _ => False
@[simp ↓] theorem x_putC {n : Nat} {k v : D} {q : Mu → Prop} : putC (.cell n) k v μ q = cellL μ[n]? fun ds => putL ds k v fun es => q (μ.set n (.lst es)) := stp rfl
/-- x[k] = v, by what x holds -/
def sPutS (s : Option (Option Slot)) (i : Nat) (fk fv : FE) (q : FEnds) (ρ : Loc) (μ : Mu) : Prop := match s with
  | some (some (.own (.lst ds))) => fv ρ μ fun v μ1 => fk ρ μ1 fun k μ2 => putL ds k v fun es => putK i (some (.own (.lst es))) ρ fun ρ1 => q.nx ρ1 μ2
  | some (some (.dat (.cell n))) => fv ρ μ fun v μ1 => fk ρ μ1 fun k μ2 => cellL μ2[n]? fun ds => putL ds k v fun es => q.nx ρ (μ2.set n (.lst es))
  | _ => False
/-- a variable's slot -/
def slotK (i : Nat) (ρ : Loc) (k : Option (Option Slot) → Prop) : Prop := k ρ[i]?
@[simp ↓] theorem x_slot0 {s : Option Slot} {k : Option (Option Slot) → Prop} : slotK 0 (s :: ρ) k = k (some s) := stp rfl
@[simp ↓] theorem x_slotS {s : Option Slot} {i : Nat} {k : Option (Option Slot) → Prop} : slotK (i + 1) (s :: ρ) k = slotK i ρ k := stp rfl
@[simp ↓] theorem x_put {i : Nat} : sPut i fk fv qe ρ μ = slotK i ρ fun s => sPutS s i fk fv qe ρ μ := stp rfl
@[simp ↓] theorem x_putO {i : Nat} {ds : List D} : sPutS (some (some (.own (.lst ds)))) i fk fv qe ρ μ = fv ρ μ fun v μ1 => fk ρ μ1 fun k μ2 => putL ds k v fun es => putK i (some (.own (.lst es))) ρ fun ρ1 => qe.nx ρ1 μ2 := stp rfl
@[simp ↓] theorem x_putCell {i n : Nat} : sPutS (some (some (.dat (.cell n)))) i fk fv qe ρ μ = fv ρ μ fun v μ1 => fk ρ μ1 fun k μ2 => cellL μ2[n]? fun ds => putL ds k v fun es => qe.nx ρ (μ2.set n (.lst es)) := stp rfl
def sAppS (s : Option (Option Slot)) (i : Nat) (fv : FE) (q : FEnds) (ρ : Loc) (μ : Mu) : Prop := match s with
  | some (some (.own (.lst ds))) => fv ρ μ fun v μ1 => ds.length < sizeLine ∧ putK i (some (.own (.lst (ds ++ [v])))) ρ fun ρ1 => q.nx ρ1 μ1
  | _ => False
@[simp ↓] theorem x_app {i : Nat} : sApp i fv qe ρ μ = slotK i ρ fun s => sAppS s i fv qe ρ μ := stp rfl
@[simp ↓] theorem x_appO {i : Nat} {ds : List D} : sAppS (some (some (.own (.lst ds)))) i fv qe ρ μ = fv ρ μ fun v μ1 => ds.length < sizeLine ∧ putK i (some (.own (.lst (ds ++ [v])))) ρ fun ρ1 => qe.nx ρ1 μ1 := stp rfl
@[simp ↓] theorem x_ixv {i : Nat} : eIxV i g ρ μ q = eVar i ρ μ fun c _ => g ρ μ fun k μ2 => ixC c k μ2 fun d => q d μ2 := by
  unfold eIxV eVar
  congr
end
end DL

set_option Elab.async false
set_option linter.all false
set_option maxRecDepth 100000
set_option maxHeartbeats 4000000
/-! DS1: loops and comprehensions over meanings. -/
namespace DL
open PySem L2
/-- a comprehension whose test and element change nothing -/
theorem lc_pure {tg : FG} {tt : FT} {el : FE} {ρ : Loc} {μ : Mu} (p : D → Bool) (f : D → D) : ∀ {ds : List D} {q : List D → Mu → Prop},
    (∀ d ∈ ds, ∀ (k1 : D → Mu → Prop) (k2 : Mu → Prop), (if p d = true then k1 (f d) μ else k2 μ) → tg d ρ fun ρ1 => tt ρ1 μ fun b μ1 => if b = true then el ρ1 μ1 k1 else k2 μ1) →
    q ((ds.filter p).map f) μ → lcL tg tt el ρ ds μ q
  | [], _, _, h => h
  | d :: ds, q, hs, h => by
    refine hs d List.mem_cons_self _ _ ?_
    by_cases hp : p d = true
    · rw [if_pos hp]
      refine lc_pure p f (fun d' hd' => hs d' (List.mem_cons_of_mem _ hd')) ?_
      rw [List.filter_cons_of_pos hp] at h
      exact h
    · rw [if_neg hp]
      refine lc_pure p f (fun d' hd' => hs d' (List.mem_cons_of_mem _ hd')) ?_
      rw [List.filter_cons_of_neg hp] at h
      exact h
/-- .. without a test -/
theorem lc_map {tg : FG} {el : FE} {ρ : Loc} {μ : Mu} (f : D → D) : ∀ {ds : List D} {q : List D → Mu → Prop},
    (∀ d ∈ ds, ∀ k1 : D → Mu → Prop, k1 (f d) μ → tg d ρ fun ρ1 => el ρ1 μ k1) → q (ds.map f) μ → lcL tg tYesF el ρ ds μ q
  | [], _, _, h => h
  | d :: ds, q, hs, h => hs d List.mem_cons_self _ (lc_map f (fun d' hd' => hs d' (List.mem_cons_of_mem _ hd')) h)
/-- .. whose element changes the shared objects: I stays, J is true of each element -/
theorem lc_inv {tg : FG} {el : FE} {ρ : Loc} (I : Mu → Prop) (J : D → Prop) : ∀ {ds : List D} {μ : Mu} {q : List D → Mu → Prop},
    (∀ d ∈ ds, ∀ (μ : Mu) (k1 : D → Mu → Prop), I μ → (∀ y μ', J y → I μ' → k1 y μ') → tg d ρ fun ρ1 => el ρ1 μ k1) → I μ → (∀ ys μ', ys.length = ds.length → (∀ y ∈ ys, J y) → I μ' → q ys μ') → lcL tg tYesF el ρ ds μ q
  | [], _, _, _, i, h => h [] _ rfl (fun _ m => by cases m) i
  | d :: ds, μ, q, hs, i, h => hs d List.mem_cons_self μ _ i fun y μ' j i' =>
      lc_inv I J (fun d' hd' => hs d' (List.mem_cons_of_mem _ hd')) i' fun ys μ'' hl hj i'' => h (y :: ys) μ'' (by simp [hl]) (fun z m => by
        rcases List.mem_cons.mp m with rfl | m
        · exact j
        · exact hj z m) i''
/-- a loop: I by what is gone through -/
theorem for_inv {tg : FG} {b : FS} {q : FEnds} (I : List D → Loc → Mu → Prop) : ∀ {ds : List D} {pre : List D} {ρ : Loc} {μ : Mu},
    (∀ (pre' : List D) d (post : List D) ρ μ (k : Loc → Mu → Prop), pre' ++ d :: post = pre ++ ds → I pre' ρ μ → (∀ ρ' μ', I (pre' ++ [d]) ρ' μ' → k ρ' μ') → tg d ρ fun ρ1 => b { q with nx := k, ct := k, bk := q.nx } ρ1 μ) →
    I pre ρ μ → (∀ ρ' μ', I (pre ++ ds) ρ' μ' → q.nx ρ' μ') → forL tg b q ds ρ μ
  | [], pre, ρ, μ, _, i, h => by
    rw [List.append_nil] at h
    exact h ρ μ i
  | d :: ds, pre, ρ, μ, hs, i, h => by
    refine hs pre d ds ρ μ _ rfl i fun ρ' μ' i' => ?_
    refine for_inv I (pre := pre ++ [d]) (fun pre' d' post ρ μ k e => hs pre' d' post ρ μ k (by rw [e]; simp)) i' ?_
    intro ρ'' μ'' i''
    exact h ρ'' μ'' (by simpa using i'')
theorem blL_map (p : D → Bool) : ∀ ds : List D, blL (ds.map fun d => .bl (p d)) = some (ds.map p)
  | [] => rfl
  | d :: ds => by simp [blL, blL_map p ds]
theorem blL_bls : ∀ bs : List Bool, blL (bs.map D.bl) = some bs
  | [] => rfl
  | d :: ds => by simp [blL, blL_bls ds]
theorem all_map {p : D → Bool} {ds : List D} {q : D → Prop} : cAll (.lst (ds.map fun d => .bl (p d))) q = q (.bl (ds.all p)) := by
  show (match blL (ds.map fun d => .bl (p d)) with | some bs => q (.bl (bs.all id)) | none => False) = _
  rw [blL_map]
  simp [Function.comp_def]
theorem intL_ints : ∀ ns : List Int, intL (ns.map D.int) = some ns
  | [] => rfl
  | n :: ns => by simp [intL, intL_ints ns]
theorem intLD_ints {ns : List Int} {k : List Int → Prop} : intLD (.lst (ns.map D.int)) k = k ns := by
  show (match intL (ns.map D.int) with | some bs => k bs | none => False) = _
  rw [intL_ints]
@[simp] theorem sl_le {n : Nat} (h : n ≤ 1000000) : n ≤ sizeLine := by
  rw [sizeLine_eq]
  omega
/-! ### the same as equations -/
theorem lc_map_eq {tg : FG} {el : FE} {ρ : Loc} {μ : Mu} (f : D → D) : ∀ {ds : List D} {q : List D → Mu → Prop},
    (∀ d ∈ ds, ∀ k1 : D → Mu → Prop, (tg d ρ fun ρ1 => el ρ1 μ k1) = k1 (f d) μ) → lcL tg tYesF el ρ ds μ q = q (ds.map f) μ
  | [], _, _ => rfl
  | d :: ds, q, hs => by
    show (tg d ρ fun ρ1 => el ρ1 μ fun y μ2 => lcL tg tYesF el ρ ds μ2 fun ys μ3 => q (y :: ys) μ3) = _
    rw [hs d List.mem_cons_self, lc_map_eq f fun d' hd' => hs d' (List.mem_cons_of_mem _ hd')]
    rfl
theorem lc_pure_eq {tg : FG} {tt : FT} {el : FE} {ρ : Loc} {μ : Mu} (p : D → Bool) (f : D → D) : ∀ {ds : List D} {q : List D → Mu → Prop},
    (∀ d ∈ ds, ∀ (k1 : D → Mu → Prop) (k2 : Mu → Prop), (tg d ρ fun ρ1 => tt ρ1 μ fun b μ1 => if b = true then el ρ1 μ1 k1 else k2 μ1) = if p d = true then k1 (f d) μ else k2 μ) →
    lcL tg tt el ρ ds μ q = q ((ds.filter p).map f) μ
  | [], _, _ => rfl
  | d :: ds, q, hs => by
    show (tg d ρ fun ρ1 => tt ρ1 μ fun b μ1 => if b = true then el ρ1 μ1 fun y μ2 => lcL tg tt el ρ ds μ2 fun ys μ3 => q (y :: ys) μ3 else lcL tg tt el ρ ds μ1 q) = _
    have h := hs d List.mem_cons_self (fun y μ2 => lcL tg tt el ρ ds μ2 fun ys μ3 => q (y :: ys) μ3) (fun μ1 => lcL tg tt el ρ ds μ1 q)
    rw [h]
    have ih : ∀ {q : List D → Mu → Prop}, lcL tg tt el ρ ds μ q = q ((ds.filter p).map f) μ := lc_pure_eq p f fun d' hd' => hs d' (List.mem_cons_of_mem _ hd')
    by_cases hp : p d = true
    · rw [if_pos hp, ih, List.filter_cons_of_pos hp]
      rfl
    · rw [if_neg hp, ih, List.filter_cons_of_neg hp]
theorem if_q {c : Prop} [Decidable c] {a b : D} {q : D → Prop} : (if c then q a else q b) = q (if c then a else b) := by split <;> rfl
end DL

set_option Elab.async false
set_option linter.all false
set_option maxRecDepth 100000
set_option maxHeartbeats 8000000

open PySem L2 DL
def N_is_from : List Str := ["value", "low", "high"]
def g_is_from : FS :=
  (sRet (eAnd (e1 (cIsi "int") (eVar 0)) (eAnd (eNot (e1 (cIsi "bool") (eVar 0))) (eChain opLe opLe (eVar 1) (eVar 0) (eVar 2)))))
def S_is_from : FSem := semFn N_is_from false g_is_from
theorem u_is_from {a0 a1 a2 : D} {μ : Mu} {q : D → Mu → Prop} : S_is_from [a0, a1, a2] μ q = g_is_from { nx := fun _ μ1 => false = false ∧ q .non μ1, rt := q } [some (.dat a0), some (.dat a1), some (.dat a2)] μ := rfl

def N_is_name : List Str := ["value", "sign"]
def g_is_name : FS :=
  (sRet (eAnd (e1 (cIsi "str") (eVar 0)) (eAnd (eChain opLe opLe (eC (.int 1)) (e1 cLen (eVar 0)) (eC (.int 8))) (e1 cAll (eLc (iSeqD (eVar 0)) (gtName 1) tYesF (eBin (opInG false) (eVar 1) (eC (.str "abcdefghijklmnopqrstuvwxyz"))) [1])))))
def S_is_name : FSem := semFn N_is_name false g_is_name
theorem u_is_name {a0 : D} {μ : Mu} {q : D → Mu → Prop} : S_is_name [a0] μ q = g_is_name { nx := fun _ μ1 => false = false ∧ q .non μ1, rt := q } [some (.dat a0), none] μ := rfl

def N_is_tuple_of : List Str := ["value", "size"]
def g_is_tuple_of : FS :=
  (sRet (eAnd (e1 (cIsi "tuple") (eVar 0)) (eBin opEq (e1 cLen (eVar 0)) (eVar 1))))
def S_is_tuple_of : FSem := semFn N_is_tuple_of false g_is_tuple_of
theorem u_is_tuple_of {a0 a1 : D} {μ : Mu} {q : D → Mu → Prop} : S_is_tuple_of [a0, a1] μ q = g_is_tuple_of { nx := fun _ μ1 => false = false ∧ q .non μ1, rt := q } [some (.dat a0), some (.dat a1)] μ := rfl

def N_are_windows : List Str := ["value", "end", "window"]
def g_are_windows : FS :=
  (sSeq (sIf (tOrF (tNotF (tst (e1 (cIsi "tuple") (eVar 0)))) (tst (eBin opGt (e1 cLen (eVar 0)) (eC (.int 4))))) (sRet (eC (.bl false))) sNext)
    (sSeq (sSet 1 (eC (.int 0)))
    (sSeq (sFor (iSeqD (eVar 0)) (gtName 2) (sSeq (sIf (tOrF (tNotF (tst (eCall S_is_tuple_of (aCons (eVar 2) (aCons (eC (.int 2)) aNil))))) (tNotF (tst (eCall S_is_from (aCons (eBin opIx (eVar 2) (eC (.int 0))) (aCons (eVar 1) (aCons (eBin opSub (eC (.int 168)) (eC (.int 1))) aNil))))))) (sRet (eC (.bl false))) sNext)
    (sSeq (sIf (tNotF (tst (eCall S_is_from (aCons (eBin opIx (eVar 2) (eC (.int 1))) (aCons (eBin opAdd (eBin opIx (eVar 2) (eC (.int 0))) (eC (.int 1))) (aCons (eC (.int 168)) aNil)))))) (sRet (eC (.bl false))) sNext)
    (sSet 1 (eBin opIx (eVar 2) (eC (.int 1)))))))
    (sRet (eC (.bl true))))))
def S_are_windows : FSem := semFn N_are_windows false g_are_windows
theorem u_are_windows {a0 : D} {μ : Mu} {q : D → Mu → Prop} : S_are_windows [a0] μ q = g_are_windows { nx := fun _ μ1 => false = false ∧ q .non μ1, rt := q } [some (.dat a0), none, none] μ := rfl

def N_is_layer : List Str := ["value", "name"]
def g_is_layer : FS :=
  (sSeq (sIf (tOrF (tNotF (tst (eCall S_is_tuple_of (aCons (eVar 0) (aCons (eC (.int 4)) aNil))))) (tOrF (tNotF (tst (e1 (cIsi "tuple") (eBin opIx (eVar 0) (eC (.int 0)))))) (tNotF (tst (eChain opLe opLe (eC (.int 1)) (e1 cLen (eBin opIx (eVar 0) (eC (.int 0)))) (eC (.int 4))))))) (sRet (eC (.bl false))) sNext)
    (sSeq (sIf (tOrF (tNotF (tst (e1 cAll (eLc (iSeqD (eBin opIx (eVar 0) (eC (.int 0)))) (gtName 1) tYesF (eCall S_is_name (aCons (eVar 1) aNil)) [1])))) (tNotF (tst (eCall S_is_from (aCons (eBin opIx (eVar 0) (eC (.int 1))) (aCons (eC (.int 0)) (aCons (eC (.int 5000)) aNil))))))) (sRet (eC (.bl false))) sNext)
    (sRet (eAnd (eCall S_is_from (aCons (eBin opIx (eVar 0) (eC (.int 2))) (aCons (eC (.int 0)) (aCons (eC (.int 168)) aNil)))) (eAnd (eBin (opInG false) (eBin opIx (eVar 0) (eC (.int 2))) (eC (.tup [.int 8, .int 12, .int 24, .int 84, .int 168]))) (eCall S_are_windows (aCons (eBin opIx (eVar 0) (eC (.int 3))) aNil)))))))
def S_is_layer : FSem := semFn N_is_layer false g_is_layer
theorem u_is_layer {a0 : D} {μ : Mu} {q : D → Mu → Prop} : S_is_layer [a0] μ q = g_is_layer { nx := fun _ μ1 => false = false ∧ q .non μ1, rt := q } [some (.dat a0), none] μ := rfl

def N_is_stretch : List Str := ["value"]
def g_is_stretch : FS :=
  (sSeq (sIf (tOrF (tNotF (tst (eCall S_is_tuple_of (aCons (eVar 0) (aCons (eC (.int 3)) aNil))))) (tOrF (tNotF (tst (eCall S_is_name (aCons (eBin opIx (eVar 0) (eC (.int 0))) aNil)))) (tNotF (tst (eCall S_is_from (aCons (eBin opIx (eVar 0) (eC (.int 1))) (aCons (eC (.int 0)) (aCons (eBin opSub (eC (.int 5000)) (eC (.int 1))) aNil)))))))) (sRet (eC (.bl false))) sNext)
    (sRet (eCall S_is_from (aCons (eBin opIx (eVar 0) (eC (.int 2))) (aCons (eBin opAdd (eBin opIx (eVar 0) (eC (.int 1))) (eC (.int 1))) (aCons (eC (.int 5000)) aNil))))))
def S_is_stretch : FSem := semFn N_is_stretch false g_is_stretch
theorem u_is_stretch {a0 : D} {μ : Mu} {q : D → Mu → Prop} : S_is_stretch [a0] μ q = g_is_stretch { nx := fun _ μ1 => false = false ∧ q .non μ1, rt := q } [some (.dat a0)] μ := rfl

def N_is_schedule : List Str := ["value", "layers", "overrides", "absences", "layer", "row", "part"]
def g_is_schedule : FS :=
  (sSeq (sIf (tOrF (tNotF (tst (eCall S_is_tuple_of (aCons (eVar 0) (aCons (eC (.int 3)) aNil))))) (tNotF (tst (e1 cAll (eLc (iSeqD (eVar 0)) (gtName 6) tYesF (e1 (cIsi "tuple") (eVar 6)) [6]))))) (sRet (eC (.bl false))) sNext)
    (sSeq (sUnp (eVar 0) (gtTup 3 (gtCons (gtName 1) (gtCons (gtName 2) (gtCons (gtName 3) gtNil)))))
    (sSeq (sIf (tOrF (tst (eBin opGt (e1 cLen (eVar 1)) (eC (.int 3)))) (tOrF (tst (eBin opGt (e1 cLen (eVar 2)) (eC (.int 6)))) (tst (eBin opGt (e1 cLen (eVar 3)) (eC (.int 6)))))) (sRet (eC (.bl false))) sNext)
    (sRet (eAnd (e1 cAll (eLc (iSeqD (eVar 1)) (gtName 4) tYesF (eCall S_is_layer (aCons (eVar 4) aNil)) [4])) (e1 cAll (eLc (iSeqD (eBin opAdd (eVar 2) (eVar 3))) (gtName 5) tYesF (eCall S_is_stretch (aCons (eVar 5) aNil)) [5])))))))
def S_is_schedule : FSem := semFn N_is_schedule false g_is_schedule
theorem u_is_schedule {a0 : D} {μ : Mu} {q : D → Mu → Prop} : S_is_schedule [a0] μ q = g_is_schedule { nx := fun _ μ1 => false = false ∧ q .non μ1, rt := q } [some (.dat a0), none, none, none, none, none, none] μ := rfl

def N__law_source : List Str := ["script", "index", "cell"]
def g__law_source : FS :=
  (sSeq (sSet 2 (eC (.int 0)))
    (sSeq (sIf (tst (eBin opLt (eVar 1) (e1 cLen (eVar 0)))) (sSet 2 (e1 cAbs (eBin opIx (eVar 0) (eVar 1)))) sNext)
    (sSeq (sIf (tst (eBin opLt (eVar 2) (eBin opPow (eC (.int 10)) (eC (.int 18))))) (sRet (eLst (aCons (eC (.int 0)) (aCons (eBin opAdd (eC (.int 1)) (eBin opMod (e1 cInt (eBin opAdd (eBin opMul (eVar 2) (eC (.int 7919))) (eBin opMul (eC (.int 104729)) (eVar 1)))) (eC (.int 2147483646)))) aNil)))) sNext)
    (sRet (eLst (aCons (eVar 2) (aCons (eBin opAdd (eC (.int 1)) (eBin opMod (e1 cInt (eBin opAdd (eVar 2) (eVar 1))) (eC (.int 2147483646)))) aNil)))))))
def S__law_source : FSem := semFn N__law_source true g__law_source
theorem u__law_source {a0 a1 : D} {μ : Mu} {q : D → Mu → Prop} : S__law_source [a0, a1] μ q = g__law_source { nx := fun _ μ1 => true = false ∧ q .non μ1, rt := q } [some (.dat a0), some (.dat a1), none] μ := rfl

def N__law_draw : List Str := ["source", "size", "drawn"]
def g__law_draw : FS :=
  (sSeq (sIf (tst (eBin opGt (eIxV 0 (eC (.int 0))) (eC (.int 0)))) (sSeq (sSet 2 (eBin opMod (e1 cInt (eIxV 0 (eC (.int 0)))) (eVar 1)))
    (sSeq (sPut 0 (eC (.int 0)) (eBin opDiv (eIxV 0 (eC (.int 0))) (eVar 1)))
    (sRet (eVar 2)))) sNext)
    (sSeq (sPut 0 (eC (.int 1)) (eBin opMod (e1 cInt (eBin opMul (eIxV 0 (eC (.int 1))) (eC (.int 48271)))) (eC (.int 2147483647))))
    (sSeq (sSet 2 (e1 cInt (eBin opDiv (eBin opMod (e1 cInt (eBin opMul (eIxV 0 (eC (.int 1))) (eIxV 0 (eC (.int 1))))) (eC (.int 2147483629))) (eC (.int 64)))))
    (sSeq (sIf (tst (eBin opGt (eVar 1) (eBin opPow (eC (.int 10)) (eC (.int 7))))) (sSeq (sPut 0 (eC (.int 1)) (eBin opMod (e1 cInt (eBin opMul (eIxV 0 (eC (.int 1))) (eC (.int 48271)))) (eC (.int 2147483647))))
    (sSet 2 (eBin opAdd (eBin opMul (eVar 2) (eC (.int 2147483647))) (eIxV 0 (eC (.int 1)))))) sNext)
    (sRet (eBin opMod (eVar 2) (eVar 1)))))))
def S__law_draw : FSem := semFn N__law_draw false g__law_draw
theorem u__law_draw {a0 a1 : D} {μ : Mu} {q : D → Mu → Prop} : S__law_draw [a0, a1] μ q = g__law_draw { nx := fun _ μ1 => false = false ∧ q .non μ1, rt := q } [some (.dat a0), some (.dat a1), none] μ := rfl

def N__law_choice : List Str := ["source", "items"]
def g__law_choice : FS :=
  (sRet (eBin opIx (eVar 1) (eCall S__law_draw (aCons (eVar 0) (aCons (e1 cLen (eVar 1)) aNil)))))
def S__law_choice : FSem := semFn N__law_choice false g__law_choice
theorem u__law_choice {a0 a1 : D} {μ : Mu} {q : D → Mu → Prop} : S__law_choice [a0, a1] μ q = g__law_choice { nx := fun _ μ1 => false = false ∧ q .non μ1, rt := q } [some (.dat a0), some (.dat a1)] μ := rfl

def N__law_windows : List Str := ["source", "turn", "found", "begin", "low", "high"]
def g__law_windows : FS :=
  (sSeq (sUnp (eTup (aCons (eTup aNil) (aCons (eC (.int 0)) aNil))) (gtTup 2 (gtCons (gtName 2) (gtCons (gtName 3) gtNil))))
    (sSeq (sFor (iR1 (eCall S__law_draw (aCons (eVar 0) (aCons (eC (.int 5)) aNil)))) (gtName 1) (sSeq (sSet 4 (eBin opAdd (eVar 3) (eCall S__law_draw (aCons (eVar 0) (aCons (eC (.int 60)) aNil)))))
    (sSeq (sSet 5 (eBin opAdd (eBin opAdd (eVar 4) (eC (.int 1))) (eCall S__law_draw (aCons (eVar 0) (aCons (eC (.int 60)) aNil)))))
    (sIf (tst (eBin opLe (eVar 5) (eC (.int 168)))) (sPar 2 3 (aCons (eBin opAdd (eVar 2) (eTup (aCons (eTup (aCons (eVar 4) (aCons (eVar 5) aNil))) aNil))) (aCons (eVar 5) aNil))) sNext))))
    (sRet (eVar 2))))
def S__law_windows : FSem := semFn N__law_windows false g__law_windows
theorem u__law_windows {a0 : D} {μ : Mu} {q : D → Mu → Prop} : S__law_windows [a0] μ q = g__law_windows { nx := fun _ μ1 => false = false ∧ q .non μ1, rt := q } [some (.dat a0), none, none, none, none, none] μ := rfl

def N__law_layer : List Str := ["source", "wide", "people", "begin", "windows", "turn"]
def g__law_layer : FS :=
  (sSeq (sSet 2 (e1 cTuple (eLc (iR1 (eBin opAdd (eC (.int 1)) (eCall S__law_draw (aCons (eVar 0) (aCons (eC (.int 4)) aNil))))) (gtName 5) tYesF (eCall S__law_choice (aCons (eVar 0) (aCons (eLst (aCons (eC (.str "ann")) (aCons (eC (.str "bo")) (aCons (eC (.str "cy")) (aCons (eC (.str "dee")) aNil))))) aNil))) [5])))
    (sSeq (sSet 3 (eCall S__law_choice (aCons (eVar 0) (aCons (eLst (aCons (eC (.int 0)) (aCons (eCall S__law_draw (aCons (eVar 0) (aCons (eBin opAdd (eVar 1) (eC (.int 1))) aNil))) aNil))) aNil))))
    (sSeq (sSet 4 (eCall S__law_choice (aCons (eVar 0) (aCons (eLst (aCons (eTup aNil) (aCons (eCall S__law_windows (aCons (eVar 0) aNil)) aNil))) aNil))))
    (sRet (eTup (aCons (eVar 2) (aCons (eVar 3) (aCons (eCall S__law_choice (aCons (eVar 0) (aCons (eLst (aCons (eC (.int 8)) (aCons (eC (.int 12)) (aCons (eC (.int 24)) (aCons (eC (.int 24)) (aCons (eC (.int 84)) (aCons (eC (.int 168)) aNil))))))) aNil))) (aCons (eVar 4) aNil)))))))))
def S__law_layer : FSem := semFn N__law_layer false g__law_layer
theorem u__law_layer {a0 a1 : D} {μ : Mu} {q : D → Mu → Prop} : S__law_layer [a0, a1] μ q = g__law_layer { nx := fun _ μ1 => false = false ∧ q .non μ1, rt := q } [some (.dat a0), some (.dat a1), none, none, none, none] μ := rfl

def N__law_stretch : List Str := ["source", "wide", "low", "high"]
def g__law_stretch : FS :=
  (sSeq (sSet 2 (eCall S__law_draw (aCons (eVar 0) (aCons (eVar 1) aNil))))
    (sSeq (sSet 3 (eBin (cI2 zMin) (eC (.int 5000)) (eBin opAdd (eBin opAdd (eVar 2) (eC (.int 1))) (eCall S__law_draw (aCons (eVar 0) (aCons (eCall S__law_choice (aCons (eVar 0) (aCons (eLst (aCons (eC (.int 4)) (aCons (eC (.int 30)) (aCons (eVar 1) aNil)))) aNil))) aNil))))))
    (sRet (eTup (aCons (eCall S__law_choice (aCons (eVar 0) (aCons (eLst (aCons (eC (.str "ann")) (aCons (eC (.str "bo")) (aCons (eC (.str "cy")) (aCons (eC (.str "dee")) (aCons (eC (.str "eve")) aNil)))))) aNil))) (aCons (eVar 2) (aCons (eVar 3) aNil)))))))
def S__law_stretch : FSem := semFn N__law_stretch false g__law_stretch
theorem u__law_stretch {a0 a1 : D} {μ : Mu} {q : D → Mu → Prop} : S__law_stretch [a0, a1] μ q = g__law_stretch { nx := fun _ μ1 => false = false ∧ q .non μ1, rt := q } [some (.dat a0), some (.dat a1), none, none] μ := rfl

def N__law_schedule : List Str := ["source", "wide", "layers", "overrides", "absences", "turn"]
def g__law_schedule : FS :=
  (sSeq (sSet 2 (e1 cTuple (eLc (iR1 (eCall S__law_choice (aCons (eVar 0) (aCons (eLst (aCons (eC (.int 0)) (aCons (eC (.int 1)) (aCons (eC (.int 1)) (aCons (eC (.int 2)) (aCons (eC (.int 2)) (aCons (eC (.int 3)) aNil))))))) aNil)))) (gtName 5) tYesF (eCall S__law_layer (aCons (eVar 0) (aCons (eVar 1) aNil))) [5])))
    (sSeq (sSet 3 (e1 cTuple (eLc (iR1 (eCall S__law_draw (aCons (eVar 0) (aCons (eC (.int 4)) aNil)))) (gtName 5) tYesF (eCall S__law_stretch (aCons (eVar 0) (aCons (eVar 1) aNil))) [5])))
    (sSeq (sSet 4 (e1 cTuple (eLc (iR1 (eCall S__law_draw (aCons (eVar 0) (aCons (eC (.int 4)) aNil)))) (gtName 5) tYesF (eCall S__law_stretch (aCons (eVar 0) (aCons (eVar 1) aNil))) [5])))
    (sRet (eTup (aCons (eVar 2) (aCons (eVar 3) (aCons (eVar 4) aNil))))))))
def S__law_schedule : FSem := semFn N__law_schedule false g__law_schedule
theorem u__law_schedule {a0 a1 : D} {μ : Mu} {q : D → Mu → Prop} : S__law_schedule [a0, a1] μ q = g__law_schedule { nx := fun _ μ1 => false = false ∧ q .non μ1, rt := q } [some (.dat a0), some (.dat a1), none, none, none, none] μ := rfl

def N__law_from : List Str := ["value", "low", "high"]
def g__law_from : FS :=
  (sRet (eAnd (e1 (cIsi "int") (eVar 0)) (eAnd (eNot (e1 (cIsi "bool") (eVar 0))) (eChain opLe opLe (eVar 1) (eVar 0) (eVar 2)))))
def S__law_from : FSem := semFn N__law_from false g__law_from
theorem u__law_from {a0 a1 a2 : D} {μ : Mu} {q : D → Mu → Prop} : S__law_from [a0, a1, a2] μ q = g__law_from { nx := fun _ μ1 => false = false ∧ q .non μ1, rt := q } [some (.dat a0), some (.dat a1), some (.dat a2)] μ := rfl

def N__law_named : List Str := ["value", "sign"]
def g__law_named : FS :=
  (sSeq (sIf (tOrF (tNotF (tst (e1 (cIsi "str") (eVar 0)))) (tNotF (tst (eChain opLe opLe (eC (.int 1)) (e1 cLen (eVar 0)) (eC (.int 8)))))) (sRet (eC (.bl false))) sNext)
    (sRet (eBin opEq (eLc (iSeqD (eVar 0)) (gtName 1) (tst (eBin (opInG true) (eVar 1) (eC (.str "abcdefghijklmnopqrstuvwxyz")))) (eVar 1) [1]) (eLst aNil))))
def S__law_named : FSem := semFn N__law_named false g__law_named
theorem u__law_named {a0 : D} {μ : Mu} {q : D → Mu → Prop} : S__law_named [a0] μ q = g__law_named { nx := fun _ μ1 => false = false ∧ q .non μ1, rt := q } [some (.dat a0), none] μ := rfl

def N__law_good_layer : List Str := ["value", "end", "pair", "name"]
def g__law_good_layer : FS :=
  (sSeq (sIf (tOrF (tNotF (tst (e1 (cIsi "tuple") (eVar 0)))) (tOrF (tst (eBin opNe (e1 cLen (eVar 0)) (eC (.int 4)))) (tNotF (tst (e1 (cIsi "tuple") (eBin opIx (eVar 0) (eC (.int 0)))))))) (sRet (eC (.bl false))) sNext)
    (sSeq (sIf (tOrF (tNotF (tst (eChain opLe opLe (eC (.int 1)) (e1 cLen (eBin opIx (eVar 0) (eC (.int 0)))) (eC (.int 4))))) (tst (eBin opNe (eLc (iSeqD (eBin opIx (eVar 0) (eC (.int 0)))) (gtName 3) (tNotF (tst (eCall S__law_named (aCons (eVar 3) aNil)))) (eVar 3) [3]) (eLst aNil)))) (sRet (eC (.bl false))) sNext)
    (sSeq (sIf (tOrF (tNotF (tst (eCall S__law_from (aCons (eBin opIx (eVar 0) (eC (.int 1))) (aCons (eC (.int 0)) (aCons (eC (.int 5000)) aNil)))))) (tOrF (tNotF (tst (eCall S__law_from (aCons (eBin opIx (eVar 0) (eC (.int 2))) (aCons (eC (.int 8)) (aCons (eC (.int 168)) aNil)))))) (tst (eBin (opInG true) (eBin opIx (eVar 0) (eC (.int 2))) (eLst (aCons (eC (.int 8)) (aCons (eC (.int 12)) (aCons (eC (.int 24)) (aCons (eC (.int 84)) (aCons (eC (.int 168)) aNil)))))))))) (sRet (eC (.bl false))) sNext)
    (sSeq (sIf (tOrF (tNotF (tst (e1 (cIsi "tuple") (eBin opIx (eVar 0) (eC (.int 3)))))) (tst (eBin opGt (e1 cLen (eBin opIx (eVar 0) (eC (.int 3)))) (eC (.int 4))))) (sRet (eC (.bl false))) sNext)
    (sSeq (sSet 1 (eC (.int 0)))
    (sSeq (sFor (iSeqD (eBin opIx (eVar 0) (eC (.int 3)))) (gtName 2) (sSeq (sIf (tOrF (tNotF (tst (e1 (cIsi "tuple") (eVar 2)))) (tOrF (tst (eBin opNe (e1 cLen (eVar 2)) (eC (.int 2)))) (tNotF (tst (eCall S__law_from (aCons (eBin opIx (eVar 2) (eC (.int 0))) (aCons (eVar 1) (aCons (eC (.int 167)) aNil)))))))) (sRet (eC (.bl false))) sNext)
    (sSeq (sIf (tNotF (tst (eCall S__law_from (aCons (eBin opIx (eVar 2) (eC (.int 1))) (aCons (eBin opAdd (eBin opIx (eVar 2) (eC (.int 0))) (eC (.int 1))) (aCons (eC (.int 168)) aNil)))))) (sRet (eC (.bl false))) sNext)
    (sSet 1 (eBin opIx (eVar 2) (eC (.int 1)))))))
    (sRet (eC (.bl true)))))))))
def S__law_good_layer : FSem := semFn N__law_good_layer false g__law_good_layer
theorem u__law_good_layer {a0 : D} {μ : Mu} {q : D → Mu → Prop} : S__law_good_layer [a0] μ q = g__law_good_layer { nx := fun _ μ1 => false = false ∧ q .non μ1, rt := q } [some (.dat a0), none, none, none] μ := rfl

def N__law_good_stretch : List Str := ["value"]
def g__law_good_stretch : FS :=
  (sSeq (sIf (tOrF (tNotF (tst (e1 (cIsi "tuple") (eVar 0)))) (tOrF (tst (eBin opNe (e1 cLen (eVar 0)) (eC (.int 3)))) (tNotF (tst (eCall S__law_named (aCons (eBin opIx (eVar 0) (eC (.int 0))) aNil)))))) (sRet (eC (.bl false))) sNext)
    (sRet (eAnd (eCall S__law_from (aCons (eBin opIx (eVar 0) (eC (.int 1))) (aCons (eC (.int 0)) (aCons (eC (.int 4999)) aNil)))) (eCall S__law_from (aCons (eBin opIx (eVar 0) (eC (.int 2))) (aCons (eBin opAdd (eBin opIx (eVar 0) (eC (.int 1))) (eC (.int 1))) (aCons (eC (.int 5000)) aNil)))))))
def S__law_good_stretch : FSem := semFn N__law_good_stretch false g__law_good_stretch
theorem u__law_good_stretch {a0 : D} {μ : Mu} {q : D → Mu → Prop} : S__law_good_stretch [a0] μ q = g__law_good_stretch { nx := fun _ μ1 => false = false ∧ q .non μ1, rt := q } [some (.dat a0)] μ := rfl

def N__law_good : List Str := ["value", "layer", "row", "part"]
def g__law_good : FS :=
  (sSeq (sIf (tOrF (tNotF (tst (e1 (cIsi "tuple") (eVar 0)))) (tOrF (tst (eBin opNe (e1 cLen (eVar 0)) (eC (.int 3)))) (tst (eBin opNe (eLc (iSeqD (eVar 0)) (gtName 3) (tNotF (tst (e1 (cIsi "tuple") (eVar 3)))) (eC (.int 1)) [3]) (eLst aNil))))) (sRet (eC (.bl false))) sNext)
    (sSeq (sIf (tOrF (tst (eBin opGt (e1 cLen (eBin opIx (eVar 0) (eC (.int 0)))) (eC (.int 3)))) (tOrF (tst (eBin opGt (e1 cLen (eBin opIx (eVar 0) (eC (.int 1)))) (eC (.int 6)))) (tst (eBin opGt (e1 cLen (eBin opIx (eVar 0) (eC (.int 2)))) (eC (.int 6)))))) (sRet (eC (.bl false))) sNext)
    (sSeq (sIf (tst (eBin opNe (eLc (iSeqD (eBin opIx (eVar 0) (eC (.int 0)))) (gtName 1) (tNotF (tst (eCall S__law_good_layer (aCons (eVar 1) aNil)))) (eVar 1) [1]) (eLst aNil))) (sRet (eC (.bl false))) sNext)
    (sRet (eBin opEq (eLc (iSeqD (eBin opAdd (eBin opIx (eVar 0) (eC (.int 1))) (eBin opIx (eVar 0) (eC (.int 2))))) (gtName 2) (tNotF (tst (eCall S__law_good_stretch (aCons (eVar 2) aNil)))) (eVar 2) [2]) (eLst aNil))))))
def S__law_good : FSem := semFn N__law_good false g__law_good
theorem u__law_good {a0 : D} {μ : Mu} {q : D → Mu → Prop} : S__law_good [a0] μ q = g__law_good { nx := fun _ μ1 => false = false ∧ q .non μ1, rt := q } [some (.dat a0), none, none, none] μ := rfl

def N__law_changed : List Str := ["source", "value", "way", "numbers", "at"]
def g__law_changed (F_rec : FSem) : FS :=
  (sSeq (sSet 2 (eCall S__law_draw (aCons (eVar 0) (aCons (eC (.int 7)) aNil))))
    (sSeq (sIf (tAndF (tst (e1 (cIsi "tuple") (eVar 1))) (tAndF (tst (eBin opNe (eVar 1) (eTup aNil))) (tst (eBin opGt (eVar 2) (eC (.int 0)))))) (sSeq (sSet 4 (eCall S__law_draw (aCons (eVar 0) (aCons (e1 cLen (eVar 1)) aNil))))
    (sSeq (sIf (tst (eBin opEq (eVar 2) (eC (.int 1)))) (sRet (eBin opAdd (eCut (eVar 1) pNo (pYes (eVar 4))) (eCut (eVar 1) (pYes (eBin opAdd (eVar 4) (eC (.int 1)))) pNo))) sNext)
    (sSeq (sIf (tst (eBin opEq (eVar 2) (eC (.int 2)))) (sRet (eBin opAdd (eCut (eVar 1) pNo (pYes (eBin opAdd (eVar 4) (eC (.int 1))))) (eCut (eVar 1) (pYes (eVar 4)) pNo))) sNext)
    (sSeq (sIf (tst (eBin opEq (eVar 2) (eC (.int 3)))) (sRet (e1 cList (eVar 1))) sNext)
    (sRet (eBin opAdd (eBin opAdd (eCut (eVar 1) pNo (pYes (eVar 4))) (eTup (aCons (eCall F_rec (aCons (eVar 0) (aCons (eBin opIx (eVar 1) (eVar 4)) aNil))) aNil))) (eCut (eVar 1) (pYes (eBin opAdd (eVar 4) (eC (.int 1)))) pNo))))))) sNext)
    (sSeq (sSet 3 (eLst (aCons (eC (.int 0)) (aCons (eC (.int 1)) (aCons (eC (.int 8)) (aCons (e1 cNeg (eC (.int 1))) (aCons (eC (.int 167)) (aCons (eC (.int 168)) (aCons (eC (.int 169)) (aCons (eC (.int 4999)) (aCons (eC (.int 5000)) (aCons (eC (.int 5001)) aNil))))))))))))
    (sRet (eCall S__law_choice (aCons (eVar 0) (aCons (eBin opAdd (eVar 3) (eLst (aCons (eC .non) (aCons (eC (.bl true)) (aCons (eC (.str "Ann")) (aCons (eC (.str "")) (aCons (eC (.str "a")) (aCons (eTup aNil) (aCons (eTup (aCons (eC (.int 0)) aNil)) (aCons (eTup (aCons (eC (.int 0)) (aCons (eC (.int 0)) aNil))) aNil)))))))))) aNil)))))))
def S__law_changed : Nat → FSem
  | 0 => fun _ _ _ => False
  | n + 1 => semFn N__law_changed false (g__law_changed (S__law_changed n))
theorem u__law_changed {n : Nat} {a0 a1 : D} {μ : Mu} {q : D → Mu → Prop} : S__law_changed (n + 1) [a0, a1] μ q = g__law_changed (S__law_changed n) { nx := fun _ μ1 => false = false ∧ q .non μ1, rt := q } [some (.dat a0), some (.dat a1), none, none, none] μ := rfl

def N_law : List Str := ["script", "written", "k", "layer", "row", "source", "value", "turn", "found"]
def g_law : FS :=
  (sSeq (sUnp (eTup (aCons (eTup (aCons (eTup (aCons (eC (.str "ann")) aNil)) (aCons (eC (.int 0)) (aCons (eC (.int 24)) (aCons (eTup aNil) aNil))))) (aCons (eTup (aCons (eC (.str "ann")) (aCons (eC (.int 4999)) (aCons (eC (.int 5000)) aNil)))) aNil))) (gtTup 2 (gtCons (gtName 3) (gtCons (gtName 4) gtNil))))
    (sSeq (sSet 1 (eLst (aCons (eTup (aCons (eTup aNil) (aCons (eTup aNil) (aCons (eTup aNil) aNil)))) (aCons (eTup (aCons (eBin opMul (eTup (aCons (eVar 3) aNil)) (eC (.int 3))) (aCons (eBin opMul (eTup (aCons (eVar 4) aNil)) (eC (.int 6))) (aCons (eBin opMul (eTup (aCons (eVar 4) aNil)) (eC (.int 6))) aNil)))) (aCons (eTup (aCons (eBin opMul (eTup (aCons (eVar 3) aNil)) (eC (.int 4))) (aCons (eTup aNil) (aCons (eTup aNil) aNil)))) (aCons (eTup (aCons (eTup aNil) (aCons (eBin opMul (eTup (aCons (eVar 4) aNil)) (eC (.int 7))) (aCons (eTup aNil) aNil)))) aNil))))))
    (sSeq (sSet 1 (eBin opAdd (eVar 1) (eLst (aCons (eTup (aCons (eTup aNil) (aCons (eTup aNil) (aCons (eBin opMul (eTup (aCons (eVar 4) aNil)) (eC (.int 7))) aNil)))) (aCons (eTup (aCons (eTup (aCons (eTup (aCons (eBin opMul (eTup (aCons (eC (.str "ann")) aNil)) (eC (.int 4))) (aCons (eC (.int 5000)) (aCons (eC (.int 8)) (aCons (eTup (aCons (eTup (aCons (eC (.int 0)) (aCons (eC (.int 1)) aNil))) (aCons (eTup (aCons (eC (.int 1)) (aCons (eC (.int 168)) aNil))) aNil))) aNil))))) aNil)) (aCons (eTup aNil) (aCons (eTup aNil) aNil)))) aNil)))))
    (sSeq (sSet 1 (eBin opAdd (eVar 1) (eLst (aCons (eTup (aCons (eTup (aCons (eTup (aCons (eBin opMul (eTup (aCons (eC (.str "ann")) aNil)) (eC (.int 5))) (aCons (eC (.int 0)) (aCons (eC (.int 8)) (aCons (eTup aNil) aNil))))) aNil)) (aCons (eTup aNil) (aCons (eTup aNil) aNil)))) (aCons (eTup (aCons (eTup (aCons (eTup (aCons (eTup aNil) (aCons (eC (.int 0)) (aCons (eC (.int 8)) (aCons (eTup aNil) aNil))))) aNil)) (aCons (eTup aNil) (aCons (eTup aNil) aNil)))) aNil)))))
    (sSeq (sSet 1 (eBin opAdd (eVar 1) (eLst (aCons (eTup (aCons (eTup (aCons (eTup (aCons (eTup (aCons (eC (.str "ann")) aNil)) (aCons (eC (.int 0)) (aCons (eC (.int 9)) (aCons (eTup aNil) aNil))))) aNil)) (aCons (eTup aNil) (aCons (eTup aNil) aNil)))) aNil))))
    (sSeq (sSet 1 (eBin opAdd (eVar 1) (eLst (aCons (eTup (aCons (eTup (aCons (eTup (aCons (eTup (aCons (eC (.str "ann")) aNil)) (aCons (eC (.int 0)) (aCons (eC (.int 8)) (aCons (eTup (aCons (eTup (aCons (eC (.int 0)) (aCons (eC (.int 5)) aNil))) (aCons (eTup (aCons (eC (.int 4)) (aCons (eC (.int 9)) aNil))) aNil))) aNil))))) aNil)) (aCons (eTup aNil) (aCons (eTup aNil) aNil)))) (aCons (eTup (aCons (eTup (aCons (eTup (aCons (eTup (aCons (eC (.str "ann")) aNil)) (aCons (eC (.int 0)) (aCons (eC (.int 8)) (aCons (eTup (aCons (eTup (aCons (eC (.int 5)) (aCons (eC (.int 5)) aNil))) aNil)) aNil))))) aNil)) (aCons (eTup aNil) (aCons (eTup aNil) aNil)))) aNil)))))
    (sSeq (sSet 1 (eBin opAdd (eVar 1) (eLst (aCons (eTup (aCons (eTup aNil) (aCons (eTup (aCons (eTup (aCons (eC (.str "ann")) (aCons (eC (.int 5)) (aCons (eC (.int 5)) aNil)))) aNil)) (aCons (eTup aNil) aNil)))) (aCons (eTup (aCons (eTup aNil) (aCons (eTup (aCons (eTup (aCons (eC (.str "ann")) (aCons (eC (.int 0)) (aCons (eC (.int 5001)) aNil)))) aNil)) (aCons (eTup aNil) aNil)))) (aCons (eC .non) (aCons (eTup aNil) aNil)))))))
    (sSeq (sSet 1 (eBin opAdd (eVar 1) (eLst (aCons (eTup (aCons (eTup aNil) (aCons (eTup (aCons (eTup (aCons (eC (.str "abcdefghi")) (aCons (eC (.int 0)) (aCons (eC (.int 5)) aNil)))) aNil)) (aCons (eTup aNil) aNil)))) aNil))))
    (sSeq (sFor (iR1 (eBin opAdd (eC (.int 1)) (eBin (cI2 zMin) (e1 cLen (eVar 0)) (eC (.int 8))))) (gtName 2) (sSeq (sSetC 5 (eCall S__law_source (aCons (eVar 0) (aCons (eVar 2) aNil))))
    (sSeq (sSet 6 (eCall S__law_schedule (aCons (eVar 5) (aCons (eCall S__law_choice (aCons (eVar 5) (aCons (eLst (aCons (eC (.int 40)) (aCons (eC (.int 900)) (aCons (eC (.int 4000)) aNil)))) aNil))) aNil))))
    (sFor (iR1 (eC (.int 4))) (gtName 7) (sSeq (sSet 8 (eCall S_is_schedule (aCons (eVar 6) aNil)))
    (sSeq (sIf (tOrF (tNotF (tst (e1 (cIsi "bool") (eVar 8)))) (tst (eBin opNe (eVar 8) (eCall S__law_good (aCons (eVar 6) aNil))))) (sRet (eC (.bl false))) sNext)
    (sSet 6 (eCall (S__law_changed 10) (aCons (eVar 5) (aCons (eVar 6) aNil))))))))))
    (sRet (eBin opEq (eLc (iSeqD (eVar 1)) (gtName 6) (tst (eBin opNe (eCall S_is_schedule (aCons (eVar 6) aNil)) (eCall S__law_good (aCons (eVar 6) aNil)))) (eVar 6) [6]) (eLst aNil))))))))))))
def S_law : FSem := semFn N_law false g_law
theorem u_law {a0 : D} {μ : Mu} {q : D → Mu → Prop} : S_law [a0] μ q = g_law { nx := fun _ μ1 => false = false ∧ q .non μ1, rt := q } [some (.dat a0), none, none, none, none, none, none, none, none] μ := rfl

namespace DLW
open PySem PySem.Spec PyProof.Rows L2 DL

def top (i : Nat) : Stmt := PySem.Challenge.pw_dutylayers_k01_schedules_recognized.main.body.getD i (.Pass ⟨0, 0, 0, 0⟩)

/-- what the module has -/
structure Txt (K : PySem.W.Frag) (mg : Str → Option Value) : Prop where
  f_abs : mg "abs" = none
  f_all : mg "all" = none
  f_bool : mg "bool" = none
  f_int : mg "int" = none
  f_isinstance : mg "isinstance" = none
  f_len : mg "len" = none
  f_list : mg "list" = none
  f_min : mg "min" = none
  f_range : mg "range" = none
  f_str : mg "str" = none
  f_tuple : mg "tuple" = none
  f_MOST_END : ∃ u, mg "MOST_END" = some (.int 5000 u)
  f_MOST_LAYERS : ∃ u, mg "MOST_LAYERS" = some (.int 3 u)
  f_MOST_PEOPLE : ∃ u, mg "MOST_PEOPLE" = some (.int 4 u)
  f_MOST_ROWS : ∃ u, mg "MOST_ROWS" = some (.int 6 u)
  f_MOST_WINDOWS : ∃ u, mg "MOST_WINDOWS" = some (.int 4 u)
  f_WEEK : ∃ u, mg "WEEK" = some (.int 168 u)
  f_LETTERS : ∃ u, mg "LETTERS" = some (.str "abcdefghijklmnopqrstuvwxyz" u)
  f_TURNS : ∃ c, mg "TURNS" = some (.ref c) ∧ KTup K c [.int 8, .int 12, .int 24, .int 84, .int 168]

section
variable {P : Program} {w : World} {K : PySem.W.Frag} {mg : Str → Option Value} {base : Heap}

abbrev b_is_from : Stmt := top 9
theorem sc_is_from : FnScope N_is_from ["value", "low", "high"] (defScope b_is_from) := ⟨rfl, rfl, rfl, by decide +kernel, rfl, by decide +kernel, by decide +kernel⟩

theorem w_is_from (T : Txt K mg) {f : Addr} {fd : FuncData} (D0 : FunD K "is_from" "is_from" (defArgs b_is_from) (defBody b_is_from) (defScope b_is_from) [] [] f fd) (hm : mg "is_from" = some (.ref f)) : Fn P w K mg base 1 "is_from" 3 false S_is_from :=
  fn_dl (k := 0) D0 sc_is_from hm rfl (D0.bindsN fun _ _ _ _ _ _ us hl => match us, hl with | [_, _, _], _ => rfl) fun cdv A outer s H E hr => ⟨_,
    (dss_one (ds_ret (de_and (de_isi (Kf := K) (Tn := "int") T.f_isinstance T.f_int (by decide +kernel) (de_var 0)) (de_and (de_not (de_isi (Kf := K) (Tn := "bool") T.f_isinstance T.f_bool (by decide +kernel) (de_var 0))) (de_one (de_chain rc_le rc_le ((de_var 1)).o ((de_var 0)).o ((de_var 2)).o))))))⟩

abbrev b_is_name : Stmt := top 10
theorem sc_is_name : FnScope N_is_name ["value"] (defScope b_is_name) := ⟨rfl, rfl, rfl, by decide +kernel, rfl, by decide +kernel, by decide +kernel⟩

theorem w_is_name (T : Txt K mg) {f : Addr} {fd : FuncData} (D0 : FunD K "is_name" "is_name" (defArgs b_is_name) (defBody b_is_name) (defScope b_is_name) [] [] f fd) (hm : mg "is_name" = some (.ref f)) : Fn P w K mg base 1 "is_name" 1 false S_is_name :=
  fn_dl (k := 0) D0 sc_is_name hm rfl (D0.bindsN fun _ _ _ _ _ _ us hl => match us, hl with | [_], _ => rfl) fun cdv A outer s H E hr => ⟨_,
    (dss_one (ds_ret (de_and (de_isi (Kf := K) (Tn := "str") T.f_isinstance T.f_str (by decide +kernel) (de_var 0)) (de_and (de_chain rc_le rc_le (de_int).o ((de_len (Kf := K) T.f_len ((de_var 0)).o)).o (de_int).o) (de_one (de_all (Kf := K) T.f_all (((dlc (own := [("sign", 1)]) rfl sc_is_name.nd (di_seq (Kf := K) (de_var 0)) (blkOk_by (N := N_is_name) (sc := defScope b_is_name) (by decide +kernel)) (fun _ _ _ _ _ => (dg_name (i := 1) sc_is_name.nd)) (fun _ _ _ _ _ => dts_nil) (fun _ _ _ _ _ => (de_c (rc_in (Kf := K)) ((de_var 1)).o ((de_gstr T.f_LETTERS)).o)))).de).o))))))⟩

abbrev b_is_tuple_of : Stmt := top 11
theorem sc_is_tuple_of : FnScope N_is_tuple_of ["value", "size"] (defScope b_is_tuple_of) := ⟨rfl, rfl, rfl, by decide +kernel, rfl, by decide +kernel, by decide +kernel⟩

theorem w_is_tuple_of (T : Txt K mg) {f : Addr} {fd : FuncData} (D0 : FunD K "is_tuple_of" "is_tuple_of" (defArgs b_is_tuple_of) (defBody b_is_tuple_of) (defScope b_is_tuple_of) [] [] f fd) (hm : mg "is_tuple_of" = some (.ref f)) : Fn P w K mg base 1 "is_tuple_of" 2 false S_is_tuple_of :=
  fn_dl (k := 0) D0 sc_is_tuple_of hm rfl (D0.bindsN fun _ _ _ _ _ _ us hl => match us, hl with | [_, _], _ => rfl) fun cdv A outer s H E hr => ⟨_,
    (dss_one (ds_ret (de_and (de_isi (Kf := K) (Tn := "tuple") T.f_isinstance T.f_tuple (by decide +kernel) (de_var 0)) (de_one (de_c (rc_eq (Kf := K) hr.units) ((de_len (Kf := K) T.f_len ((de_var 0)).o)).o ((de_var 1)).o)))))⟩

abbrev b_are_windows : Stmt := top 12
theorem sc_are_windows : FnScope N_are_windows ["value"] (defScope b_are_windows) := ⟨rfl, rfl, rfl, by decide +kernel, rfl, by decide +kernel, by decide +kernel⟩

theorem w_are_windows (T : Txt K mg) (G_is_from : Fn P w K mg base 1 "is_from" 3 false S_is_from) (G_is_tuple_of : Fn P w K mg base 1 "is_tuple_of" 2 false S_is_tuple_of) {f : Addr} {fd : FuncData} (D0 : FunD K "are_windows" "are_windows" (defArgs b_are_windows) (defBody b_are_windows) (defScope b_are_windows) [] [] f fd) (hm : mg "are_windows" = some (.ref f)) : Fn P w K mg base 2 "are_windows" 1 false S_are_windows :=
  fn_dl (k := 1) D0 sc_are_windows hm rfl (D0.bindsN fun _ _ _ _ _ _ us hl => match us, hl with | [_], _ => rfl) fun cdv A outer s H E hr => ⟨_,
    (dss_cons (ds_if ((dw_or (dt_not (dt_val (de_isi (Kf := K) (Tn := "tuple") T.f_isinstance T.f_tuple (by decide +kernel) (de_var 0)))) (dw_or1 (dt_c rc_gt ((de_len (Kf := K) T.f_len ((de_var 0)).o)).o ((de_gint T.f_MOST_WINDOWS)).o)))).t (dss_one (ds_ret de_bl)) dss_nil)
      (dss_cons (ds_set (i := 1) sc_are_windows.nd de_int)
      (dss_cons (ds_for PassesOwn.never rfl (di_seq (Kf := K) (de_var 0)) (dg_name (i := 2) sc_are_windows.nd) (dss_cons (ds_if ((dw_or (dt_not (dt_val (de_call (Pf := P) (wf := w) (Kf := K) G_is_tuple_of (hr.mono (by decide)) (da_cons ((de_var 2)) (da_cons (de_int) da_nil))))) (dw_or1 (dt_not (dt_val (de_call (Pf := P) (wf := w) (Kf := K) G_is_from (hr.mono (by decide)) (da_cons ((de_ix (Kf := K) ((de_var 2)).o de_int)) (da_cons ((de_var 1)) (da_cons ((de_sub ((de_gint T.f_WEEK)).o (de_int).o)) da_nil))))))))).t (dss_one (ds_ret de_bl)) dss_nil)
      (dss_cons (ds_if (dt_not (dt_val (de_call (Pf := P) (wf := w) (Kf := K) G_is_from (hr.mono (by decide)) (da_cons ((de_ix (Kf := K) ((de_var 2)).o de_int)) (da_cons ((de_add (Kf := K) ((de_ix (Kf := K) ((de_var 2)).o de_int)).o (de_int).o)) (da_cons ((de_gint T.f_WEEK)) da_nil)))))) (dss_one (ds_ret de_bl)) dss_nil)
      (dss_one (ds_set (i := 1) sc_are_windows.nd (de_ix (Kf := K) ((de_var 2)).o de_int))))))
      (dss_one (ds_ret de_bl)))))⟩

abbrev b_is_layer : Stmt := top 13
theorem sc_is_layer : FnScope N_is_layer ["value"] (defScope b_is_layer) := ⟨rfl, rfl, rfl, by decide +kernel, rfl, by decide +kernel, by decide +kernel⟩

theorem w_is_layer (T : Txt K mg) (G_is_tuple_of : Fn P w K mg base 1 "is_tuple_of" 2 false S_is_tuple_of) (G_is_from : Fn P w K mg base 1 "is_from" 3 false S_is_from) (G_is_name : Fn P w K mg base 1 "is_name" 1 false S_is_name) (G_are_windows : Fn P w K mg base 2 "are_windows" 1 false S_are_windows) {f : Addr} {fd : FuncData} (D0 : FunD K "is_layer" "is_layer" (defArgs b_is_layer) (defBody b_is_layer) (defScope b_is_layer) [] [] f fd) (hm : mg "is_layer" = some (.ref f)) : Fn P w K mg base 3 "is_layer" 1 false S_is_layer :=
  fn_dl (k := 2) D0 sc_is_layer hm rfl (D0.bindsN fun _ _ _ _ _ _ us hl => match us, hl with | [_], _ => rfl) fun cdv A outer s H E hr => ⟨_,
    (dss_cons (ds_if ((dw_or (dt_not (dt_val (de_call (Pf := P) (wf := w) (Kf := K) G_is_tuple_of (hr.mono (by decide)) (da_cons ((de_var 0)) (da_cons (de_int) da_nil))))) (dw_or (dt_not (dt_val (de_isi (Kf := K) (Tn := "tuple") T.f_isinstance T.f_tuple (by decide +kernel) (de_ix (Kf := K) ((de_var 0)).o de_int)))) (dw_or1 (dt_not (dt_chain rc_le rc_le (de_int).o ((de_len (Kf := K) T.f_len ((de_ix (Kf := K) ((de_var 0)).o de_int)).o)).o ((de_gint T.f_MOST_PEOPLE)).o)))))).t (dss_one (ds_ret de_bl)) dss_nil)
      (dss_cons (ds_if ((dw_or (dt_not (dt_val (de_all (Kf := K) T.f_all (((dlc (own := [("name", 1)]) rfl sc_is_layer.nd (di_seq (Kf := K) (de_ix (Kf := K) ((de_var 0)).o de_int)) (blkOk_by (N := N_is_layer) (sc := defScope b_is_layer) (by decide +kernel)) (fun _ _ _ _ _ => (dg_name (i := 1) sc_is_layer.nd)) (fun _ _ _ _ _ => dts_nil) (fun _ _ _ _ _ => (de_call (Pf := P) (wf := w) (Kf := K) G_is_name (hr.mono (by decide)) (da_cons ((de_var 1)) da_nil))))).de).o))) (dw_or1 (dt_not (dt_val (de_call (Pf := P) (wf := w) (Kf := K) G_is_from (hr.mono (by decide)) (da_cons ((de_ix (Kf := K) ((de_var 0)).o de_int)) (da_cons (de_int) (da_cons ((de_gint T.f_MOST_END)) da_nil))))))))).t (dss_one (ds_ret de_bl)) dss_nil)
      (dss_one (ds_ret (de_and (de_call (Pf := P) (wf := w) (Kf := K) G_is_from (hr.mono (by decide)) (da_cons ((de_ix (Kf := K) ((de_var 0)).o de_int)) (da_cons (de_int) (da_cons ((de_gint T.f_WEEK)) da_nil)))) (de_and (de_c (rc_in (Kf := K)) ((de_ix (Kf := K) ((de_var 0)).o de_int)).o ((de_gtup [.int 8, .int 12, .int 24, .int 84, .int 168] (T.f_TURNS).choose_spec.1 (T.f_TURNS).choose_spec.2)).o) (de_one (de_call (Pf := P) (wf := w) (Kf := K) G_are_windows (hr.mono (by decide)) (da_cons ((de_ix (Kf := K) ((de_var 0)).o de_int)) da_nil)))))))))⟩

abbrev b_is_stretch : Stmt := top 14
theorem sc_is_stretch : FnScope N_is_stretch ["value"] (defScope b_is_stretch) := ⟨rfl, rfl, rfl, by decide +kernel, rfl, by decide +kernel, by decide +kernel⟩

theorem w_is_stretch (T : Txt K mg) (G_is_from : Fn P w K mg base 1 "is_from" 3 false S_is_from) (G_is_name : Fn P w K mg base 1 "is_name" 1 false S_is_name) (G_is_tuple_of : Fn P w K mg base 1 "is_tuple_of" 2 false S_is_tuple_of) {f : Addr} {fd : FuncData} (D0 : FunD K "is_stretch" "is_stretch" (defArgs b_is_stretch) (defBody b_is_stretch) (defScope b_is_stretch) [] [] f fd) (hm : mg "is_stretch" = some (.ref f)) : Fn P w K mg base 2 "is_stretch" 1 false S_is_stretch :=
  fn_dl (k := 1) D0 sc_is_stretch hm rfl (D0.bindsN fun _ _ _ _ _ _ us hl => match us, hl with | [_], _ => rfl) fun cdv A outer s H E hr => ⟨_,
    (dss_cons (ds_if ((dw_or (dt_not (dt_val (de_call (Pf := P) (wf := w) (Kf := K) G_is_tuple_of (hr.mono (by decide)) (da_cons ((de_var 0)) (da_cons (de_int) da_nil))))) (dw_or (dt_not (dt_val (de_call (Pf := P) (wf := w) (Kf := K) G_is_name (hr.mono (by decide)) (da_cons ((de_ix (Kf := K) ((de_var 0)).o de_int)) da_nil)))) (dw_or1 (dt_not (dt_val (de_call (Pf := P) (wf := w) (Kf := K) G_is_from (hr.mono (by decide)) (da_cons ((de_ix (Kf := K) ((de_var 0)).o de_int)) (da_cons (de_int) (da_cons ((de_sub ((de_gint T.f_MOST_END)).o (de_int).o)) da_nil)))))))))).t (dss_one (ds_ret de_bl)) dss_nil)
      (dss_one (ds_ret (de_call (Pf := P) (wf := w) (Kf := K) G_is_from (hr.mono (by decide)) (da_cons ((de_ix (Kf := K) ((de_var 0)).o de_int)) (da_cons ((de_add (Kf := K) ((de_ix (Kf := K) ((de_var 0)).o de_int)).o (de_int).o)) (da_cons ((de_gint T.f_MOST_END)) da_nil)))))))⟩

abbrev b_is_schedule : Stmt := top 15
theorem sc_is_schedule : FnScope N_is_schedule ["value"] (defScope b_is_schedule) := ⟨rfl, rfl, rfl, by decide +kernel, rfl, by decide +kernel, by decide +kernel⟩

theorem w_is_schedule (T : Txt K mg) (G_is_tuple_of : Fn P w K mg base 1 "is_tuple_of" 2 false S_is_tuple_of) (G_is_stretch : Fn P w K mg base 2 "is_stretch" 1 false S_is_stretch) (G_is_layer : Fn P w K mg base 3 "is_layer" 1 false S_is_layer) {f : Addr} {fd : FuncData} (D0 : FunD K "is_schedule" "is_schedule" (defArgs b_is_schedule) (defBody b_is_schedule) (defScope b_is_schedule) [] [] f fd) (hm : mg "is_schedule" = some (.ref f)) : Fn P w K mg base 4 "is_schedule" 1 false S_is_schedule :=
  fn_dl (k := 3) D0 sc_is_schedule hm rfl (D0.bindsN fun _ _ _ _ _ _ us hl => match us, hl with | [_], _ => rfl) fun cdv A outer s H E hr => ⟨_,
    (dss_cons (ds_if ((dw_or (dt_not (dt_val (de_call (Pf := P) (wf := w) (Kf := K) G_is_tuple_of (hr.mono (by decide)) (da_cons ((de_var 0)) (da_cons (de_int) da_nil))))) (dw_or1 (dt_not (dt_val (de_all (Kf := K) T.f_all (((dlc (own := [("part", 6)]) rfl sc_is_schedule.nd (di_seq (Kf := K) (de_var 0)) (blkOk_by (N := N_is_schedule) (sc := defScope b_is_schedule) (by decide +kernel)) (fun _ _ _ _ _ => (dg_name (i := 6) sc_is_schedule.nd)) (fun _ _ _ _ _ => dts_nil) (fun _ _ _ _ _ => (de_isi (Kf := K) (Tn := "tuple") T.f_isinstance T.f_tuple (by decide +kernel) (de_var 6))))).de).o)))))).t (dss_one (ds_ret de_bl)) dss_nil)
      (dss_cons (ds_unp (de_var 0) (dg_tup (Kf := K) rfl (dgs_cons (dg_name (i := 1) sc_is_schedule.nd) (dgs_cons (dg_name (i := 2) sc_is_schedule.nd) (dgs_cons (dg_name (i := 3) sc_is_schedule.nd) dgs_nil)))))
      (dss_cons (ds_if ((dw_or (dt_c rc_gt ((de_len (Kf := K) T.f_len ((de_var 1)).o)).o ((de_gint T.f_MOST_LAYERS)).o) (dw_or (dt_c rc_gt ((de_len (Kf := K) T.f_len ((de_var 2)).o)).o ((de_gint T.f_MOST_ROWS)).o) (dw_or1 (dt_c rc_gt ((de_len (Kf := K) T.f_len ((de_var 3)).o)).o ((de_gint T.f_MOST_ROWS)).o))))).t (dss_one (ds_ret de_bl)) dss_nil)
      (dss_one (ds_ret (de_and (de_all (Kf := K) T.f_all (((dlc (own := [("layer", 4)]) rfl sc_is_schedule.nd (di_seq (Kf := K) (de_var 1)) (blkOk_by (N := N_is_schedule) (sc := defScope b_is_schedule) (by decide +kernel)) (fun _ _ _ _ _ => (dg_name (i := 4) sc_is_schedule.nd)) (fun _ _ _ _ _ => dts_nil) (fun _ _ _ _ _ => (de_call (Pf := P) (wf := w) (Kf := K) G_is_layer (hr.mono (by decide)) (da_cons ((de_var 4)) da_nil))))).de).o) (de_one (de_all (Kf := K) T.f_all (((dlc (own := [("row", 5)]) rfl sc_is_schedule.nd (di_seq (Kf := K) (de_add (Kf := K) ((de_var 2)).o ((de_var 3)).o)) (blkOk_by (N := N_is_schedule) (sc := defScope b_is_schedule) (by decide +kernel)) (fun _ _ _ _ _ => (dg_name (i := 5) sc_is_schedule.nd)) (fun _ _ _ _ _ => dts_nil) (fun _ _ _ _ _ => (de_call (Pf := P) (wf := w) (Kf := K) G_is_stretch (hr.mono (by decide)) (da_cons ((de_var 5)) da_nil))))).de).o))))))))⟩

abbrev b__law_source : Stmt := top 17
theorem sc__law_source : FnScope N__law_source ["script", "index"] (defScope b__law_source) := ⟨rfl, rfl, rfl, by decide +kernel, rfl, by decide +kernel, by decide +kernel⟩

theorem w__law_source (T : Txt K mg) {f : Addr} {fd : FuncData} (D0 : FunD K "_law_source" "_law_source" (defArgs b__law_source) (defBody b__law_source) (defScope b__law_source) [] [] f fd) (hm : mg "_law_source" = some (.ref f)) : Fn P w K mg base 1 "_law_source" 2 true S__law_source :=
  fn_dl (k := 0) D0 sc__law_source hm rfl (D0.bindsN fun _ _ _ _ _ _ us hl => match us, hl with | [_, _], _ => rfl) fun cdv A outer s H E hr => ⟨_,
    (dss_cons (ds_set (i := 2) sc__law_source.nd de_int)
      (dss_cons (ds_if (dt_c rc_lt ((de_var 1)).o ((de_len (Kf := K) T.f_len ((de_var 0)).o)).o) (dss_one (ds_set (i := 2) sc__law_source.nd (de_abs T.f_abs ((de_ix (Kf := K) ((de_var 0)).o (de_var 1))).o))) dss_nil)
      (dss_cons (ds_if (dt_c rc_lt ((de_var 2)).o ((de_pow (de_int).o (de_int).o)).o) (dss_one (ds_retF (df_lst (da_cons (de_int) (da_cons ((de_add (Kf := K) (de_int).o ((de_mod ((de_intc T.f_int ((de_add (Kf := K) ((de_mul (Kf := K) ((de_var 2)).o (de_int).o)).o ((de_mul (Kf := K) (de_int).o ((de_var 1)).o)).o)).o)).o (de_int).o)).o)) da_nil))))) dss_nil)
      (dss_one (ds_retF (df_lst (da_cons ((de_var 2)) (da_cons ((de_add (Kf := K) (de_int).o ((de_mod ((de_intc T.f_int ((de_add (Kf := K) ((de_var 2)).o ((de_var 1)).o)).o)).o (de_int).o)).o)) da_nil))))))))⟩

abbrev b__law_draw : Stmt := top 18
theorem sc__law_draw : FnScope N__law_draw ["source", "size"] (defScope b__law_draw) := ⟨rfl, rfl, rfl, by decide +kernel, rfl, by decide +kernel, by decide +kernel⟩

theorem w__law_draw (T : Txt K mg) {f : Addr} {fd : FuncData} (D0 : FunD K "_law_draw" "_law_draw" (defArgs b__law_draw) (defBody b__law_draw) (defScope b__law_draw) [] [] f fd) (hm : mg "_law_draw" = some (.ref f)) : Fn P w K mg base 1 "_law_draw" 2 false S__law_draw :=
  fn_dl (k := 0) D0 sc__law_draw hm rfl (D0.bindsN fun _ _ _ _ _ _ us hl => match us, hl with | [_, _], _ => rfl) fun cdv A outer s H E hr => ⟨_,
    (dss_cons (ds_if (dt_c rc_gt ((de_ixv 0 (Kf := K) de_int)).o (de_int).o) (dss_cons (ds_set (i := 2) sc__law_draw.nd (de_mod ((de_intc T.f_int ((de_ixv 0 (Kf := K) de_int)).o)).o ((de_var 1)).o))
      (dss_cons (ds_put 0 de_int (de_div ((de_ixv 0 (Kf := K) de_int)).o ((de_var 1)).o))
      (dss_one (ds_ret (de_var 2))))) dss_nil)
      (dss_cons (ds_put 0 de_int (de_mod ((de_intc T.f_int ((de_mul (Kf := K) ((de_ixv 0 (Kf := K) de_int)).o (de_int).o)).o)).o (de_int).o))
      (dss_cons (ds_set (i := 2) sc__law_draw.nd (de_intc T.f_int ((de_div ((de_mod ((de_intc T.f_int ((de_mul (Kf := K) ((de_ixv 0 (Kf := K) de_int)).o ((de_ixv 0 (Kf := K) de_int)).o)).o)).o (de_int).o)).o (de_int).o)).o))
      (dss_cons (ds_if (dt_c rc_gt ((de_var 1)).o ((de_pow (de_int).o (de_int).o)).o) (dss_cons (ds_put 0 de_int (de_mod ((de_intc T.f_int ((de_mul (Kf := K) ((de_ixv 0 (Kf := K) de_int)).o (de_int).o)).o)).o (de_int).o))
      (dss_one (ds_set (i := 2) sc__law_draw.nd (de_add (Kf := K) ((de_mul (Kf := K) ((de_var 2)).o (de_int).o)).o ((de_ixv 0 (Kf := K) de_int)).o)))) dss_nil)
      (dss_one (ds_ret (de_mod ((de_var 2)).o ((de_var 1)).o)))))))⟩

abbrev b__law_choice : Stmt := top 19
theorem sc__law_choice : FnScope N__law_choice ["source", "items"] (defScope b__law_choice) := ⟨rfl, rfl, rfl, by decide +kernel, rfl, by decide +kernel, by decide +kernel⟩

theorem w__law_choice (T : Txt K mg) (G__law_draw : Fn P w K mg base 1 "_law_draw" 2 false S__law_draw) {f : Addr} {fd : FuncData} (D0 : FunD K "_law_choice" "_law_choice" (defArgs b__law_choice) (defBody b__law_choice) (defScope b__law_choice) [] [] f fd) (hm : mg "_law_choice" = some (.ref f)) : Fn P w K mg base 2 "_law_choice" 2 false S__law_choice :=
  fn_dl (k := 1) D0 sc__law_choice hm rfl (D0.bindsN fun _ _ _ _ _ _ us hl => match us, hl with | [_, _], _ => rfl) fun cdv A outer s H E hr => ⟨_,
    (dss_one (ds_ret (de_ix (Kf := K) ((de_var 1)).o (de_call (Pf := P) (wf := w) (Kf := K) G__law_draw (hr.mono (by decide)) (da_cons ((de_var 0)) (da_cons ((de_len (Kf := K) T.f_len ((de_var 1)).o)) da_nil))))))⟩

abbrev b__law_windows : Stmt := top 20
theorem sc__law_windows : FnScope N__law_windows ["source"] (defScope b__law_windows) := ⟨rfl, rfl, rfl, by decide +kernel, rfl, by decide +kernel, by decide +kernel⟩

theorem w__law_windows (T : Txt K mg) (G__law_draw : Fn P w K mg base 1 "_law_draw" 2 false S__law_draw) {f : Addr} {fd : FuncData} (D0 : FunD K "_law_windows" "_law_windows" (defArgs b__law_windows) (defBody b__law_windows) (defScope b__law_windows) [] [] f fd) (hm : mg "_law_windows" = some (.ref f)) : Fn P w K mg base 2 "_law_windows" 1 false S__law_windows :=
  fn_dl (k := 1) D0 sc__law_windows hm rfl (D0.bindsN fun _ _ _ _ _ _ us hl => match us, hl with | [_], _ => rfl) fun cdv A outer s H E hr => ⟨_,
    (dss_cons (ds_unp (de_tup (da_cons ((de_tup da_nil)) (da_cons (de_int) da_nil))) (dg_tup (Kf := K) rfl (dgs_cons (dg_name (i := 2) sc__law_windows.nd) (dgs_cons (dg_name (i := 3) sc__law_windows.nd) dgs_nil))))
      (dss_cons (ds_for PassesOwn.never rfl (di_r1 T.f_range (de_call (Pf := P) (wf := w) (Kf := K) G__law_draw (hr.mono (by decide)) (da_cons ((de_var 0)) (da_cons (de_int) da_nil)))) (dg_name (i := 1) sc__law_windows.nd) (dss_cons (ds_set (i := 4) sc__law_windows.nd (de_add (Kf := K) ((de_var 3)).o ((de_call (Pf := P) (wf := w) (Kf := K) G__law_draw (hr.mono (by decide)) (da_cons ((de_var 0)) (da_cons (de_int) da_nil)))).o))
      (dss_cons (ds_set (i := 5) sc__law_windows.nd (de_add (Kf := K) ((de_add (Kf := K) ((de_var 4)).o (de_int).o)).o ((de_call (Pf := P) (wf := w) (Kf := K) G__law_draw (hr.mono (by decide)) (da_cons ((de_var 0)) (da_cons (de_int) da_nil)))).o))
      (dss_one (ds_if (dt_c rc_le ((de_var 5)).o (de_int).o) (dss_one (ds_par (i := 2) (j := 3) rfl sc__law_windows.nd (da_cons ((de_add (Kf := K) ((de_var 2)).o ((de_tup (da_cons ((de_tup (da_cons ((de_var 4)) (da_cons ((de_var 5)) da_nil)))) da_nil))).o)) (da_cons ((de_var 5)) da_nil)))) dss_nil)))))
      (dss_one (ds_ret (de_var 2)))))⟩

abbrev b__law_layer : Stmt := top 21
theorem sc__law_layer : FnScope N__law_layer ["source", "wide"] (defScope b__law_layer) := ⟨rfl, rfl, rfl, by decide +kernel, rfl, by decide +kernel, by decide +kernel⟩

theorem w__law_layer (T : Txt K mg) (G__law_draw : Fn P w K mg base 1 "_law_draw" 2 false S__law_draw) (G__law_choice : Fn P w K mg base 2 "_law_choice" 2 false S__law_choice) (G__law_windows : Fn P w K mg base 2 "_law_windows" 1 false S__law_windows) {f : Addr} {fd : FuncData} (D0 : FunD K "_law_layer" "_law_layer" (defArgs b__law_layer) (defBody b__law_layer) (defScope b__law_layer) [] [] f fd) (hm : mg "_law_layer" = some (.ref f)) : Fn P w K mg base 3 "_law_layer" 2 false S__law_layer :=
  fn_dl (k := 2) D0 sc__law_layer hm rfl (D0.bindsN fun _ _ _ _ _ _ us hl => match us, hl with | [_, _], _ => rfl) fun cdv A outer s H E hr => ⟨_,
    (dss_cons (ds_set (i := 2) sc__law_layer.nd (de_tuplec (Kf := K) T.f_tuple (((dlc (own := [("turn", 5)]) rfl sc__law_layer.nd (di_r1 T.f_range (de_add (Kf := K) (de_int).o ((de_call (Pf := P) (wf := w) (Kf := K) G__law_draw (hr.mono (by decide)) (da_cons ((de_var 0)) (da_cons (de_int) da_nil)))).o)) (blkOk_by (N := N__law_layer) (sc := defScope b__law_layer) (by decide +kernel)) (fun _ _ _ _ _ => (dg_name (i := 5) sc__law_layer.nd)) (fun _ _ _ _ _ => dts_nil) (fun _ _ _ _ _ => (de_call (Pf := P) (wf := w) (Kf := K) G__law_choice (hr.mono (by decide)) (da_cons ((de_var 0)) (da_cons (((df_lst (da_cons (de_str) (da_cons (de_str) (da_cons (de_str) (da_cons (de_str) da_nil)))))).de) da_nil)))))).de).o))
      (dss_cons (ds_set (i := 3) sc__law_layer.nd (de_call (Pf := P) (wf := w) (Kf := K) G__law_choice (hr.mono (by decide)) (da_cons ((de_var 0)) (da_cons (((df_lst (da_cons (de_int) (da_cons ((de_call (Pf := P) (wf := w) (Kf := K) G__law_draw (hr.mono (by decide)) (da_cons ((de_var 0)) (da_cons ((de_add (Kf := K) ((de_var 1)).o (de_int).o)) da_nil)))) da_nil)))).de) da_nil))))
      (dss_cons (ds_set (i := 4) sc__law_layer.nd (de_call (Pf := P) (wf := w) (Kf := K) G__law_choice (hr.mono (by decide)) (da_cons ((de_var 0)) (da_cons (((df_lst (da_cons ((de_tup da_nil)) (da_cons ((de_call (Pf := P) (wf := w) (Kf := K) G__law_windows (hr.mono (by decide)) (da_cons ((de_var 0)) da_nil))) da_nil)))).de) da_nil))))
      (dss_one (ds_ret (de_tup (da_cons ((de_var 2)) (da_cons ((de_var 3)) (da_cons ((de_call (Pf := P) (wf := w) (Kf := K) G__law_choice (hr.mono (by decide)) (da_cons ((de_var 0)) (da_cons (((df_lst (da_cons (de_int) (da_cons (de_int) (da_cons (de_int) (da_cons (de_int) (da_cons (de_int) (da_cons (de_int) da_nil)))))))).de) da_nil)))) (da_cons ((de_var 4)) da_nil))))))))))⟩

abbrev b__law_stretch : Stmt := top 22
theorem sc__law_stretch : FnScope N__law_stretch ["source", "wide"] (defScope b__law_stretch) := ⟨rfl, rfl, rfl, by decide +kernel, rfl, by decide +kernel, by decide +kernel⟩

theorem w__law_stretch (T : Txt K mg) (G__law_draw : Fn P w K mg base 1 "_law_draw" 2 false S__law_draw) (G__law_choice : Fn P w K mg base 2 "_law_choice" 2 false S__law_choice) {f : Addr} {fd : FuncData} (D0 : FunD K "_law_stretch" "_law_stretch" (defArgs b__law_stretch) (defBody b__law_stretch) (defScope b__law_stretch) [] [] f fd) (hm : mg "_law_stretch" = some (.ref f)) : Fn P w K mg base 3 "_law_stretch" 2 false S__law_stretch :=
  fn_dl (k := 2) D0 sc__law_stretch hm rfl (D0.bindsN fun _ _ _ _ _ _ us hl => match us, hl with | [_, _], _ => rfl) fun cdv A outer s H E hr => ⟨_,
    (dss_cons (ds_set (i := 2) sc__law_stretch.nd (de_call (Pf := P) (wf := w) (Kf := K) G__law_draw (hr.mono (by decide)) (da_cons ((de_var 0)) (da_cons ((de_var 1)) da_nil))))
      (dss_cons (ds_set (i := 3) sc__law_stretch.nd (de_min2 rfl T.f_min de_int (de_add (Kf := K) ((de_add (Kf := K) ((de_var 2)).o (de_int).o)).o ((de_call (Pf := P) (wf := w) (Kf := K) G__law_draw (hr.mono (by decide)) (da_cons ((de_var 0)) (da_cons ((de_call (Pf := P) (wf := w) (Kf := K) G__law_choice (hr.mono (by decide)) (da_cons ((de_var 0)) (da_cons (((df_lst (da_cons (de_int) (da_cons (de_int) (da_cons ((de_var 1)) da_nil))))).de) da_nil)))) da_nil)))).o)))
      (dss_one (ds_ret (de_tup (da_cons ((de_call (Pf := P) (wf := w) (Kf := K) G__law_choice (hr.mono (by decide)) (da_cons ((de_var 0)) (da_cons (((df_lst (da_cons (de_str) (da_cons (de_str) (da_cons (de_str) (da_cons (de_str) (da_cons (de_str) da_nil))))))).de) da_nil)))) (da_cons ((de_var 2)) (da_cons ((de_var 3)) da_nil))))))))⟩

abbrev b__law_schedule : Stmt := top 23
theorem sc__law_schedule : FnScope N__law_schedule ["source", "wide"] (defScope b__law_schedule) := ⟨rfl, rfl, rfl, by decide +kernel, rfl, by decide +kernel, by decide +kernel⟩

theorem w__law_schedule (T : Txt K mg) (G__law_choice : Fn P w K mg base 2 "_law_choice" 2 false S__law_choice) (G__law_layer : Fn P w K mg base 3 "_law_layer" 2 false S__law_layer) (G__law_draw : Fn P w K mg base 1 "_law_draw" 2 false S__law_draw) (G__law_stretch : Fn P w K mg base 3 "_law_stretch" 2 false S__law_stretch) {f : Addr} {fd : FuncData} (D0 : FunD K "_law_schedule" "_law_schedule" (defArgs b__law_schedule) (defBody b__law_schedule) (defScope b__law_schedule) [] [] f fd) (hm : mg "_law_schedule" = some (.ref f)) : Fn P w K mg base 4 "_law_schedule" 2 false S__law_schedule :=
  fn_dl (k := 3) D0 sc__law_schedule hm rfl (D0.bindsN fun _ _ _ _ _ _ us hl => match us, hl with | [_, _], _ => rfl) fun cdv A outer s H E hr => ⟨_,
    (dss_cons (ds_set (i := 2) sc__law_schedule.nd (de_tuplec (Kf := K) T.f_tuple (((dlc (own := [("turn", 5)]) rfl sc__law_schedule.nd (di_r1 T.f_range (de_call (Pf := P) (wf := w) (Kf := K) G__law_choice (hr.mono (by decide)) (da_cons ((de_var 0)) (da_cons (((df_lst (da_cons (de_int) (da_cons (de_int) (da_cons (de_int) (da_cons (de_int) (da_cons (de_int) (da_cons (de_int) da_nil)))))))).de) da_nil)))) (blkOk_by (N := N__law_schedule) (sc := defScope b__law_schedule) (by decide +kernel)) (fun _ _ _ _ _ => (dg_name (i := 5) sc__law_schedule.nd)) (fun _ _ _ _ _ => dts_nil) (fun _ _ _ _ _ => (de_call (Pf := P) (wf := w) (Kf := K) G__law_layer (hr.mono (by decide)) (da_cons ((de_var 0)) (da_cons ((de_var 1)) da_nil)))))).de).o))
      (dss_cons (ds_set (i := 3) sc__law_schedule.nd (de_tuplec (Kf := K) T.f_tuple (((dlc (own := [("turn", 5)]) rfl sc__law_schedule.nd (di_r1 T.f_range (de_call (Pf := P) (wf := w) (Kf := K) G__law_draw (hr.mono (by decide)) (da_cons ((de_var 0)) (da_cons (de_int) da_nil)))) (blkOk_by (N := N__law_schedule) (sc := defScope b__law_schedule) (by decide +kernel)) (fun _ _ _ _ _ => (dg_name (i := 5) sc__law_schedule.nd)) (fun _ _ _ _ _ => dts_nil) (fun _ _ _ _ _ => (de_call (Pf := P) (wf := w) (Kf := K) G__law_stretch (hr.mono (by decide)) (da_cons ((de_var 0)) (da_cons ((de_var 1)) da_nil)))))).de).o))
      (dss_cons (ds_set (i := 4) sc__law_schedule.nd (de_tuplec (Kf := K) T.f_tuple (((dlc (own := [("turn", 5)]) rfl sc__law_schedule.nd (di_r1 T.f_range (de_call (Pf := P) (wf := w) (Kf := K) G__law_draw (hr.mono (by decide)) (da_cons ((de_var 0)) (da_cons (de_int) da_nil)))) (blkOk_by (N := N__law_schedule) (sc := defScope b__law_schedule) (by decide +kernel)) (fun _ _ _ _ _ => (dg_name (i := 5) sc__law_schedule.nd)) (fun _ _ _ _ _ => dts_nil) (fun _ _ _ _ _ => (de_call (Pf := P) (wf := w) (Kf := K) G__law_stretch (hr.mono (by decide)) (da_cons ((de_var 0)) (da_cons ((de_var 1)) da_nil)))))).de).o))
      (dss_one (ds_ret (de_tup (da_cons ((de_var 2)) (da_cons ((de_var 3)) (da_cons ((de_var 4)) da_nil)))))))))⟩

abbrev b__law_from : Stmt := top 24
theorem sc__law_from : FnScope N__law_from ["value", "low", "high"] (defScope b__law_from) := ⟨rfl, rfl, rfl, by decide +kernel, rfl, by decide +kernel, by decide +kernel⟩

theorem w__law_from (T : Txt K mg) {f : Addr} {fd : FuncData} (D0 : FunD K "_law_from" "_law_from" (defArgs b__law_from) (defBody b__law_from) (defScope b__law_from) [] [] f fd) (hm : mg "_law_from" = some (.ref f)) : Fn P w K mg base 1 "_law_from" 3 false S__law_from :=
  fn_dl (k := 0) D0 sc__law_from hm rfl (D0.bindsN fun _ _ _ _ _ _ us hl => match us, hl with | [_, _, _], _ => rfl) fun cdv A outer s H E hr => ⟨_,
    (dss_one (ds_ret (de_and (de_isi (Kf := K) (Tn := "int") T.f_isinstance T.f_int (by decide +kernel) (de_var 0)) (de_and (de_not (de_isi (Kf := K) (Tn := "bool") T.f_isinstance T.f_bool (by decide +kernel) (de_var 0))) (de_one (de_chain rc_le rc_le ((de_var 1)).o ((de_var 0)).o ((de_var 2)).o))))))⟩

abbrev b__law_named : Stmt := top 25
theorem sc__law_named : FnScope N__law_named ["value"] (defScope b__law_named) := ⟨rfl, rfl, rfl, by decide +kernel, rfl, by decide +kernel, by decide +kernel⟩

theorem w__law_named (T : Txt K mg) {f : Addr} {fd : FuncData} (D0 : FunD K "_law_named" "_law_named" (defArgs b__law_named) (defBody b__law_named) (defScope b__law_named) [] [] f fd) (hm : mg "_law_named" = some (.ref f)) : Fn P w K mg base 1 "_law_named" 1 false S__law_named :=
  fn_dl (k := 0) D0 sc__law_named hm rfl (D0.bindsN fun _ _ _ _ _ _ us hl => match us, hl with | [_], _ => rfl) fun cdv A outer s H E hr => ⟨_,
    (dss_cons (ds_if ((dw_or (dt_not (dt_val (de_isi (Kf := K) (Tn := "str") T.f_isinstance T.f_str (by decide +kernel) (de_var 0)))) (dw_or1 (dt_not (dt_chain rc_le rc_le (de_int).o ((de_len (Kf := K) T.f_len ((de_var 0)).o)).o (de_int).o))))).t (dss_one (ds_ret de_bl)) dss_nil)
      (dss_one (ds_ret (de_c (rc_eq (Kf := K) hr.units) (((dlc (own := [("sign", 1)]) rfl sc__law_named.nd (di_seq (Kf := K) (de_var 0)) (blkOk_by (N := N__law_named) (sc := defScope b__law_named) (by decide +kernel)) (fun _ _ _ _ _ => (dg_name (i := 1) sc__law_named.nd)) (fun _ _ _ _ _ => (dts_one (dt_c (rc_notin (Kf := K)) ((de_var 1)).o (de_str).o))) (fun _ _ _ _ _ => (de_var 1)))).de).o (((df_lst da_nil)).de).o))))⟩

abbrev b__law_good_layer : Stmt := top 26
theorem sc__law_good_layer : FnScope N__law_good_layer ["value"] (defScope b__law_good_layer) := ⟨rfl, rfl, rfl, by decide +kernel, rfl, by decide +kernel, by decide +kernel⟩

theorem w__law_good_layer (T : Txt K mg) (G__law_named : Fn P w K mg base 1 "_law_named" 1 false S__law_named) (G__law_from : Fn P w K mg base 1 "_law_from" 3 false S__law_from) {f : Addr} {fd : FuncData} (D0 : FunD K "_law_good_layer" "_law_good_layer" (defArgs b__law_good_layer) (defBody b__law_good_layer) (defScope b__law_good_layer) [] [] f fd) (hm : mg "_law_good_layer" = some (.ref f)) : Fn P w K mg base 2 "_law_good_layer" 1 false S__law_good_layer :=
  fn_dl (k := 1) D0 sc__law_good_layer hm rfl (D0.bindsN fun _ _ _ _ _ _ us hl => match us, hl with | [_], _ => rfl) fun cdv A outer s H E hr => ⟨_,
    (dss_cons (ds_if ((dw_or (dt_not (dt_val (de_isi (Kf := K) (Tn := "tuple") T.f_isinstance T.f_tuple (by decide +kernel) (de_var 0)))) (dw_or (dt_c (rc_ne (Kf := K) hr.units) ((de_len (Kf := K) T.f_len ((de_var 0)).o)).o (de_int).o) (dw_or1 (dt_not (dt_val (de_isi (Kf := K) (Tn := "tuple") T.f_isinstance T.f_tuple (by decide +kernel) (de_ix (Kf := K) ((de_var 0)).o de_int)))))))).t (dss_one (ds_ret de_bl)) dss_nil)
      (dss_cons (ds_if ((dw_or (dt_not (dt_chain rc_le rc_le (de_int).o ((de_len (Kf := K) T.f_len ((de_ix (Kf := K) ((de_var 0)).o de_int)).o)).o (de_int).o)) (dw_or1 (dt_c (rc_ne (Kf := K) hr.units) (((dlc (own := [("name", 3)]) rfl sc__law_good_layer.nd (di_seq (Kf := K) (de_ix (Kf := K) ((de_var 0)).o de_int)) (blkOk_by (N := N__law_good_layer) (sc := defScope b__law_good_layer) (by decide +kernel)) (fun _ _ _ _ _ => (dg_name (i := 3) sc__law_good_layer.nd)) (fun _ _ _ _ _ => (dts_one (dt_not (dt_val (de_call (Pf := P) (wf := w) (Kf := K) G__law_named (hr.mono (by decide)) (da_cons ((de_var 3)) da_nil)))))) (fun _ _ _ _ _ => (de_var 3)))).de).o (((df_lst da_nil)).de).o)))).t (dss_one (ds_ret de_bl)) dss_nil)
      (dss_cons (ds_if ((dw_or (dt_not (dt_val (de_call (Pf := P) (wf := w) (Kf := K) G__law_from (hr.mono (by decide)) (da_cons ((de_ix (Kf := K) ((de_var 0)).o de_int)) (da_cons (de_int) (da_cons (de_int) da_nil)))))) (dw_or (dt_not (dt_val (de_call (Pf := P) (wf := w) (Kf := K) G__law_from (hr.mono (by decide)) (da_cons ((de_ix (Kf := K) ((de_var 0)).o de_int)) (da_cons (de_int) (da_cons (de_int) da_nil)))))) (dw_or1 (dt_c (rc_notin (Kf := K)) ((de_ix (Kf := K) ((de_var 0)).o de_int)).o (((df_lst (da_cons (de_int) (da_cons (de_int) (da_cons (de_int) (da_cons (de_int) (da_cons (de_int) da_nil))))))).de).o))))).t (dss_one (ds_ret de_bl)) dss_nil)
      (dss_cons (ds_if ((dw_or (dt_not (dt_val (de_isi (Kf := K) (Tn := "tuple") T.f_isinstance T.f_tuple (by decide +kernel) (de_ix (Kf := K) ((de_var 0)).o de_int)))) (dw_or1 (dt_c rc_gt ((de_len (Kf := K) T.f_len ((de_ix (Kf := K) ((de_var 0)).o de_int)).o)).o (de_int).o)))).t (dss_one (ds_ret de_bl)) dss_nil)
      (dss_cons (ds_set (i := 1) sc__law_good_layer.nd de_int)
      (dss_cons (ds_for PassesOwn.never rfl (di_seq (Kf := K) (de_ix (Kf := K) ((de_var 0)).o de_int)) (dg_name (i := 2) sc__law_good_layer.nd) (dss_cons (ds_if ((dw_or (dt_not (dt_val (de_isi (Kf := K) (Tn := "tuple") T.f_isinstance T.f_tuple (by decide +kernel) (de_var 2)))) (dw_or (dt_c (rc_ne (Kf := K) hr.units) ((de_len (Kf := K) T.f_len ((de_var 2)).o)).o (de_int).o) (dw_or1 (dt_not (dt_val (de_call (Pf := P) (wf := w) (Kf := K) G__law_from (hr.mono (by decide)) (da_cons ((de_ix (Kf := K) ((de_var 2)).o de_int)) (da_cons ((de_var 1)) (da_cons (de_int) da_nil)))))))))).t (dss_one (ds_ret de_bl)) dss_nil)
      (dss_cons (ds_if (dt_not (dt_val (de_call (Pf := P) (wf := w) (Kf := K) G__law_from (hr.mono (by decide)) (da_cons ((de_ix (Kf := K) ((de_var 2)).o de_int)) (da_cons ((de_add (Kf := K) ((de_ix (Kf := K) ((de_var 2)).o de_int)).o (de_int).o)) (da_cons (de_int) da_nil)))))) (dss_one (ds_ret de_bl)) dss_nil)
      (dss_one (ds_set (i := 1) sc__law_good_layer.nd (de_ix (Kf := K) ((de_var 2)).o de_int))))))
      (dss_one (ds_ret de_bl))))))))⟩

abbrev b__law_good_stretch : Stmt := top 27
theorem sc__law_good_stretch : FnScope N__law_good_stretch ["value"] (defScope b__law_good_stretch) := ⟨rfl, rfl, rfl, by decide +kernel, rfl, by decide +kernel, by decide +kernel⟩

theorem w__law_good_stretch (T : Txt K mg) (G__law_named : Fn P w K mg base 1 "_law_named" 1 false S__law_named) (G__law_from : Fn P w K mg base 1 "_law_from" 3 false S__law_from) {f : Addr} {fd : FuncData} (D0 : FunD K "_law_good_stretch" "_law_good_stretch" (defArgs b__law_good_stretch) (defBody b__law_good_stretch) (defScope b__law_good_stretch) [] [] f fd) (hm : mg "_law_good_stretch" = some (.ref f)) : Fn P w K mg base 2 "_law_good_stretch" 1 false S__law_good_stretch :=
  fn_dl (k := 1) D0 sc__law_good_stretch hm rfl (D0.bindsN fun _ _ _ _ _ _ us hl => match us, hl with | [_], _ => rfl) fun cdv A outer s H E hr => ⟨_,
    (dss_cons (ds_if ((dw_or (dt_not (dt_val (de_isi (Kf := K) (Tn := "tuple") T.f_isinstance T.f_tuple (by decide +kernel) (de_var 0)))) (dw_or (dt_c (rc_ne (Kf := K) hr.units) ((de_len (Kf := K) T.f_len ((de_var 0)).o)).o (de_int).o) (dw_or1 (dt_not (dt_val (de_call (Pf := P) (wf := w) (Kf := K) G__law_named (hr.mono (by decide)) (da_cons ((de_ix (Kf := K) ((de_var 0)).o de_int)) da_nil)))))))).t (dss_one (ds_ret de_bl)) dss_nil)
      (dss_one (ds_ret (de_and (de_call (Pf := P) (wf := w) (Kf := K) G__law_from (hr.mono (by decide)) (da_cons ((de_ix (Kf := K) ((de_var 0)).o de_int)) (da_cons (de_int) (da_cons (de_int) da_nil)))) (de_one (de_call (Pf := P) (wf := w) (Kf := K) G__law_from (hr.mono (by decide)) (da_cons ((de_ix (Kf := K) ((de_var 0)).o de_int)) (da_cons ((de_add (Kf := K) ((de_ix (Kf := K) ((de_var 0)).o de_int)).o (de_int).o)) (da_cons (de_int) da_nil)))))))))⟩

abbrev b__law_good : Stmt := top 28
theorem sc__law_good : FnScope N__law_good ["value"] (defScope b__law_good) := ⟨rfl, rfl, rfl, by decide +kernel, rfl, by decide +kernel, by decide +kernel⟩

theorem w__law_good (T : Txt K mg) (G__law_good_layer : Fn P w K mg base 2 "_law_good_layer" 1 false S__law_good_layer) (G__law_good_stretch : Fn P w K mg base 2 "_law_good_stretch" 1 false S__law_good_stretch) {f : Addr} {fd : FuncData} (D0 : FunD K "_law_good" "_law_good" (defArgs b__law_good) (defBody b__law_good) (defScope b__law_good) [] [] f fd) (hm : mg "_law_good" = some (.ref f)) : Fn P w K mg base 3 "_law_good" 1 false S__law_good :=
  fn_dl (k := 2) D0 sc__law_good hm rfl (D0.bindsN fun _ _ _ _ _ _ us hl => match us, hl with | [_], _ => rfl) fun cdv A outer s H E hr => ⟨_,
    (dss_cons (ds_if ((dw_or (dt_not (dt_val (de_isi (Kf := K) (Tn := "tuple") T.f_isinstance T.f_tuple (by decide +kernel) (de_var 0)))) (dw_or (dt_c (rc_ne (Kf := K) hr.units) ((de_len (Kf := K) T.f_len ((de_var 0)).o)).o (de_int).o) (dw_or1 (dt_c (rc_ne (Kf := K) hr.units) (((dlc (own := [("part", 3)]) rfl sc__law_good.nd (di_seq (Kf := K) (de_var 0)) (blkOk_by (N := N__law_good) (sc := defScope b__law_good) (by decide +kernel)) (fun _ _ _ _ _ => (dg_name (i := 3) sc__law_good.nd)) (fun _ _ _ _ _ => (dts_one (dt_not (dt_val (de_isi (Kf := K) (Tn := "tuple") T.f_isinstance T.f_tuple (by decide +kernel) (de_var 3)))))) (fun _ _ _ _ _ => de_int))).de).o (((df_lst da_nil)).de).o))))).t (dss_one (ds_ret de_bl)) dss_nil)
      (dss_cons (ds_if ((dw_or (dt_c rc_gt ((de_len (Kf := K) T.f_len ((de_ix (Kf := K) ((de_var 0)).o de_int)).o)).o (de_int).o) (dw_or (dt_c rc_gt ((de_len (Kf := K) T.f_len ((de_ix (Kf := K) ((de_var 0)).o de_int)).o)).o (de_int).o) (dw_or1 (dt_c rc_gt ((de_len (Kf := K) T.f_len ((de_ix (Kf := K) ((de_var 0)).o de_int)).o)).o (de_int).o))))).t (dss_one (ds_ret de_bl)) dss_nil)
      (dss_cons (ds_if (dt_c (rc_ne (Kf := K) hr.units) (((dlc (own := [("layer", 1)]) rfl sc__law_good.nd (di_seq (Kf := K) (de_ix (Kf := K) ((de_var 0)).o de_int)) (blkOk_by (N := N__law_good) (sc := defScope b__law_good) (by decide +kernel)) (fun _ _ _ _ _ => (dg_name (i := 1) sc__law_good.nd)) (fun _ _ _ _ _ => (dts_one (dt_not (dt_val (de_call (Pf := P) (wf := w) (Kf := K) G__law_good_layer (hr.mono (by decide)) (da_cons ((de_var 1)) da_nil)))))) (fun _ _ _ _ _ => (de_var 1)))).de).o (((df_lst da_nil)).de).o) (dss_one (ds_ret de_bl)) dss_nil)
      (dss_one (ds_ret (de_c (rc_eq (Kf := K) hr.units) (((dlc (own := [("row", 2)]) rfl sc__law_good.nd (di_seq (Kf := K) (de_add (Kf := K) ((de_ix (Kf := K) ((de_var 0)).o de_int)).o ((de_ix (Kf := K) ((de_var 0)).o de_int)).o)) (blkOk_by (N := N__law_good) (sc := defScope b__law_good) (by decide +kernel)) (fun _ _ _ _ _ => (dg_name (i := 2) sc__law_good.nd)) (fun _ _ _ _ _ => (dts_one (dt_not (dt_val (de_call (Pf := P) (wf := w) (Kf := K) G__law_good_stretch (hr.mono (by decide)) (da_cons ((de_var 2)) da_nil)))))) (fun _ _ _ _ _ => (de_var 2)))).de).o (((df_lst da_nil)).de).o))))))⟩

abbrev b__law_changed : Stmt := top 29
theorem sc__law_changed : FnScope N__law_changed ["source", "value"] (defScope b__law_changed) := ⟨rfl, rfl, rfl, by decide +kernel, rfl, by decide +kernel, by decide +kernel⟩

theorem w__law_changed (T : Txt K mg) (G__law_draw : Fn P w K mg base 1 "_law_draw" 2 false S__law_draw) (G__law_choice : Fn P w K mg base 2 "_law_choice" 2 false S__law_choice) {f : Addr} {fd : FuncData} (D0 : FunD K "_law_changed" "_law_changed" (defArgs b__law_changed) (defBody b__law_changed) (defScope b__law_changed) [] [] f fd) (hm : mg "_law_changed" = some (.ref f)) : ∀ n : Nat, Fn P w K mg base (n + 3) "_law_changed" 2 false (S__law_changed n)
  | 0 => fn_never D0 sc__law_changed hm rfl (D0.bindsN fun _ _ _ _ _ _ us hl => match us, hl with | [_, _], _ => rfl)
  | n + 1 => by
    have G_rec := w__law_changed T G__law_draw G__law_choice D0 hm n
    exact fn_dl (k := n + 3) D0 sc__law_changed hm rfl (D0.bindsN fun _ _ _ _ _ _ us hl => match us, hl with | [_, _], _ => rfl) fun cdv A outer s H E hr => ⟨_, (dss_cons (ds_set (i := 2) sc__law_changed.nd (de_call (Pf := P) (wf := w) (Kf := K) G__law_draw (hr.mono (by omega)) (da_cons ((de_var 0)) (da_cons (de_int) da_nil))))
      (dss_cons (ds_if ((dw_and (dt_val (de_isi (Kf := K) (Tn := "tuple") T.f_isinstance T.f_tuple (by decide +kernel) (de_var 1))) (dw_and (dt_c (rc_ne (Kf := K) hr.units) ((de_var 1)).o ((de_tup da_nil)).o) (dw_and1 (dt_c rc_gt ((de_var 2)).o (de_int).o))))).t (dss_cons (ds_set (i := 4) sc__law_changed.nd (de_call (Pf := P) (wf := w) (Kf := K) G__law_draw (hr.mono (by omega)) (da_cons ((de_var 0)) (da_cons ((de_len (Kf := K) T.f_len ((de_var 1)).o)) da_nil))))
      (dss_cons (ds_if (dt_c (rc_eq (Kf := K) hr.units) ((de_var 2)).o (de_int).o) (dss_one (ds_ret (de_add (Kf := K) ((de_cut (Kf := K) ((de_var 1)).o dp_no (dp_yes (de_var 4)))).o ((de_cut (Kf := K) ((de_var 1)).o (dp_yes (de_add (Kf := K) ((de_var 4)).o (de_int).o)) dp_no)).o))) dss_nil)
      (dss_cons (ds_if (dt_c (rc_eq (Kf := K) hr.units) ((de_var 2)).o (de_int).o) (dss_one (ds_ret (de_add (Kf := K) ((de_cut (Kf := K) ((de_var 1)).o dp_no (dp_yes (de_add (Kf := K) ((de_var 4)).o (de_int).o)))).o ((de_cut (Kf := K) ((de_var 1)).o (dp_yes (de_var 4)) dp_no)).o))) dss_nil)
      (dss_cons (ds_if (dt_c (rc_eq (Kf := K) hr.units) ((de_var 2)).o (de_int).o) (dss_one (ds_ret ((df_listc (Kf := K) T.f_list ((de_var 1)).o)).de)) dss_nil)
      (dss_one (ds_ret (de_add (Kf := K) ((de_add (Kf := K) ((de_cut (Kf := K) ((de_var 1)).o dp_no (dp_yes (de_var 4)))).o ((de_tup (da_cons ((de_call (Pf := P) (wf := w) (Kf := K) G_rec (hr.mono (by omega)) (da_cons ((de_var 0)) (da_cons ((de_ix (Kf := K) ((de_var 1)).o (de_var 4))) da_nil)))) da_nil))).o)).o ((de_cut (Kf := K) ((de_var 1)).o (dp_yes (de_add (Kf := K) ((de_var 4)).o (de_int).o)) dp_no)).o))))))) dss_nil)
      (dss_cons (ds_set (i := 3) sc__law_changed.nd ((df_lst (da_cons (de_int) (da_cons (de_int) (da_cons (de_int) (da_cons ((de_neg de_int)) (da_cons (de_int) (da_cons (de_int) (da_cons (de_int) (da_cons (de_int) (da_cons (de_int) (da_cons (de_int) da_nil)))))))))))).de)
      (dss_one (ds_ret (de_call (Pf := P) (wf := w) (Kf := K) G__law_choice (hr.mono (by omega)) (da_cons ((de_var 0)) (da_cons ((de_add (Kf := K) ((de_var 3)).o (((df_lst (da_cons (de_non) (da_cons (de_bl) (da_cons (de_str) (da_cons (de_str) (da_cons (de_str) (da_cons ((de_tup da_nil)) (da_cons ((de_tup (da_cons (de_int) da_nil))) (da_cons ((de_tup (da_cons (de_int) (da_cons (de_int) da_nil)))) da_nil)))))))))).de).o)) da_nil))))))))⟩

abbrev b_law : Stmt := top 30
theorem sc_law : FnScope N_law ["script"] (defScope b_law) := ⟨rfl, rfl, rfl, by decide +kernel, rfl, by decide +kernel, by decide +kernel⟩

theorem w_law (T : Txt K mg) (G__law_source : Fn P w K mg base 1 "_law_source" 2 true S__law_source) (G__law_choice : Fn P w K mg base 2 "_law_choice" 2 false S__law_choice) (G__law_schedule : Fn P w K mg base 4 "_law_schedule" 2 false S__law_schedule) (G_is_schedule : Fn P w K mg base 4 "is_schedule" 1 false S_is_schedule) (G__law_good : Fn P w K mg base 3 "_law_good" 1 false S__law_good) (G__law_changed : Fn P w K mg base 13 "_law_changed" 2 false (S__law_changed 10)) {f : Addr} {fd : FuncData} (D0 : FunD K "law" "law" (defArgs b_law) (defBody b_law) (defScope b_law) [] [] f fd) : FnOk P w K mg base CX0 14 f fd ["script"] (spD P w K 1 false S_law) :=
  fn_ok (k := 13) D0 sc_law rfl fun cdv A outer s H E hr => ⟨_,
    (dss_cons (ds_unp (de_tup (da_cons ((de_tup (da_cons ((de_tup (da_cons (de_str) da_nil))) (da_cons (de_int) (da_cons (de_int) (da_cons ((de_tup da_nil)) da_nil)))))) (da_cons ((de_tup (da_cons (de_str) (da_cons (de_int) (da_cons (de_int) da_nil))))) da_nil))) (dg_tup (Kf := K) rfl (dgs_cons (dg_name (i := 3) sc_law.nd) (dgs_cons (dg_name (i := 4) sc_law.nd) dgs_nil))))
      (dss_cons (ds_set (i := 1) sc_law.nd ((df_lst (da_cons ((de_tup (da_cons ((de_tup da_nil)) (da_cons ((de_tup da_nil)) (da_cons ((de_tup da_nil)) da_nil))))) (da_cons ((de_tup (da_cons ((de_mul (Kf := K) ((de_tup (da_cons ((de_var 3)) da_nil))).o (de_int).o)) (da_cons ((de_mul (Kf := K) ((de_tup (da_cons ((de_var 4)) da_nil))).o (de_int).o)) (da_cons ((de_mul (Kf := K) ((de_tup (da_cons ((de_var 4)) da_nil))).o (de_int).o)) da_nil))))) (da_cons ((de_tup (da_cons ((de_mul (Kf := K) ((de_tup (da_cons ((de_var 3)) da_nil))).o (de_int).o)) (da_cons ((de_tup da_nil)) (da_cons ((de_tup da_nil)) da_nil))))) (da_cons ((de_tup (da_cons ((de_tup da_nil)) (da_cons ((de_mul (Kf := K) ((de_tup (da_cons ((de_var 4)) da_nil))).o (de_int).o)) (da_cons ((de_tup da_nil)) da_nil))))) da_nil)))))).de)
      (dss_cons (ds_set (i := 1) sc_law.nd (de_add (Kf := K) ((de_var 1)).o (((df_lst (da_cons ((de_tup (da_cons ((de_tup da_nil)) (da_cons ((de_tup da_nil)) (da_cons ((de_mul (Kf := K) ((de_tup (da_cons ((de_var 4)) da_nil))).o (de_int).o)) da_nil))))) (da_cons ((de_tup (da_cons ((de_tup (da_cons ((de_tup (da_cons ((de_mul (Kf := K) ((de_tup (da_cons (de_str) da_nil))).o (de_int).o)) (da_cons (de_int) (da_cons (de_int) (da_cons ((de_tup (da_cons ((de_tup (da_cons (de_int) (da_cons (de_int) da_nil)))) (da_cons ((de_tup (da_cons (de_int) (da_cons (de_int) da_nil)))) da_nil)))) da_nil)))))) da_nil))) (da_cons ((de_tup da_nil)) (da_cons ((de_tup da_nil)) da_nil))))) da_nil)))).de).o))
      (dss_cons (ds_set (i := 1) sc_law.nd (de_add (Kf := K) ((de_var 1)).o (((df_lst (da_cons ((de_tup (da_cons ((de_tup (da_cons ((de_tup (da_cons ((de_mul (Kf := K) ((de_tup (da_cons (de_str) da_nil))).o (de_int).o)) (da_cons (de_int) (da_cons (de_int) (da_cons ((de_tup da_nil)) da_nil)))))) da_nil))) (da_cons ((de_tup da_nil)) (da_cons ((de_tup da_nil)) da_nil))))) (da_cons ((de_tup (da_cons ((de_tup (da_cons ((de_tup (da_cons ((de_tup da_nil)) (da_cons (de_int) (da_cons (de_int) (da_cons ((de_tup da_nil)) da_nil)))))) da_nil))) (da_cons ((de_tup da_nil)) (da_cons ((de_tup da_nil)) da_nil))))) da_nil)))).de).o))
      (dss_cons (ds_set (i := 1) sc_law.nd (de_add (Kf := K) ((de_var 1)).o (((df_lst (da_cons ((de_tup (da_cons ((de_tup (da_cons ((de_tup (da_cons ((de_tup (da_cons (de_str) da_nil))) (da_cons (de_int) (da_cons (de_int) (da_cons ((de_tup da_nil)) da_nil)))))) da_nil))) (da_cons ((de_tup da_nil)) (da_cons ((de_tup da_nil)) da_nil))))) da_nil))).de).o))
      (dss_cons (ds_set (i := 1) sc_law.nd (de_add (Kf := K) ((de_var 1)).o (((df_lst (da_cons ((de_tup (da_cons ((de_tup (da_cons ((de_tup (da_cons ((de_tup (da_cons (de_str) da_nil))) (da_cons (de_int) (da_cons (de_int) (da_cons ((de_tup (da_cons ((de_tup (da_cons (de_int) (da_cons (de_int) da_nil)))) (da_cons ((de_tup (da_cons (de_int) (da_cons (de_int) da_nil)))) da_nil)))) da_nil)))))) da_nil))) (da_cons ((de_tup da_nil)) (da_cons ((de_tup da_nil)) da_nil))))) (da_cons ((de_tup (da_cons ((de_tup (da_cons ((de_tup (da_cons ((de_tup (da_cons (de_str) da_nil))) (da_cons (de_int) (da_cons (de_int) (da_cons ((de_tup (da_cons ((de_tup (da_cons (de_int) (da_cons (de_int) da_nil)))) da_nil))) da_nil)))))) da_nil))) (da_cons ((de_tup da_nil)) (da_cons ((de_tup da_nil)) da_nil))))) da_nil)))).de).o))
      (dss_cons (ds_set (i := 1) sc_law.nd (de_add (Kf := K) ((de_var 1)).o (((df_lst (da_cons ((de_tup (da_cons ((de_tup da_nil)) (da_cons ((de_tup (da_cons ((de_tup (da_cons (de_str) (da_cons (de_int) (da_cons (de_int) da_nil))))) da_nil))) (da_cons ((de_tup da_nil)) da_nil))))) (da_cons ((de_tup (da_cons ((de_tup da_nil)) (da_cons ((de_tup (da_cons ((de_tup (da_cons (de_str) (da_cons (de_int) (da_cons (de_int) da_nil))))) da_nil))) (da_cons ((de_tup da_nil)) da_nil))))) (da_cons (de_non) (da_cons ((de_tup da_nil)) da_nil)))))).de).o))
      (dss_cons (ds_set (i := 1) sc_law.nd (de_add (Kf := K) ((de_var 1)).o (((df_lst (da_cons ((de_tup (da_cons ((de_tup da_nil)) (da_cons ((de_tup (da_cons ((de_tup (da_cons (de_str) (da_cons (de_int) (da_cons (de_int) da_nil))))) da_nil))) (da_cons ((de_tup da_nil)) da_nil))))) da_nil))).de).o))
      (dss_cons (ds_for PassesOwn.never rfl (di_r1 T.f_range (de_add (Kf := K) (de_int).o ((de_min2 rfl T.f_min (de_len (Kf := K) T.f_len ((de_var 0)).o) de_int)).o)) (dg_name (i := 2) sc_law.nd) (dss_cons (ds_setC (i := 5) sc_law.nd (df_call (Pf := P) (wf := w) (Kf := K) G__law_source (hr.mono (by decide)) (da_cons ((de_var 0)) (da_cons ((de_var 2)) da_nil))))
      (dss_cons (ds_set (i := 6) sc_law.nd (de_call (Pf := P) (wf := w) (Kf := K) G__law_schedule (hr.mono (by decide)) (da_cons ((de_var 5)) (da_cons ((de_call (Pf := P) (wf := w) (Kf := K) G__law_choice (hr.mono (by decide)) (da_cons ((de_var 5)) (da_cons (((df_lst (da_cons (de_int) (da_cons (de_int) (da_cons (de_int) da_nil))))).de) da_nil)))) da_nil))))
      (dss_one (ds_for PassesOwn.never rfl (di_r1 T.f_range de_int) (dg_name (i := 7) sc_law.nd) (dss_cons (ds_set (i := 8) sc_law.nd (de_call (Pf := P) (wf := w) (Kf := K) G_is_schedule (hr.mono (by decide)) (da_cons ((de_var 6)) da_nil)))
      (dss_cons (ds_if ((dw_or (dt_not (dt_val (de_isi (Kf := K) (Tn := "bool") T.f_isinstance T.f_bool (by decide +kernel) (de_var 8)))) (dw_or1 (dt_c (rc_ne (Kf := K) hr.units) ((de_var 8)).o ((de_call (Pf := P) (wf := w) (Kf := K) G__law_good (hr.mono (by decide)) (da_cons ((de_var 6)) da_nil))).o)))).t (dss_one (ds_ret de_bl)) dss_nil)
      (dss_one (ds_set (i := 6) sc_law.nd (de_call (Pf := P) (wf := w) (Kf := K) G__law_changed (hr.mono (by decide)) (da_cons ((de_var 5)) (da_cons ((de_var 6)) da_nil))))))))))))
      (dss_one (ds_ret (de_c (rc_eq (Kf := K) hr.units) (((dlc (own := [("value", 6)]) rfl sc_law.nd (di_seq (Kf := K) (de_var 1)) (blkOk_by (N := N_law) (sc := defScope b_law) (by decide +kernel)) (fun _ _ _ _ _ => (dg_name (i := 6) sc_law.nd)) (fun _ _ _ _ _ => (dts_one (dt_c (rc_ne (Kf := K) hr.units) ((de_call (Pf := P) (wf := w) (Kf := K) G_is_schedule (hr.mono (by decide)) (da_cons ((de_var 6)) da_nil))).o ((de_call (Pf := P) (wf := w) (Kf := K) G__law_good (hr.mono (by decide)) (da_cons ((de_var 6)) da_nil))).o))) (fun _ _ _ _ _ => (de_var 6)))).de).o (((df_lst da_nil)).de).o))))))))))))⟩

end

def dfs : List He.DefD := [⟨("is_from", none), "is_from", "is_from", defArgs b_is_from, defBody b_is_from, defScope b_is_from, [], []⟩, ⟨("is_name", none), "is_name", "is_name", defArgs b_is_name, defBody b_is_name, defScope b_is_name, [], []⟩, ⟨("is_tuple_of", none), "is_tuple_of", "is_tuple_of", defArgs b_is_tuple_of, defBody b_is_tuple_of, defScope b_is_tuple_of, [], []⟩, ⟨("are_windows", none), "are_windows", "are_windows", defArgs b_are_windows, defBody b_are_windows, defScope b_are_windows, [], []⟩, ⟨("is_layer", none), "is_layer", "is_layer", defArgs b_is_layer, defBody b_is_layer, defScope b_is_layer, [], []⟩, ⟨("is_stretch", none), "is_stretch", "is_stretch", defArgs b_is_stretch, defBody b_is_stretch, defScope b_is_stretch, [], []⟩, ⟨("is_schedule", none), "is_schedule", "is_schedule", defArgs b_is_schedule, defBody b_is_schedule, defScope b_is_schedule, [], []⟩, ⟨("_law_source", none), "_law_source", "_law_source", defArgs b__law_source, defBody b__law_source, defScope b__law_source, [], []⟩, ⟨("_law_draw", none), "_law_draw", "_law_draw", defArgs b__law_draw, defBody b__law_draw, defScope b__law_draw, [], []⟩, ⟨("_law_choice", none), "_law_choice", "_law_choice", defArgs b__law_choice, defBody b__law_choice, defScope b__law_choice, [], []⟩, ⟨("_law_windows", none), "_law_windows", "_law_windows", defArgs b__law_windows, defBody b__law_windows, defScope b__law_windows, [], []⟩, ⟨("_law_layer", none), "_law_layer", "_law_layer", defArgs b__law_layer, defBody b__law_layer, defScope b__law_layer, [], []⟩, ⟨("_law_stretch", none), "_law_stretch", "_law_stretch", defArgs b__law_stretch, defBody b__law_stretch, defScope b__law_stretch, [], []⟩, ⟨("_law_schedule", none), "_law_schedule", "_law_schedule", defArgs b__law_schedule, defBody b__law_schedule, defScope b__law_schedule, [], []⟩, ⟨("_law_from", none), "_law_from", "_law_from", defArgs b__law_from, defBody b__law_from, defScope b__law_from, [], []⟩, ⟨("_law_named", none), "_law_named", "_law_named", defArgs b__law_named, defBody b__law_named, defScope b__law_named, [], []⟩, ⟨("_law_good_layer", none), "_law_good_layer", "_law_good_layer", defArgs b__law_good_layer, defBody b__law_good_layer, defScope b__law_good_layer, [], []⟩, ⟨("_law_good_stretch", none), "_law_good_stretch", "_law_good_stretch", defArgs b__law_good_stretch, defBody b__law_good_stretch, defScope b__law_good_stretch, [], []⟩, ⟨("_law_good", none), "_law_good", "_law_good", defArgs b__law_good, defBody b__law_good, defScope b__law_good, [], []⟩, ⟨("_law_changed", none), "_law_changed", "_law_changed", defArgs b__law_changed, defBody b__law_changed, defScope b__law_changed, [], []⟩, ⟨("law", none), "law", "law", defArgs b_law, defBody b_law, defScope b_law, [], []⟩]

def fas : List He.Fa := [.glo "is_from", .glo "is_name", .glo "is_tuple_of", .glo "are_windows", .glo "is_layer", .glo "is_stretch", .glo "is_schedule", .glo "_law_source", .glo "_law_draw", .glo "_law_choice", .glo "_law_windows", .glo "_law_layer", .glo "_law_stretch", .glo "_law_schedule", .glo "_law_from", .glo "_law_named", .glo "_law_good_layer", .glo "_law_good_stretch", .glo "_law_good", .glo "_law_changed", .glo "law", .free "abs", .free "all", .free "bool", .free "int", .free "isinstance", .free "len", .free "list", .free "min", .free "range", .free "str", .free "tuple", .int "MOST_END" 5000, .int "MOST_LAYERS" 3, .int "MOST_PEOPLE" 4, .int "MOST_ROWS" 6, .int "MOST_WINDOWS" 4, .int "WEEK" 168, .str "LETTERS" "abcdefghijklmnopqrstuvwxyz", .glo "TURNS"]

def exs (K : PySem.W.Frag) : Bool := true && He.tupB K "TURNS" [.int 8, .int 12, .int 24, .int 84, .int 168]

abbrev R : PySem.W.OpenRow := PySem.W.OpenLaw.row PySem.Challenge.rw_dutylayers_k01_schedules_recognized

abbrev hk : PySem.W.Hook := hookU 4 fas dfs exs
def ob (s : PySem.W.SharedT) : AlU := obsU 4 fas dfs exs (HandSHeadRun.getT s)
theorem ob_eq (s : PySem.W.SharedT) : ob s = hk.obs s.abs := obsU_eq (HandSHeadRun.getT_eq s)

def loose : List PySem.Str := (["LETTERS", "WEEK", "MOST_END", "MOST_LAYERS", "MOST_ROWS", "MOST_PEOPLE", "MOST_WINDOWS", "TURNS", "is_from", "is_name", "is_tuple_of", "are_windows", "is_layer", "is_stretch", "is_schedule", "_law_source", "_law_draw", "_law_choice", "_law_windows", "_law_layer", "_law_stretch", "_law_schedule", "_law_from", "_law_named", "_law_good_layer", "_law_good_stretch", "_law_good", "_law_changed"] : List PySem.Str)

theorem run (w : World) : HandSHeadRun.RunEq R (PySem.W.view R.prog [30]) hk ob 4000 loose w := by
  intro os
  kernel_rfl

theorem facts {P : Program} {w : World} {K : PySem.W.Frag} {h : Heap} {mg : Str → Option Value} {f : Addr} (X : K.In h) (G : h.Ns mainGlobals mg) (hfa : mg "law" = some (.ref f)) (c : SaysU fas dfs exs K) :
    ∃ fd : FuncData, (∀ (s : Shared) (u : Value), BindsTo s fd ⟨[u], []⟩ [("script", u)]) ∧ ∀ base : Heap, K.In base → base.Ns mainGlobals mg → FnOk P w K mg base CX0 14 f fd ["script"] (spD P w K 1 false S_law) := by
  obtain ⟨fd_is_from, D_is_from⟩ := c.d.def_ 0 rfl
  obtain ⟨fd_is_name, D_is_name⟩ := c.d.def_ 1 rfl
  obtain ⟨fd_is_tuple_of, D_is_tuple_of⟩ := c.d.def_ 2 rfl
  obtain ⟨fd_are_windows, D_are_windows⟩ := c.d.def_ 3 rfl
  obtain ⟨fd_is_layer, D_is_layer⟩ := c.d.def_ 4 rfl
  obtain ⟨fd_is_stretch, D_is_stretch⟩ := c.d.def_ 5 rfl
  obtain ⟨fd_is_schedule, D_is_schedule⟩ := c.d.def_ 6 rfl
  obtain ⟨fd__law_source, D__law_source⟩ := c.d.def_ 7 rfl
  obtain ⟨fd__law_draw, D__law_draw⟩ := c.d.def_ 8 rfl
  obtain ⟨fd__law_choice, D__law_choice⟩ := c.d.def_ 9 rfl
  obtain ⟨fd__law_windows, D__law_windows⟩ := c.d.def_ 10 rfl
  obtain ⟨fd__law_layer, D__law_layer⟩ := c.d.def_ 11 rfl
  obtain ⟨fd__law_stretch, D__law_stretch⟩ := c.d.def_ 12 rfl
  obtain ⟨fd__law_schedule, D__law_schedule⟩ := c.d.def_ 13 rfl
  obtain ⟨fd__law_from, D__law_from⟩ := c.d.def_ 14 rfl
  obtain ⟨fd__law_named, D__law_named⟩ := c.d.def_ 15 rfl
  obtain ⟨fd__law_good_layer, D__law_good_layer⟩ := c.d.def_ 16 rfl
  obtain ⟨fd__law_good_stretch, D__law_good_stretch⟩ := c.d.def_ 17 rfl
  obtain ⟨fd__law_good, D__law_good⟩ := c.d.def_ 18 rfl
  obtain ⟨fd__law_changed, D__law_changed⟩ := c.d.def_ 19 rfl
  obtain ⟨fd_law, D_law⟩ := c.d.def_ 20 rfl
  have m_is_from := He.glo_ok X G (c.d.fact 0 (f := .glo "is_from") rfl)
  have m_is_name := He.glo_ok X G (c.d.fact 1 (f := .glo "is_name") rfl)
  have m_is_tuple_of := He.glo_ok X G (c.d.fact 2 (f := .glo "is_tuple_of") rfl)
  have m_are_windows := He.glo_ok X G (c.d.fact 3 (f := .glo "are_windows") rfl)
  have m_is_layer := He.glo_ok X G (c.d.fact 4 (f := .glo "is_layer") rfl)
  have m_is_stretch := He.glo_ok X G (c.d.fact 5 (f := .glo "is_stretch") rfl)
  have m_is_schedule := He.glo_ok X G (c.d.fact 6 (f := .glo "is_schedule") rfl)
  have m__law_source := He.glo_ok X G (c.d.fact 7 (f := .glo "_law_source") rfl)
  have m__law_draw := He.glo_ok X G (c.d.fact 8 (f := .glo "_law_draw") rfl)
  have m__law_choice := He.glo_ok X G (c.d.fact 9 (f := .glo "_law_choice") rfl)
  have m__law_windows := He.glo_ok X G (c.d.fact 10 (f := .glo "_law_windows") rfl)
  have m__law_layer := He.glo_ok X G (c.d.fact 11 (f := .glo "_law_layer") rfl)
  have m__law_stretch := He.glo_ok X G (c.d.fact 12 (f := .glo "_law_stretch") rfl)
  have m__law_schedule := He.glo_ok X G (c.d.fact 13 (f := .glo "_law_schedule") rfl)
  have m__law_from := He.glo_ok X G (c.d.fact 14 (f := .glo "_law_from") rfl)
  have m__law_named := He.glo_ok X G (c.d.fact 15 (f := .glo "_law_named") rfl)
  have m__law_good_layer := He.glo_ok X G (c.d.fact 16 (f := .glo "_law_good_layer") rfl)
  have m__law_good_stretch := He.glo_ok X G (c.d.fact 17 (f := .glo "_law_good_stretch") rfl)
  have m__law_good := He.glo_ok X G (c.d.fact 18 (f := .glo "_law_good") rfl)
  have m__law_changed := He.glo_ok X G (c.d.fact 19 (f := .glo "_law_changed") rfl)
  have m_law := He.glo_ok X G (c.d.fact 20 (f := .glo "law") rfl)
  have ex0 := c.more
  unfold exs at ex0
  simp only [Bool.true_and, Bool.and_eq_true] at ex0
  have T : Txt K mg := ⟨He.free_ok X G (c.d.fact 21 (f := .free "abs") rfl), He.free_ok X G (c.d.fact 22 (f := .free "all") rfl), He.free_ok X G (c.d.fact 23 (f := .free "bool") rfl), He.free_ok X G (c.d.fact 24 (f := .free "int") rfl), He.free_ok X G (c.d.fact 25 (f := .free "isinstance") rfl), He.free_ok X G (c.d.fact 26 (f := .free "len") rfl), He.free_ok X G (c.d.fact 27 (f := .free "list") rfl), He.free_ok X G (c.d.fact 28 (f := .free "min") rfl), He.free_ok X G (c.d.fact 29 (f := .free "range") rfl), He.free_ok X G (c.d.fact 30 (f := .free "str") rfl), He.free_ok X G (c.d.fact 31 (f := .free "tuple") rfl), He.int_ok X G (c.d.fact 32 (f := .int "MOST_END" 5000) rfl), He.int_ok X G (c.d.fact 33 (f := .int "MOST_LAYERS" 3) rfl), He.int_ok X G (c.d.fact 34 (f := .int "MOST_PEOPLE" 4) rfl), He.int_ok X G (c.d.fact 35 (f := .int "MOST_ROWS" 6) rfl), He.int_ok X G (c.d.fact 36 (f := .int "MOST_WINDOWS" 4) rfl), He.int_ok X G (c.d.fact 37 (f := .int "WEEK" 168) rfl), He.str_ok X G (c.d.fact 38 (f := .str "LETTERS" "abcdefghijklmnopqrstuvwxyz") rfl), ⟨_, He.glo_ok X G (c.d.fact 39 (f := .glo "TURNS") rfl), ktup_of ex0⟩⟩
  cases hfa.symm.trans m_law
  refine ⟨fd_law, fun s u => FunD.bindsA (ps := ["script"]) D_law (fun _ _ _ _ _ _ us hl => match us, hl with | [_], _ => rfl) s [u] rfl, fun base _ _ => ?_⟩
  have G_is_from := w_is_from (P := P) (w := w) (base := base) T D_is_from m_is_from
  have G_is_name := w_is_name (P := P) (w := w) (base := base) T D_is_name m_is_name
  have G_is_tuple_of := w_is_tuple_of (P := P) (w := w) (base := base) T D_is_tuple_of m_is_tuple_of
  have G_are_windows := w_are_windows (P := P) (w := w) (base := base) T G_is_from G_is_tuple_of D_are_windows m_are_windows
  have G_is_layer := w_is_layer (P := P) (w := w) (base := base) T G_is_tuple_of G_is_from G_is_name G_are_windows D_is_layer m_is_layer
  have G_is_stretch := w_is_stretch (P := P) (w := w) (base := base) T G_is_from G_is_name G_is_tuple_of D_is_stretch m_is_stretch
  have G_is_schedule := w_is_schedule (P := P) (w := w) (base := base) T G_is_tuple_of G_is_stretch G_is_layer D_is_schedule m_is_schedule
  have G__law_source := w__law_source (P := P) (w := w) (base := base) T D__law_source m__law_source
  have G__law_draw := w__law_draw (P := P) (w := w) (base := base) T D__law_draw m__law_draw
  have G__law_choice := w__law_choice (P := P) (w := w) (base := base) T G__law_draw D__law_choice m__law_choice
  have G__law_windows := w__law_windows (P := P) (w := w) (base := base) T G__law_draw D__law_windows m__law_windows
  have G__law_layer := w__law_layer (P := P) (w := w) (base := base) T G__law_draw G__law_choice G__law_windows D__law_layer m__law_layer
  have G__law_stretch := w__law_stretch (P := P) (w := w) (base := base) T G__law_draw G__law_choice D__law_stretch m__law_stretch
  have G__law_schedule := w__law_schedule (P := P) (w := w) (base := base) T G__law_choice G__law_layer G__law_draw G__law_stretch D__law_schedule m__law_schedule
  have G__law_from := w__law_from (P := P) (w := w) (base := base) T D__law_from m__law_from
  have G__law_named := w__law_named (P := P) (w := w) (base := base) T D__law_named m__law_named
  have G__law_good_layer := w__law_good_layer (P := P) (w := w) (base := base) T G__law_named G__law_from D__law_good_layer m__law_good_layer
  have G__law_good_stretch := w__law_good_stretch (P := P) (w := w) (base := base) T G__law_named G__law_from D__law_good_stretch m__law_good_stretch
  have G__law_good := w__law_good (P := P) (w := w) (base := base) T G__law_good_layer G__law_good_stretch D__law_good m__law_good
  have G__law_changed := w__law_changed (P := P) (w := w) (base := base) T G__law_draw G__law_choice D__law_changed m__law_changed 10
  exact w_law T G__law_source G__law_choice G__law_schedule G_is_schedule G__law_good G__law_changed D_law
end DLW


set_option linter.all false
set_option maxRecDepth 100000
set_option maxHeartbeats 4000000
open PySem L2 DL
namespace DL
/-! ### schedules, as they are recognized -/
def okS (x : Str) : Bool := PyData.strOk x && decide (x.length ≤ 1000)
mutual
/-- values of a depth below n, their texts short -/
def D.gd : Nat → D → Bool
  | _, .non => true
  | _, .bl _ => true
  | _, .int _ => true
  | _, .str x => okS x
  | n + 1, .tup ds => decide (ds.length ≤ 900 + n) && gdL n ds
  | n + 1, .lst ds => decide (ds.length ≤ 900 + n) && gdL n ds
  | _, _ => false
def gdL : Nat → List D → Bool
  | _, [] => true
  | n, d :: ds => d.gd n && gdL n ds
end
theorem gdL_mem {n : Nat} : ∀ {ds : List D}, gdL n ds = true → ∀ d ∈ ds, d.gd n = true
  | d :: ds, h, e, m => by
    simp only [gdL, Bool.and_eq_true] at h
    rcases List.mem_cons.mp m with rfl | m
    · exact h.1
    · exact gdL_mem h.2 e m
theorem gdL_of {n : Nat} : ∀ {ds : List D}, (∀ d ∈ ds, d.gd n = true) → gdL n ds = true
  | [], _ => by simp [gdL]
  | d :: ds, h => by
    simp only [gdL, Bool.and_eq_true]
    exact ⟨h d List.mem_cons_self, gdL_of fun e m => h e (List.mem_cons_of_mem _ m)⟩
theorem gd_tup {n : Nat} {ds : List D} (h : (D.tup ds).gd n = true) : ∃ m, n = m + 1 ∧ gdL m ds = true := by
  cases n with
  | zero => simp [D.gd] at h
  | succ n => exact ⟨n, rfl, by simp [D.gd] at h; exact h.2⟩
theorem gd_len {n : Nat} {ds : List D} (h : (D.tup ds).gd n = true) : ds.length + 1 ≤ 900 + n ∧ 1 ≤ n := by
  cases n with
  | zero => simp [D.gd] at h
  | succ n =>
    simp [D.gd] at h
    omega
theorem gd_str {n : Nat} {x : Str} (h : (D.str x).gd n = true) : okS x = true := by cases n <;> simpa [D.gd] using h
theorem gd_ty {n : Nat} {d : D} (h : d.gd n = true) : tyN d ≠ none := by
  cases d <;> simp [tyN] <;> (cases n <;> simp [D.gd] at h)
def isFrom (d : D) (lo hi : Int) : Bool := match d with
  | .int i => decide (lo ≤ i) && decide (i ≤ hi)
  | _ => false
def lowS : Str := "abcdefghijklmnopqrstuvwxyz"
def isName (d : D) : Bool := match d with
  | .str x => decide (1 ≤ x.length) && (decide (x.length ≤ 8) && x.cps.toList.all fun c => decide (c ∈ lowS.cps.toList))
  | _ => false
def isTupN (d : D) (n : Nat) : Bool := match d with
  | .tup ds => decide (ds.length = n)
  | _ => false
/-- a window, from e on -/
def winOk (e : Int) : List D → Bool
  | [] => true
  | .tup [.int a, .int b] :: r => decide (e ≤ a) && decide (a ≤ 167) && (decide (a + 1 ≤ b) && decide (b ≤ 168)) && winOk b r
  | _ => false
def isWindows (d : D) : Bool := match d with
  | .tup ds => decide (ds.length ≤ 4) && winOk 0 ds
  | _ => false
def turns : List Int := [8, 12, 24, 84, 168]
def isTurn (d : D) : Bool := match d with
  | .int i => decide (i ∈ turns)
  | _ => false
def isLayer (d : D) : Bool := match d with
  | .tup [.tup ps, b, t, ws] => decide (1 ≤ ps.length) && (decide (ps.length ≤ 4) && (ps.all isName && (isFrom b 0 5000 && (isTurn t && isWindows ws))))
  | _ => false
def isStretch (d : D) : Bool := match d with
  | .tup [n, .int lo, hi] => isName n && (decide (0 ≤ lo) && decide (lo ≤ 4999)) && isFrom hi (lo + 1) 5000
  | _ => false
def isSched (d : D) : Bool := match d with
  | .tup [.tup ls, .tup os, .tup as] => decide (ls.length ≤ 3) && decide (os.length ≤ 6) && decide (as.length ≤ 6) && ls.all isLayer && (os ++ as).all isStretch
  | _ => false
theorem dec_nat (a b : Nat) : decide ((a : Int) = (b : Int)) = decide (a = b) := decide_eq_decide.mpr (by omega)
section
variable {μ : Mu} {q : D → Mu → Prop}
theorem e_is_from {d : D} {lo hi : Int} (h1 : tyN d ≠ none) : S_is_from [d, .int lo, .int hi] μ q = q (.bl (isFrom d lo hi)) μ := by
  cases d <;> simp [u_is_from, g_is_from, cIsi, tyN, isTy, isFrom] at *
  rename_i i
  by_cases c : lo ≤ i <;> simp [c]
theorem e_is_tuple_of {d : D} {n : Int} (h1 : tyN d ≠ none) (hn : 0 ≤ n) : S_is_tuple_of [d, .int n] μ q = q (.bl (isTupN d n.toNat)) μ := by
  cases d <;> simp [u_is_tuple_of, g_is_tuple_of, cIsi, tyN, isTy, isTupN] at *
  rename_i ds
  rw [show decide ((ds.length : Int) = n) = decide (ds.length = n.toNat) from decide_eq_decide.mpr (by omega)]
def inLow (d : D) : Bool := match d with
  | .str x => (match x.cps.toList with
    | [c] => decide (c ∈ lowS.cps.toList)
    | _ => false)
  | _ => false
theorem signs_all (x : Str) : (signs x).all inLow = x.cps.toList.all fun c => decide (c ∈ lowS.cps.toList) := by
  simp [signs, List.all_map, inLow, Function.comp_def]
theorem e_is_name {d : D} {n : Nat} (h1 : d.gd n = true) : S_is_name [d] μ q = q (.bl (isName d)) μ := by
  have ht := gd_ty h1
  cases d <;> simp [u_is_name, g_is_name, cIsi, tyN, isTy, isName] at *
  rename_i x
  have hx : x.length ≤ 1000 := by
    have := gd_str h1
    simp [okS] at this
    exact this.2
  by_cases c1 : 1 ≤ x.length
  · by_cases c2 : x.length ≤ 8
    · have c1' : (1 : Int) ≤ x.length := by omega
      have c2' : (x.length : Int) ≤ 8 := by omega
      simp only [c1, c2, c1', c2', decide_true, if_true, Bool.true_and, sl_le (show x.length ≤ 1000000 by omega), true_and]
      have hl : (signs x).length ≤ sizeLine := sl_le (by
        have : (signs x).length = x.length := by simp [signs, Str.length]
        omega)
      rw [lc_map_eq (fun d => .bl (inLow d)) fun d hd k1 => ?_]
      · simp only [hl, true_and]
        rw [all_map, signs_all]
        simp
      · obtain ⟨c, _, rfl⟩ := List.mem_map.mp hd
        simp [wipeL, opInG, inLow]
        exact Iff.rfl
    · have c1' : (1 : Int) ≤ x.length := by omega
      have c2' : ¬ (x.length : Int) ≤ 8 := by omega
      simp [c1, c2, c1', c2', sl_le (show x.length ≤ 1000000 by omega)]
  · have c1' : ¬ (1 : Int) ≤ x.length := by omega
    simp [c1, c1', sl_le (show x.length ≤ 1000000 by omega)]
theorem isFrom_nt {d : D} {lo hi : Int} (h : isFrom d lo hi = true) : ∃ i, d = .int i ∧ lo ≤ i ∧ i ≤ hi := by
  cases d <;> simp [isFrom] at h
  exact ⟨_, rfl, h⟩
/-- the loop over windows -/
theorem windows_loop {n : Nat} {v : D} {Fq : FEnds} : ∀ (ds : List D) (e : Int) (w0 : Option Slot), gdL n ds = true →
    (winOk e ds = true → ∀ e' w', Fq.nx [some (.dat v), some (.dat (.int e')), w'] μ) → (winOk e ds = false → Fq.rt (.bl false) μ) →
    forL (gtName 2) (sSeq (sIf (tOrF (tNotF (tst (eCall S_is_tuple_of (aCons (eVar 2) (aCons (eC (.int 2)) aNil))))) (tNotF (tst (eCall S_is_from (aCons (eBin opIx (eVar 2) (eC (.int 0))) (aCons (eVar 1) (aCons (eBin opSub (eC (.int 168)) (eC (.int 1))) aNil))))))) (sRet (eC (.bl false))) sNext)
      (sSeq (sIf (tNotF (tst (eCall S_is_from (aCons (eBin opIx (eVar 2) (eC (.int 1))) (aCons (eBin opAdd (eBin opIx (eVar 2) (eC (.int 0))) (eC (.int 1))) (aCons (eC (.int 168)) aNil)))))) (sRet (eC (.bl false))) sNext)
      (sSet 1 (eBin opIx (eVar 2) (eC (.int 1)))))) Fq ds [some (.dat v), some (.dat (.int e)), w0] μ
  | [], e, w0, _, h1, _ => h1 rfl e w0
  | d :: ds, e, w0, g, h1, h2 => by
    simp only [gdL, Bool.and_eq_true] at g
    have td := gd_ty g.1
    unfold forL
    simp [e_is_tuple_of td]
    by_cases c : isTupN d 2 = true
    · cases d <;> simp [isTupN] at c
      rename_i xs
      obtain ⟨a, b, rfl⟩ : ∃ a b, xs = [a, b] := by
        match xs, c with
        | [a, b], _ => exact ⟨a, b, rfl⟩
      obtain ⟨m, rfl, gx⟩ := gd_tup g.1
      simp only [gdL, Bool.and_eq_true] at gx
      have ta := gd_ty gx.1
      have tb := gd_ty gx.2.1
      simp [isTupN, e_is_from ta]
      by_cases c1 : isFrom a e 167 = true
      · obtain ⟨i, rfl, l1, l2⟩ := isFrom_nt c1
        simp [c1, e_is_from tb]
        by_cases c2 : isFrom b (i + 1) 168 = true
        · obtain ⟨j, rfl, l3, l4⟩ := isFrom_nt c2
          simp [c2]
          refine windows_loop ds j _ g.2 (fun h => h1 ?_) (fun h => h2 ?_)
          · simp [winOk, h]; omega
          · simp [winOk, h]
        · simp [c2]
          refine h2 ?_
          cases b <;> first | rfl | skip
          rename_i j
          simp [isFrom] at c2
          simp [winOk]
          intro _ _ h3 h4
          omega
      · simp [c1]
        refine h2 ?_
        cases a <;> first | rfl | skip
        rename_i i
        cases b <;> first | rfl | skip
        simp [isFrom] at c1
        simp [winOk]
        intro h3 h4
        omega
    · simp [c]
      refine h2 ?_
      cases d <;> first | rfl | skip
      rename_i xs
      simp [isTupN] at c
      match xs, c with
      | [], _ => rfl
      | [a], _ => cases a <;> rfl
      | [a, b], c => exact absurd rfl c
      | a :: b :: d :: r, _ => cases a <;> try rfl
                               cases b <;> rfl
theorem s_are_windows {d : D} {n : Nat} (h1 : d.gd n = true) (h : q (.bl (isWindows d)) μ) : S_are_windows [d] μ q := by
  have ht := gd_ty h1
  cases d <;> simp [u_are_windows, g_are_windows, cIsi, tyN, isTy, isWindows] at * <;> try exact h
  rename_i ds
  obtain ⟨m, rfl, g⟩ := gd_tup h1
  by_cases c : ds.length ≤ 4
  · have c' : ¬ (4 : Int) < ds.length := by omega
    simp [c'] 
    simp [c] at h
    refine windows_loop ds 0 _ g (fun e _ _ => ?_) (fun e => ?_)
    · rw [e] at h
      simpa using h
    · rw [e] at h
      exact h
  · have c' : (4 : Int) < ds.length := by omega
    simp [c']
    simpa [c] using h
theorem tup_len {d : D} {n : Nat} (h : isTupN d n = true) : ∃ xs, d = .tup xs ∧ xs.length = n := by
  cases d <;> simp [isTupN] at h
  exact ⟨_, rfl, h⟩
theorem len4 {α : Type} {xs : List α} (h : xs.length = 4) : ∃ a b c d, xs = [a, b, c, d] := by
  match xs, h with
  | [a, b, c, d], _ => exact ⟨a, b, c, d, rfl⟩
theorem len3 {α : Type} {xs : List α} (h : xs.length = 3) : ∃ a b c, xs = [a, b, c] := by
  match xs, h with
  | [a, b, c], _ => exact ⟨a, b, c, rfl⟩
theorem len2 {α : Type} {xs : List α} (h : xs.length = 2) : ∃ a b, xs = [a, b] := by
  match xs, h with
  | [a, b], _ => exact ⟨a, b, rfl⟩
theorem len1 {α : Type} {xs : List α} (h : xs.length = 1) : ∃ a, xs = [a] := by
  match xs, h with
  | [a], _ => exact ⟨a, rfl⟩
theorem isLayer_no {d : D} (h : isTupN d 4 = false) : isLayer d = false := by
  cases d <;> first | rfl | skip
  rename_i xs
  simp [isTupN] at h
  match xs, h with
  | [], _ => rfl
  | [a], _ => cases a <;> rfl
  | [a, b], _ => cases a <;> rfl
  | [a, b, c], _ => cases a <;> rfl
  | [a, b, c, d], h => exact absurd rfl h
  | a :: b :: c :: d :: e :: r, _ => cases a <;> rfl
theorem isStretch_no {d : D} (h : isTupN d 3 = false) : isStretch d = false := by
  cases d <;> first | rfl | skip
  rename_i xs
  simp [isTupN] at h
  match xs, h with
  | [], _ => rfl
  | [a], _ => rfl
  | [a, b], _ => cases b <;> rfl
  | [a, b, c], h => exact absurd rfl h
  | a :: b :: c :: e :: r, _ => cases b <;> rfl
theorem isSched_no {d : D} (h : isTupN d 3 = false) : isSched d = false := by
  cases d <;> first | rfl | skip
  rename_i xs
  simp [isTupN] at h
  match xs, h with
  | [], _ => rfl
  | [a], _ => cases a <;> rfl
  | [a, b], _ => cases a <;> first | rfl | (cases b <;> rfl)
  | [a, b, c], h => exact absurd rfl h
  | a :: b :: c :: e :: r, _ => cases a <;> first | rfl | (cases b <;> first | rfl | (cases c <;> rfl))
theorem s_is_stretch {d : D} {n : Nat} (h1 : d.gd n = true) (h : q (.bl (isStretch d)) μ) : S_is_stretch [d] μ q := by
  have ht := gd_ty h1
  simp [u_is_stretch, g_is_stretch, e_is_tuple_of ht]
  by_cases c : isTupN d 3 = true
  · obtain ⟨xs, rfl, hl⟩ := tup_len c
    obtain ⟨a, b, e, rfl⟩ := len3 hl
    obtain ⟨m, rfl, g⟩ := gd_tup h1
    simp only [gdL, Bool.and_eq_true] at g
    have ta := gd_ty g.1
    have tb := gd_ty g.2.1
    have te := gd_ty g.2.2.1
    simp [c, e_is_name g.1, e_is_from tb]
    by_cases c1 : isName a = true
    · by_cases c2 : isFrom b 0 4999 = true
      · obtain ⟨i, rfl, l1, l2⟩ := isFrom_nt c2
        simp [c1, c2, e_is_from te]
        have : isStretch (.tup [a, .int i, e]) = isFrom e (i + 1) 5000 := by simp [isStretch, c1, l1, l2]
        rw [this] at h
        exact h
      · simp [c1, c2]
        have : isStretch (.tup [a, b, e]) = false := by
          cases b <;> first | rfl | skip
          simp [isFrom] at c2
          simp [isStretch]
          intro _ h3 h4
          omega
        rw [this] at h
        exact h
    · simp [c1]
      have : isStretch (.tup [a, b, e]) = false := by cases b <;> simp [isStretch, c1]
      rw [this] at h
      exact h
  · simp [c]
    rw [isStretch_no (by simpa using c)] at h
    exact h
end
end DL

set_option linter.all false
set_option maxRecDepth 100000
set_option maxHeartbeats 4000000
open PySem L2 DL
namespace DL
section
variable {μ : Mu} {q : D → Mu → Prop}
theorem turns_in (i : Int) : inL (.int i) [.int 8, .int 12, .int 24, .int 84, .int 168] = decide (i ∈ turns) := by
  rw [Bool.eq_iff_iff]
  simp only [inL, eqF, turns, decide_eq_true_eq, Bool.or_eq_true, beq_iff_eq, List.mem_cons, List.not_mem_nil, or_false, Bool.or_false, List.any_cons, List.any_nil]
  omega
theorem turns_le {i : Int} (h : i ∈ turns) : 0 ≤ i ∧ i ≤ 168 ∧ 8 ≤ i := by
  simp only [turns, List.mem_cons, List.not_mem_nil, or_false] at h
  omega
theorem s_is_layer {d : D} {n : Nat} (h1 : d.gd n = true) (h : q (.bl (isLayer d)) μ) : S_is_layer [d] μ q := by
  have ht := gd_ty h1
  simp [u_is_layer, g_is_layer, e_is_tuple_of ht]
  by_cases c : isTupN d 4 = true
  · obtain ⟨xs, rfl, hl⟩ := tup_len c
    obtain ⟨a, b, t, ws, rfl⟩ := len4 hl
    obtain ⟨m, rfl, g⟩ := gd_tup h1
    simp only [gdL, Bool.and_eq_true] at g
    have ta := gd_ty g.1
    have tb := gd_ty g.2.1
    have tt := gd_ty g.2.2.1
    by_cases c0 : ∃ ps, a = .tup ps
    · obtain ⟨ps, rfl⟩ := c0
      simp only [isLayer] at h
      obtain ⟨m, rfl, gp⟩ := gd_tup g.1
      simp [c, cIsi, tyN, isTy]
      by_cases c1 : 1 ≤ ps.length
      · by_cases c2 : ps.length ≤ 4
        · have c1' : (1 : Int) ≤ ps.length := by omega
          have c2' : (ps.length : Int) ≤ 4 := by omega
          simp [c1, c2, c1', c2', sl_le (show ps.length ≤ 1000000 by omega)]
          rw [lc_map_eq (fun d => .bl (isName d)) fun d hd k1 => e_is_name (gdL_mem gp _ hd), all_map]
          simp [c1, c2] at h
          generalize ps.all isName = B at *
          simp [e_is_from tb, e_is_from tt]
          cases B
          · simpa using h
          · generalize hb : isFrom b 0 5000 = B at *
            cases B
            · simpa using h
            · cases t <;> simp [isFrom, isTurn] at * <;> try exact h
              rename_i i
              by_cases c5 : i ∈ turns
              · obtain ⟨l1, l2, _⟩ := turns_le c5
                simp [l1, l2, opInG, turns_in, c5, flatD] at *
                exact s_are_windows g.2.2.2 h
              · simp [opInG, turns_in, c5, flatD] at *
                first | exact h | (split <;> exact h)
        · have c1' : (1 : Int) ≤ ps.length := by omega
          have c2' : ¬ (ps.length : Int) ≤ 4 := by omega
          simp [c1, c2, c1', c2'] at *
          exact h
      · have c1' : ¬ (1 : Int) ≤ ps.length := by omega
        simp [c1, c1'] at *
        exact h
    · have : isLayer (.tup [a, b, t, ws]) = false := by
        cases a <;> first | rfl | exact absurd ⟨_, rfl⟩ c0
      rw [this] at h
      cases a <;> simp [c, cIsi, tyN, isTy] at * <;> exact h
  · simp [c]
    rw [isLayer_no (by simpa using c)] at h
    exact h
theorem e_all_tup {ds : List D} {k : D → Prop} (h : ∀ d ∈ ds, tyN d ≠ none) : True := trivial
def isTup (d : D) : Bool := match d with
  | .tup _ => true
  | _ => false
theorem e_isi_tup {d : D} {k : D → Prop} (h : tyN d ≠ none) : cIsi "tuple" d k = k (.bl (isTup d)) := by
  cases d <;> simp [cIsi, tyN, isTy, isTup] at *
theorem isSched_at {a b c : D} (h : isSched (.tup [a, b, c]) = true) : ∃ ls os as, a = .tup ls ∧ b = .tup os ∧ c = .tup as := by
  unfold isSched at h
  split at h
  · rename_i e
    cases e
    exact ⟨_, _, _, rfl, rfl, rfl⟩
  · exact absurd h (by simp)
theorem gd_tup' {n : Nat} {ds : List D} (h : (D.tup ds).gd n = true) : gdL (n - 1) ds = true := by
  obtain ⟨m, rfl, g⟩ := gd_tup h
  simpa using g
theorem isTup_at {a : D} (h : isTup a = true) : ∃ ls, a = .tup ls := by
  unfold isTup at h
  split at h
  · exact ⟨_, rfl⟩
  · exact absurd h (by simp)
theorem s_is_schedule {d : D} {n : Nat} (h1 : d.gd n = true) (h : q (.bl (isSched d)) μ) : S_is_schedule [d] μ q := by
  have ht := gd_ty h1
  simp [u_is_schedule, g_is_schedule, e_is_tuple_of ht]
  by_cases c : isTupN d 3 = true
  · obtain ⟨xs, rfl, hl⟩ := tup_len c
    obtain ⟨m, rfl, g0⟩ := gd_tup h1
    simp [c]
    refine ⟨sl_le (by omega), ?_⟩
    rw [lc_map_eq (fun d => .bl (isTup d)) fun d hd k1 => by
      have hd' := gd_ty (gdL_mem g0 _ hd)
      simp [wipeL, e_isi_tup hd'], all_map]
    obtain ⟨a, b, t, rfl⟩ := len3 hl
    have g := g0
    simp only [gdL, Bool.and_eq_true] at g
    have ta := gd_ty g.1
    have tb := gd_ty g.2.1
    have tt := gd_ty g.2.2.1
    by_cases c1 : [a, b, t].all isTup = true
    · simp only [List.all_cons, List.all_nil, Bool.and_true, Bool.and_eq_true] at c1
      obtain ⟨k1, k2, k3⟩ := c1
      obtain ⟨ls, rfl⟩ := isTup_at k1
      obtain ⟨os, rfl⟩ := isTup_at k2
      obtain ⟨as, rfl⟩ := isTup_at k3
      simp [isTup]
      simp only [isSched] at h
      by_cases l1 : ls.length ≤ 3
      · rw [if_neg (by omega)]
        by_cases l2 : os.length ≤ 6
        · rw [if_neg (by omega)]
          by_cases l3 : as.length ≤ 6
          · rw [if_neg (by omega)]
            refine ⟨sl_le (by omega), ?_⟩
            simp only [l1, l2, l3, decide_true, Bool.true_and] at h
            have gl := gd_tup' g.1
            have go := gd_tup' g.2.1
            have ga := gd_tup' g.2.2.1
            refine lc_map (fun d => .bl (isLayer d)) (fun d hd k1 hk => ?_) ?_
            · simpa [wipeL] using s_is_layer (gdL_mem gl _ hd) hk
            · rw [all_map, blD]
              cases c2 : ls.all isLayer with
              | false => simpa [c2] using h
              | true =>
                simp only [c2, Bool.true_and] at h
                refine ⟨sl_le (by omega), ?_⟩
                refine lc_map (fun d => .bl (isStretch d)) (fun d hd k1 hk => ?_) ?_
                · have hd' : d.gd (m - 1) = true := by
                    rcases List.mem_append.mp hd with hd | hd
                    · exact gdL_mem go _ hd
                    · exact gdL_mem ga _ hd
                  simpa [wipeL] using s_is_stretch hd' hk
                · rw [all_map]
                  exact h
          · rw [if_pos (by omega)]
            simpa [l3] using h
        · rw [if_pos (by omega)]
          simpa [l2] using h
      · rw [if_pos (by omega)]
        simpa [l1] using h
    · have : isSched (.tup [a, b, t]) = false := by
        rw [Bool.eq_false_iff]
        intro e
        obtain ⟨ls, os, as, rfl, rfl, rfl⟩ := isSched_at e
        exact c1 (by simp [isTup])
      rw [this] at h
      simp only [Bool.not_eq_true] at c1
      simpa [c1, blD] using h
  · simp [c]
    rw [isSched_no (by simpa using c)] at h
    exact h
end
end DL

set_option linter.all false
set_option maxRecDepth 100000
set_option maxHeartbeats 4000000
open PySem L2 DL
namespace DL
mutual
theorem gd_okd : ∀ {n m : Nat} {d : D}, n ≤ m → d.gd n = true → d.okd m = true
  | _, _, .non, _, _ => by simp [D.okd]
  | _, _, .bl _, _, _ => by simp [D.okd]
  | _, _, .int _, _, _ => by simp [D.okd]
  | _, _, .str x, _, h => by
    have := gd_str h
    simp [okS] at this
    simp [D.okd, this.1]
  | n + 1, m + 1, .tup ds, l, h => by
    simp only [D.gd, Bool.and_eq_true] at h
    simp only [D.okd]
    exact gdL_okL (by omega) h.2
  | n + 1, m + 1, .lst ds, l, h => by
    simp only [D.gd, Bool.and_eq_true] at h
    simp only [D.okd]
    exact gdL_okL (by omega) h.2
  | 0, _, .tup ds, _, h => by simp [D.gd] at h
  | 0, _, .lst ds, _, h => by simp [D.gd] at h
  | n + 1, 0, _, l, _ => absurd l (by omega)
  | n, _, .ro ds, _, h => by cases n <;> simp [D.gd] at h
  | n, _, .dct _ _, _, h => by cases n <;> simp [D.gd] at h
  | n, _, .cell _, _, h => by cases n <;> simp [D.gd] at h
theorem gdL_okL : ∀ {n m : Nat} {ds : List D}, n ≤ m → gdL n ds = true → okL m ds = true
  | _, _, [], _, _ => by simp [okL]
  | n, m, d :: ds, l, h => by
    simp only [gdL, Bool.and_eq_true] at h
    simp only [okL, Bool.and_eq_true]
    exact ⟨gd_okd l h.1, gdL_okL l h.2⟩
end
theorem okL_of {m : Nat} : ∀ {ds : List D}, (∀ d ∈ ds, d.okd m = true) → okL m ds = true
  | [], _ => by simp [okL]
  | d :: ds, h => by
    simp only [okL, Bool.and_eq_true]
    exact ⟨h d List.mem_cons_self, okL_of fun e m => h e (List.mem_cons_of_mem _ m)⟩
theorem eqb_nil {xs : List D} : eqb (.lst xs) (.lst []) = xs.isEmpty := by
  cases xs <;> simp [eqb, D.py, pyL, PyData.eqv] <;> rfl
theorem eqb_nilT {xs : List D} : eqb (.tup xs) (.tup []) = xs.isEmpty := by
  cases xs <;> simp [eqb, D.py, pyL, PyData.eqv] <;> rfl
theorem ne_nil {xs : List D} {k : D → Prop} (h : okL 59 xs = true) : opNe (.lst xs) (.lst []) k = k (.bl (!xs.isEmpty)) := by
  simp [opNe, scD, eqb_nil, D.okd, h, okL]
theorem eq_nil {xs : List D} {k : D → Prop} (h : okL 59 xs = true) : opEq (.lst xs) (.lst []) k = k (.bl xs.isEmpty) := by
  simp [opEq, scD, eqb_nil, D.okd, h, okL]
theorem ne_nilT {xs : List D} {k : D → Prop} (h : okL 59 xs = true) : opNe (.tup xs) (.tup []) k = k (.bl (!xs.isEmpty)) := by
  simp [opNe, scD, eqb_nilT, D.okd, h, okL]
theorem filter_empty {α : Type} {p : α → Bool} {l : List α} : ((l.filter fun d => !p d).isEmpty) = l.all p := by
  rw [Bool.eq_iff_iff, List.isEmpty_iff, List.filter_eq_nil_iff, List.all_eq_true]
  simp
section
variable {μ : Mu} {q : D → Mu → Prop}
theorem e_law_from {d : D} {lo hi : Int} (h1 : tyN d ≠ none) : S__law_from [d, .int lo, .int hi] μ q = q (.bl (isFrom d lo hi)) μ := by
  cases d <;> simp [u__law_from, g__law_from, cIsi, tyN, isTy, isFrom] at *
  rename_i i
  by_cases c : lo ≤ i <;> simp [c]
theorem signs_str {x : Str} {d : D} (h : d ∈ signs x) : ∃ c, c ∈ x.cps.toList ∧ d = .str ⟨#[c]⟩ := by
  obtain ⟨c, hc, rfl⟩ := List.mem_map.mp h
  exact ⟨c, hc, rfl⟩
theorem e_law_named {d : D} {n : Nat} (h1 : d.gd n = true) : S__law_named [d] μ q = q (.bl (isName d)) μ := by
  have ht := gd_ty h1
  cases d <;> simp [u__law_named, g__law_named, cIsi, tyN, isTy, isName] at *
  rename_i x
  have hx : x.length ≤ 1000 ∧ PyData.strOk x = true := by
    have := gd_str h1
    simp [okS] at this
    exact this.symm
  by_cases c1 : 1 ≤ x.length
  · by_cases c2 : x.length ≤ 8
    · have c1' : (1 : Int) ≤ x.length := by omega
      have c2' : (x.length : Int) ≤ 8 := by omega
      simp only [c1, c2, c1', c2', decide_true, if_true, Bool.true_and, sl_le (show x.length ≤ 1000000 by omega), true_and]
      have hl : (signs x).length ≤ sizeLine := sl_le (by
        have : (signs x).length = x.length := by simp [signs, Str.length]
        omega)
      simp only [hl, true_and, Bool.not_true, Bool.false_eq_true, if_false]
      rw [lc_pure_eq (fun d => !inLow d) (fun d => d) fun d hd k1 k2 => ?_]
      · simp only [List.map_id']
        rw [eq_nil, filter_empty, signs_all]
        · simp [show ¬ (8 : Int) < x.length by omega]
        · refine okL_of fun d hd => ?_
          obtain ⟨c, hc, rfl⟩ := signs_str (List.mem_filter.mp hd).1
          have h3 := hx.2
          simp only [PyData.strOk, Array.all_eq_true', decide_eq_true_eq] at h3
          simp [D.okd, PyData.strOk, h3 c (by simpa using hc)]
      · obtain ⟨c, _, rfl⟩ := signs_str hd
        simp [opInG, inLow, lowS]

    · have c1' : (1 : Int) ≤ x.length := by omega
      have c2' : ¬ (x.length : Int) ≤ 8 := by omega
      simp [c1, c2, c1', c2', sl_le (show x.length ≤ 1000000 by omega)]
  · have c1' : ¬ (1 : Int) ≤ x.length := by omega
    simp [c1, c1', sl_le (show x.length ≤ 1000000 by omega)]
theorem isFrom_bool {d : D} {lo hi : Int} {n : Nat} (h : d.gd n = true) : tyN d ≠ none := gd_ty h
theorem eq_nilF {n : Nat} {ds : List D} {p : D → Bool} {k : D → Prop} (h : gdL n ds = true) (hn : n ≤ 59) : opEq (.lst (ds.filter fun d => !p d)) (.lst []) k = k (.bl (ds.all p)) := by
  rw [eq_nil, filter_empty]
  exact okL_of fun d hd => gd_okd hn (gdL_mem h _ (List.mem_filter.mp hd).1)
theorem ne_nilF {n : Nat} {ds : List D} {p : D → Bool} {k : D → Prop} (h : gdL n ds = true) (hn : n ≤ 59) : opNe (.lst (ds.filter fun d => !p d)) (.lst []) k = k (.bl (!ds.all p)) := by
  rw [ne_nil, filter_empty]
  exact okL_of fun d hd => gd_okd hn (gdL_mem h _ (List.mem_filter.mp hd).1)
theorem s_law_good_stretch {d : D} {n : Nat} (h1 : d.gd n = true) (h : q (.bl (isStretch d)) μ) : S__law_good_stretch [d] μ q := by
  have ht := gd_ty h1
  simp [u__law_good_stretch, g__law_good_stretch, e_isi_tup ht]
  by_cases c0 : isTup d = true
  · obtain ⟨xs, rfl⟩ := isTup_at c0
    by_cases c : xs.length = 3
    · obtain ⟨a, b, e, rfl⟩ := len3 c
      obtain ⟨m, rfl, g⟩ := gd_tup h1
      simp only [gdL, Bool.and_eq_true] at g
      have ta := gd_ty g.1
      have tb := gd_ty g.2.1
      have te := gd_ty g.2.2.1
      simp [c0, e_law_named g.1, e_law_from tb]
      by_cases c1 : isName a = true
      · by_cases c2 : isFrom b 0 4999 = true
        · obtain ⟨i, rfl, l1, l2⟩ := isFrom_nt c2
          simp [c1, c2, e_law_from te]
          have : isStretch (.tup [a, .int i, e]) = isFrom e (i + 1) 5000 := by simp [isStretch, c1, l1, l2]
          rw [this] at h
          exact h
        · simp [c1, c2]
          have : isStretch (.tup [a, b, e]) = false := by
            cases b <;> first | rfl | skip
            simp [isFrom] at c2
            simp [isStretch]
            intro _ h3 h4
            omega
          rw [this] at h
          exact h
      · simp [c1]
        have : isStretch (.tup [a, b, e]) = false := by cases b <;> simp [isStretch, c1]
        rw [this] at h
        exact h
    · have c' : ¬ (xs.length : Int) = 3 := by omega
      simp [c0, c']
      rw [isStretch_no (by simpa [isTupN] using c)] at h
      exact h
  · simp [c0]
    have : isStretch d = false := by
      cases d <;> first | rfl | exact absurd rfl c0
    rw [this] at h
    exact h
theorem good_loop {n : Nat} {v n3 : Option Slot} {Fq : FEnds} : ∀ (ds : List D) (e : Int) (w0 : Option Slot), gdL n ds = true →
    (winOk e ds = true → ∀ e' w', Fq.nx [v, some (.dat (.int e')), w', n3] μ) → (winOk e ds = false → Fq.rt (.bl false) μ) →
    forL (gtName 2) (sSeq (sIf (tOrF (tNotF (tst (e1 (cIsi "tuple") (eVar 2)))) (tOrF (tst (eBin opNe (e1 cLen (eVar 2)) (eC (.int 2)))) (tNotF (tst (eCall S__law_from (aCons (eBin opIx (eVar 2) (eC (.int 0))) (aCons (eVar 1) (aCons (eC (.int 167)) aNil)))))))) (sRet (eC (.bl false))) sNext)
      (sSeq (sIf (tNotF (tst (eCall S__law_from (aCons (eBin opIx (eVar 2) (eC (.int 1))) (aCons (eBin opAdd (eBin opIx (eVar 2) (eC (.int 0))) (eC (.int 1))) (aCons (eC (.int 168)) aNil)))))) (sRet (eC (.bl false))) sNext)
      (sSet 1 (eBin opIx (eVar 2) (eC (.int 1)))))) Fq ds [v, some (.dat (.int e)), w0, n3] μ
  | [], e, w0, _, h1, _ => h1 rfl e w0
  | d :: ds, e, w0, g, h1, h2 => by
    simp only [gdL, Bool.and_eq_true] at g
    have td := gd_ty g.1
    unfold forL
    simp [e_isi_tup td]
    by_cases c : isTupN d 2 = true
    · obtain ⟨xs, rfl, hl⟩ := tup_len c
      obtain ⟨a, b, rfl⟩ := len2 hl
      obtain ⟨m, rfl, gx⟩ := gd_tup g.1
      simp only [gdL, Bool.and_eq_true] at gx
      have ta := gd_ty gx.1
      have tb := gd_ty gx.2.1
      simp [isTup, e_law_from ta]
      by_cases c1 : isFrom a e 167 = true
      · obtain ⟨i, rfl, l1, l2⟩ := isFrom_nt c1
        simp [c1, e_law_from tb]
        by_cases c2 : isFrom b (i + 1) 168 = true
        · obtain ⟨j, rfl, l3, l4⟩ := isFrom_nt c2
          simp [c2]
          refine good_loop ds j _ g.2 (fun h => h1 ?_) (fun h => h2 ?_)
          · simp [winOk, h]; omega
          · simp [winOk, h]
        · simp [c2]
          refine h2 ?_
          cases b <;> first | rfl | skip
          rename_i j
          simp [isFrom] at c2
          simp [winOk]
          intro _ _ h3 h4
          omega
      · simp [c1]
        refine h2 ?_
        cases a <;> first | rfl | skip
        rename_i i
        cases b <;> first | rfl | skip
        simp [isFrom] at c1
        simp [winOk]
        intro h3 h4
        omega
    · have hw : winOk e (d :: ds) = false := by
        cases d <;> first | rfl | skip
        rename_i xs
        simp [isTupN] at c
        match xs, c with
        | [], _ => rfl
        | [a], _ => cases a <;> rfl
        | [a, b], c => exact absurd rfl c
        | a :: b :: d :: r, _ => cases a <;> try rfl
                                 cases b <;> rfl
      by_cases c0 : isTup d = true
      · obtain ⟨xs, rfl⟩ := isTup_at c0
        simp [isTupN] at c
        have c' : ¬ (xs.length : Int) = 2 := by omega
        simp [c0, c']
        exact h2 hw
      · simp [c0]
        exact h2 hw
end
end DL

set_option linter.all false
set_option maxRecDepth 100000
set_option maxHeartbeats 4000000
open PySem L2 DL
namespace DL
section
variable {μ : Mu} {q : D → Mu → Prop}
theorem s_law_good_layer {d : D} {n : Nat} (h1 : d.gd n = true) (hn : n ≤ 50) (h : q (.bl (isLayer d)) μ) : S__law_good_layer [d] μ q := by
  have ht := gd_ty h1
  simp [u__law_good_layer, g__law_good_layer, e_isi_tup ht]
  by_cases c0 : isTup d = true
  · obtain ⟨xs, rfl⟩ := isTup_at c0
    by_cases c : xs.length = 4
    · obtain ⟨a, b, t, ws, rfl⟩ := len4 c
      obtain ⟨m, rfl, g⟩ := gd_tup h1
      simp only [gdL, Bool.and_eq_true] at g
      have ta := gd_ty g.1
      have tb := gd_ty g.2.1
      have tt := gd_ty g.2.2.1
      have tw := gd_ty g.2.2.2.1
      simp [c0, e_isi_tup ta]
      by_cases c1 : isTup a = true
      · obtain ⟨ps, rfl⟩ := isTup_at c1
        have gp := gd_tup' g.1
        simp only [isLayer] at h
        simp [c1]
        by_cases l1 : 1 ≤ ps.length
        · have l1' : (1 : Int) ≤ ps.length := by omega
          by_cases l2 : ps.length ≤ 4
          · have l2' : (ps.length : Int) ≤ 4 := by omega
            simp [l1, l2, l1', l2', sl_le (show ps.length ≤ 1000000 by omega)]
            simp only [l1, l2, decide_true, Bool.true_and] at h
            rw [lc_pure_eq (fun d => !isName d) (fun d => d) fun d hd k1 k2 => by
              simp [e_law_named (gdL_mem gp _ hd)]]
            simp only [List.map_id']
            rw [ne_nilF gp (by omega)]
            generalize ps.all isName = B at *
            cases B
            · simpa using h
            · simp [e_law_from tb, e_law_from tt]
              generalize hb : isFrom b 0 5000 = B at *
              cases B
              · simpa using h
              · by_cases c5 : isTurn t = true
                · unfold isTurn at c5
                  split at c5
                  · rename_i i
                    simp only [decide_eq_true_eq] at c5
                    obtain ⟨l3, l4, l5⟩ := turns_le c5
                    have : (isTurn (.int i)) = true := by simp [isTurn, c5]
                    simp only [this, Bool.true_and] at h
                    simp [isFrom, l4, l5, opInG, flatD, turns_in, c5, e_isi_tup tw]
                    by_cases c6 : isTup ws = true
                    · obtain ⟨ws, rfl⟩ := isTup_at c6
                      simp only [isWindows] at h
                      simp [c6]
                      by_cases l6 : ws.length ≤ 4
                      · simp [show ¬ (4 : Int) < ws.length by omega]
                        simp [l6] at h
                        refine good_loop ws 0 _ (gd_tup' g.2.2.2.1) (fun e _ _ => ?_) (fun e => ?_)
                        · rw [e] at h
                          simpa using h
                        · rw [e] at h
                          exact h
                      · simp [show (4 : Int) < ws.length by omega]
                        simpa [l6] using h
                    · have : isWindows ws = false := by
                        cases ws <;> first | rfl | exact absurd rfl c6
                      simp [c6]
                      simpa [this] using h
                  · exact absurd c5 (by simp)
                · simp [c5] at h
                  by_cases c6 : isFrom t 8 168 = true
                  · obtain ⟨i, rfl, l3, l4⟩ := isFrom_nt c6
                    simp [isTurn] at c5
                    simp [c6, opInG, flatD, turns_in, c5]
                    exact h
                  · simp [c6]
                    exact h
          · have l2' : ¬ (ps.length : Int) ≤ 4 := by omega
            simp [l1, l2, l1', l2'] at *
            exact h
        · have l1' : ¬ (1 : Int) ≤ ps.length := by omega
          simp [l1, l1'] at *
          exact h
      · have : isLayer (.tup [a, b, t, ws]) = false := by
          cases a <;> first | rfl | exact absurd rfl c1
        rw [this] at h
        simp [c1]
        exact h
    · have c' : ¬ (xs.length : Int) = 4 := by omega
      simp [c0, c']
      rw [isLayer_no (by simpa [isTupN] using c)] at h
      exact h
  · simp [c0]
    have : isLayer d = false := by
      cases d <;> first | rfl | exact absurd rfl c0
    rw [this] at h
    exact h
theorem s_law_good {d : D} {n : Nat} (h1 : d.gd n = true) (hn : n ≤ 50) (h : q (.bl (isSched d)) μ) : S__law_good [d] μ q := by
  have ht := gd_ty h1
  simp [u__law_good, g__law_good, e_isi_tup ht]
  by_cases c0 : isTup d = true
  · obtain ⟨xs, rfl⟩ := isTup_at c0
    obtain ⟨m, rfl, g0⟩ := gd_tup h1
    by_cases c : xs.length = 3
    · simp [c0, c, sl_le (show xs.length ≤ 1000000 by omega), sl_le (show 3 ≤ 1000000 by omega)]
      rw [lc_pure_eq (fun d => !isTup d) (fun d => .int 1) fun d hd k1 k2 => by
        have hd' := gd_ty (gdL_mem g0 _ hd)
        simp [e_isi_tup hd']]
      obtain ⟨a, b, t, rfl⟩ := len3 c
      have g := g0
      simp only [gdL, Bool.and_eq_true] at g
      have ta := gd_ty g.1
      have tb := gd_ty g.2.1
      have tt := gd_ty g.2.2.1
      rw [ne_nil (okL_of fun d hd => by
        obtain ⟨_, _, rfl⟩ := List.mem_map.mp hd
        simp [D.okd])]
      by_cases c1 : [a, b, t].all isTup = true
      · rw [show ((List.filter (fun d => !isTup d) [a, b, t]).map fun _ => D.int 1).isEmpty = true by
          rw [List.isEmpty_map, filter_empty, c1]]
        simp only [List.all_cons, List.all_nil, Bool.and_true, Bool.and_eq_true] at c1
        obtain ⟨k1, k2, k3⟩ := c1
        obtain ⟨ls, rfl⟩ := isTup_at k1
        obtain ⟨os, rfl⟩ := isTup_at k2
        obtain ⟨as, rfl⟩ := isTup_at k3
        simp
        simp only [isSched] at h
        by_cases l1 : ls.length ≤ 3
        · rw [if_neg (by omega)]
          by_cases l2 : os.length ≤ 6
          · rw [if_neg (by omega)]
            by_cases l3 : as.length ≤ 6
            · rw [if_neg (by omega)]
              refine ⟨sl_le (by omega), ?_⟩
              simp only [l1, l2, l3, decide_true, Bool.true_and] at h
              have gl := gd_tup' g.1
              have go := gd_tup' g.2.1
              have ga := gd_tup' g.2.2.1
              have gg : gdL (m - 1) (os ++ as) = true := gdL_of fun d hd => by
                rcases List.mem_append.mp hd with hd | hd
                · exact gdL_mem go _ hd
                · exact gdL_mem ga _ hd
              refine lc_pure (fun d => !isLayer d) (fun d => d) (fun d hd k1 k2 hk => ?_) ?_
              · simp
                refine s_law_good_layer (gdL_mem gl _ hd) (by omega) ?_
                cases e : isLayer d <;> simp only [e, Bool.not_true, Bool.not_false, Bool.false_eq_true, if_true, if_false] at hk <;> exact hk
              · simp only [List.map_id']
                rw [ne_nilF gl (by omega)]
                simp only [blD]
                cases c2 : ls.all isLayer with
                | false => simpa [c2] using h
                | true =>
                  simp only [c2, Bool.true_and] at h
                  simp only [Bool.not_true, Bool.false_eq_true, if_false]
                  refine ⟨sl_le (by omega), ?_⟩
                  refine lc_pure (fun d => !isStretch d) (fun d => d) (fun d hd k1 k2 hk => ?_) ?_
                  · simp
                    refine s_law_good_stretch (gdL_mem gg _ hd) ?_
                    cases e : isStretch d <;> simp only [e, Bool.not_true, Bool.not_false, Bool.false_eq_true, if_true, if_false] at hk <;> exact hk
                  · simp only [List.map_id']
                    rw [eq_nilF gg (by omega)]
                    exact h
            · rw [if_pos (by omega)]
              simpa [l3] using h
          · rw [if_pos (by omega)]
            simpa [l2] using h
        · rw [if_pos (by omega)]
          simpa [l1] using h
      · have : isSched (.tup [a, b, t]) = false := by
          rw [Bool.eq_false_iff]
          intro e
          obtain ⟨ls, os, as, rfl, rfl, rfl⟩ := isSched_at e
          exact c1 (by simp [isTup])
        rw [this] at h
        rw [show ((List.filter (fun d => !isTup d) [a, b, t]).map fun _ => D.int 1).isEmpty = false by
          rw [List.isEmpty_map, filter_empty]
          simpa using c1]
        simpa [blD] using h
    · have c' : ¬ (xs.length : Int) = 3 := by omega
      simp [c0, c']
      rw [isSched_no (by simpa [isTupN] using c)] at h
      exact h
  · simp [c0]
    have : isSched d = false := by
      cases d <;> first | rfl | exact absurd rfl c0
    rw [this] at h
    exact h
end
end DL

set_option linter.all false
set_option maxRecDepth 100000
set_option maxHeartbeats 4000000
open PySem L2 DL
namespace DL
/-- a source of numbers -/
def Src (n : Nat) (μ : Mu) : Prop := ∃ x y : Int, μ[n]? = some (.lst [.int x, .int y]) ∧ 0 ≤ x ∧ 0 ≤ y ∧ y < 2147483648
/-- all but n as it was -/
def Sm (n : Nat) (μ μ' : Mu) : Prop := μ'.length = μ.length ∧ ∀ m, m ≠ n → μ'[m]? = μ[m]?
theorem Sm.refl {n : Nat} {μ : Mu} : Sm n μ μ := ⟨rfl, fun _ _ => rfl⟩
theorem Sm.trans {n : Nat} {μ μ1 μ2 : Mu} (h : Sm n μ μ1) (k : Sm n μ1 μ2) : Sm n μ μ2 := ⟨k.1.trans h.1, fun m hm => (k.2 m hm).trans (h.2 m hm)⟩
theorem Sm.set {n : Nat} {μ : Mu} {o : Ob} : Sm n μ (μ.set n o) := ⟨List.length_set, fun m hm => List.getElem?_set_ne (fun e => hm e.symm)⟩
@[simp ↓] theorem x_putL0 {a v : D} {l : List D} {k : List D → Prop} : putL (a :: l) (.int 0) v k = k (v :: l) := by
  unfold putL
  rw [x_intD]
  simp [ixN]
@[simp ↓] theorem x_putL1 {a b v : D} {l : List D} {k : List D → Prop} : putL (a :: b :: l) (.int 1) v k = k (a :: v :: l) := by
  have : (1 : Int) < (l.length : Int) + 1 + 1 := by omega
  unfold putL
  rw [x_intD]
  simp [ixN, this]
@[simp ↓] theorem pow_7 {k : D → Prop} : opPow (.int 10) (.int 7) k = k (.int 10000000) := by
  show (CPow 10 7 ∧ k (.int (10 ^ 7))) = _
  simp [CPow]
@[simp ↓] theorem pow_18 {k : D → Prop} : opPow (.int 10) (.int 18) k = k (.int 1000000000000000000) := by
  show (CPow 10 18 ∧ k (.int (10 ^ 18))) = _
  simp [CPow]
@[simp ↓] theorem pow_15 {k : D → Prop} : opPow (.int 10) (.int 15) k = k (.int 1000000000000000) := by
  show (CPow 10 15 ∧ k (.int (10 ^ 15))) = _
  simp [CPow]
theorem cmul_l {i j : Int} (h1 : 0 ≤ i) (h2 : i < 2 ^ 64) : CMul i j := .inl ⟨by omega, h2⟩
theorem cmul_r {i j : Int} (h1 : 0 ≤ j) (h2 : j < 2 ^ 64) : CMul i j := .inr ⟨by omega, h2⟩
section
variable {μ : Mu} {q : D → Mu → Prop}
theorem s_law_draw {n : Nat} {z : Int} (hs : Src n μ) (hz : 0 < z) (hz2 : z < 2 ^ 64) (h : ∀ i μ', 0 ≤ i → i < z → Src n μ' → Sm n μ μ' → q (.int i) μ') : S__law_draw [.cell n, .int z] μ q := by
  obtain ⟨x, y, e, h1, h2, h3⟩ := hs
  have hl : n < μ.length := (List.getElem?_eq_some_iff.mp e).1
  have e2 : ∀ o : Ob, (List.set μ n o)[n]? = some o := fun o => List.getElem?_set_self hl
  simp [u__law_draw, g__law_draw, ↓e, ↓e2, hz, hz2]
  by_cases c : 0 < x
  · rw [if_pos c]
    refine ⟨hz2, h _ _ (Int.emod_nonneg _ (by omega)) (Int.emod_lt_of_pos _ hz) ⟨x / z, y, ?_, ?_, h2, h3⟩ Sm.set⟩
    --⟨x / z, y, ?_, ?_, h2, h3⟩ Sm.set
    · exact e2 _
    · exact Int.ediv_nonneg h1 (by omega)
  · rw [if_neg c]
    have a1 := Int.emod_nonneg (y * 48271) (show (2147483647 : Int) ≠ 0 by decide)
    have a2 := Int.emod_lt_of_pos (y * 48271) (show (0 : Int) < 2147483647 by decide)
    refine ⟨cmul_r (by decide) (by decide), cmul_l a1 (by omega), ?_⟩
    split
    · refine ⟨cmul_r (by decide) (by decide), cmul_r (by decide) (by decide), h _ _ (Int.emod_nonneg _ (by omega)) (Int.emod_lt_of_pos _ hz) ⟨x, _, e2 _, h1, Int.emod_nonneg _ (by decide), ?_⟩ Sm.set⟩
      have := Int.emod_lt_of_pos (y * 48271 % 2147483647 * 48271) (show (0 : Int) < 2147483647 by decide)
      omega
    · refine h _ _ (Int.emod_nonneg _ (by omega)) (Int.emod_lt_of_pos _ hz) ⟨x, _, e2 _, h1, a1, ?_⟩ Sm.set
      omega
theorem at_in {ds : List D} {i : Int} {k : D → Prop} (h1 : 0 ≤ i) (h2 : i < ds.length) (h : ∀ d ∈ ds, k d) : atD ds i k := by
  have h3 : i.toNat < ds.length := by omega
  have e : ds[i.toNat]? = some ds[i.toNat] := List.getElem?_eq_getElem h3
  have := at_n (k := k) e
  rw [show ((i.toNat : Nat) : Int) = i by omega] at this
  rw [this]
  exact h _ (List.getElem_mem h3)
/-- a choice out of a list (or a tuple): one of its items -/
theorem s_law_choice {n : Nat} {ds : List D} (hs : Src n μ) (hz : 1 ≤ ds.length) (hz2 : ds.length < 1000000) (h : ∀ d ∈ ds, ∀ μ', Src n μ' → Sm n μ μ' → q d μ') : S__law_choice [.cell n, .lst ds] μ q := by
  simp [u__law_choice, g__law_choice]
  refine s_law_draw hs (by omega) (by omega) fun i μ' i1 i2 s' m' => ?_
  simp
  exact at_in i1 i2 fun d hd => h d hd μ' s' m'
theorem rgD_len {i : Int} {n : Nat} : (rgD i n).length = n := by simp [rgD]
theorem Src.keep {n : Nat} {μ μ1 μ2 : Mu} (h : Sm n μ μ1) (k : Sm n μ1 μ2) : Sm n μ μ2 := h.trans k
theorem s_law_windows {n : Nat} (hs : Src n μ) (h : ∀ d μ', d.gd 2 = true → Src n μ' → Sm n μ μ' → q d μ') : S__law_windows [.cell n] μ q := by
  simp [u__law_windows, g__law_windows]
  refine s_law_draw hs (by decide) (by decide) fun i μ1 i1 i2 s1 m1 => ?_
  simp
  refine ⟨by unfold sm; omega, ?_⟩
  refine for_inv (fun pre ρ μ' => ∃ t ds b l h', ρ = [some (.dat (.cell n)), t, some (.dat (.tup ds)), some (.dat (.int b)), l, h'] ∧ gdL 1 ds = true ∧ ds.length ≤ pre.length ∧ Src n μ' ∧ Sm n μ μ') (pre := []) ?_ ?_ ?_
  · rintro pre d post ρ μ2 k e ⟨t, ds, b, l, h', rfl, g, hl, s2, m2⟩ hk
    have hp : pre.length ≤ 4 := by
      have := congrArg List.length e
      simp [rgD_len] at this
      omega
    simp
    refine s_law_draw s2 (by decide) (by decide) fun i3 μ3 _ _ s3 m3 => ?_
    simp
    refine s_law_draw s3 (by decide) (by decide) fun i4 μ4 _ _ s4 m4 => ?_
    simp
    have m5 := (m2.trans m3).trans m4
    split
    · refine ⟨sl_le (by omega), hk _ _ ⟨_, _, _, _, _, rfl, ?_, ?_, s4, m5⟩⟩
      · exact gdL_of fun d hd => by
          rcases List.mem_append.mp hd with hd | hd
          · exact gdL_mem g _ hd
          · obtain rfl := List.mem_singleton.mp hd
            simp [D.gd, gdL]
      · simp; omega
    · exact hk _ _ ⟨_, _, _, _, _, rfl, g, by simp; omega, s4, m5⟩
  · exact ⟨_, [], 0, _, _, rfl, by simp [gdL], by simp, s1, m1⟩
  · rintro ρ μ2 ⟨t, ds, b, l, h', rfl, g, hl, s2, m2⟩
    simp
    refine h _ _ ?_ s2 m2
    simp [rgD_len] at hl
    simp [D.gd, g]
    omega
theorem sm_of {i : Int} (h1 : 0 ≤ i) (h2 : i ≤ 1000000) : sm i := by unfold sm; omega
mutual
theorem gd_mono : ∀ {n m : Nat} {d : D}, n ≤ m → d.gd n = true → d.gd m = true
  | _, _, .non, _, _ => by simp [D.gd]
  | _, _, .bl _, _, _ => by simp [D.gd]
  | _, _, .int _, _, _ => by simp [D.gd]
  | _, m, .str x, _, h => by
    have := gd_str h
    cases m <;> simp [D.gd, this]
  | n + 1, m + 1, .tup ds, l, h => by
    simp only [D.gd, Bool.and_eq_true, decide_eq_true_eq] at h ⊢
    exact ⟨by omega, gdL_mono (by omega) h.2⟩
  | n + 1, m + 1, .lst ds, l, h => by
    simp only [D.gd, Bool.and_eq_true, decide_eq_true_eq] at h ⊢
    exact ⟨by omega, gdL_mono (by omega) h.2⟩
  | 0, _, .tup ds, _, h => by simp [D.gd] at h
  | 0, _, .lst ds, _, h => by simp [D.gd] at h
  | n + 1, 0, _, l, _ => absurd l (by omega)
  | n, _, .ro ds, _, h => by cases n <;> simp [D.gd] at h
  | n, _, .dct _ _, _, h => by cases n <;> simp [D.gd] at h
  | n, _, .cell _, _, h => by cases n <;> simp [D.gd] at h
theorem gdL_mono : ∀ {n m : Nat} {ds : List D}, n ≤ m → gdL n ds = true → gdL m ds = true
  | _, _, [], _, _ => by simp [gdL]
  | n, m, d :: ds, l, h => by
    simp only [gdL, Bool.and_eq_true] at h ⊢
    exact ⟨gd_mono l h.1, gdL_mono l h.2⟩
end
theorem gd_word {x : Str} {n : Nat} (h : okS x = true) : (D.str x).gd n = true := by cases n <;> simp [D.gd, h]
theorem s_law_layer {n : Nat} {w : Int} (hs : Src n μ) (w1 : 0 ≤ w) (w2 : w ≤ 1000000) (h : ∀ d μ', d.gd 3 = true → Src n μ' → Sm n μ μ' → q d μ') : S__law_layer [.cell n, .int w] μ q := by
  simp [u__law_layer, g__law_layer]
  refine s_law_draw hs (by decide) (by decide) fun i μ1 i1 i2 s1 m1 => ?_
  simp
  refine ⟨sm_of (by omega) (by omega), sl_le (by rw [rgD_len]; omega), ?_⟩
  refine lc_inv (fun μ' => Src n μ' ∧ Sm n μ μ') (fun d => d.gd 0 = true) (fun d hd μ2 k1 ⟨s2, m2⟩ hk => ?_) ⟨s1, m1⟩ fun ys μ2 hl hy ⟨s2, m2⟩ => ?_
  · simp
    refine s_law_choice s2 (by simp) (by simp) fun d hd μ3 s3 m3 => ?_
    refine hk _ _ ?_ ⟨s3, m2.trans m3⟩
    simp at hd
    rcases hd with rfl | rfl | rfl | rfl <;> exact gd_word (by decide +kernel)
  · refine s_law_draw s2 (by omega) (by omega) fun i3 μ3 _ _ s3 m3 => ?_
    try simp
    refine s_law_choice s3 (by simp) (by simp) fun d4 hd4 μ4 s4 m4 => ?_
    try simp
    refine s_law_windows s4 fun d5 μ5 g5 s5 m5 => ?_
    try simp
    refine s_law_choice s5 (by simp) (by simp) fun d6 hd6 μ6 s6 m6 => ?_
    try simp
    refine s_law_choice s6 (by simp) (by simp) fun d7 hd7 μ7 s7 m7 => ?_
    try simp
    refine h _ _ ?_ s7 (((((m2.trans m3).trans m4).trans m5).trans m6).trans m7)
    have l0 : ys.length ≤ 10 := by
      rw [hl, rgD_len]
      omega
    have g0 : gdL 1 ys = true := gdL_of fun d hd => gd_mono (by omega) (hy d hd)
    have g4 : d4.gd 2 = true := by
      rcases List.mem_cons.mp hd4 with rfl | hd4
      · simp [D.gd]
      · obtain rfl := List.mem_singleton.mp hd4
        simp [D.gd]
    have g6 : d6.gd 2 = true := by
      rcases List.mem_cons.mp hd6 with rfl | hd6
      · simp [D.gd, gdL]
      · obtain rfl := List.mem_singleton.mp hd6
        exact g5
    have g7 : d7.gd 2 = true := by
      simp at hd7
      rcases hd7 with rfl | rfl | rfl | rfl | rfl <;> simp [D.gd]
    simp [D.gd, gdL, g0, g4, g6, g7]
    omega
theorem s_law_stretch {n : Nat} {w : Int} (hs : Src n μ) (w1 : 1 ≤ w) (w2 : w ≤ 1000000) (h : ∀ d μ', d.gd 1 = true → Src n μ' → Sm n μ μ' → q d μ') : S__law_stretch [.cell n, .int w] μ q := by
  simp [u__law_stretch, g__law_stretch]
  refine s_law_draw hs (by omega) (by omega) fun i μ1 i1 i2 s1 m1 => ?_
  simp
  refine s_law_choice s1 (by simp) (by simp) fun d2 hd2 μ2 s2 m2 => ?_
  obtain ⟨j, rfl, j1, j2⟩ : ∃ j : Int, d2 = .int j ∧ 1 ≤ j ∧ j ≤ 1000000 := by
    simp at hd2
    rcases hd2 with rfl | rfl | rfl
    · exact ⟨4, rfl, by decide, by decide⟩
    · exact ⟨30, rfl, by decide, by decide⟩
    · exact ⟨w, rfl, by omega, w2⟩
  try simp
  refine s_law_draw s2 (by omega) (by omega) fun i3 μ3 _ _ s3 m3 => ?_
  try simp
  refine s_law_choice s3 (by simp) (by simp) fun d4 hd4 μ4 s4 m4 => ?_
  try simp
  refine h _ _ ?_ s4 (((m1.trans m2).trans m3).trans m4)
  have g4 : d4.gd 0 = true := by
    simp at hd4
    rcases hd4 with rfl | rfl | rfl | rfl | rfl <;> exact gd_word (by decide +kernel)
  simp [D.gd, gdL, g4]
theorem s_law_schedule {n : Nat} {w : Int} (hs : Src n μ) (w1 : 1 ≤ w) (w2 : w ≤ 1000000) (h : ∀ d μ', d.gd 5 = true → Src n μ' → Sm n μ μ' → q d μ') : S__law_schedule [.cell n, .int w] μ q := by
  simp [u__law_schedule, g__law_schedule]
  refine s_law_choice hs (by simp) (by simp) fun d1 hd1 μ1 s1 m1 => ?_
  obtain ⟨j, rfl, j1, j2⟩ : ∃ j : Int, d1 = .int j ∧ 0 ≤ j ∧ j ≤ 3 := by
    simp at hd1
    rcases hd1 with rfl | rfl | rfl | rfl <;> exact ⟨_, rfl, by decide, by decide⟩
  try simp
  refine ⟨sm_of (by omega) (by omega), sl_le (by rw [rgD_len]; omega), ?_⟩
  refine lc_inv (fun μ' => Src n μ' ∧ Sm n μ μ') (fun d => d.gd 3 = true) (fun d hd μ2 k1 ⟨s2, m2⟩ hk => ?_) ⟨s1, m1⟩ fun ys μ2 hl hy ⟨s2, m2⟩ => ?_
  · simp
    exact s_law_layer s2 (by omega) w2 fun d μ3 g3 s3 m3 => hk _ _ g3 ⟨s3, m2.trans m3⟩
  try simp
  refine s_law_draw s2 (by decide) (by decide) fun i3 μ3 _ _ s3 m3 => ?_
  try simp
  refine ⟨sm_of (by omega) (by omega), sl_le (by rw [rgD_len]; omega), ?_⟩
  refine lc_inv (fun μ' => Src n μ' ∧ Sm n μ μ') (fun d => d.gd 1 = true) (fun d hd μ2 k1 ⟨s2, m2⟩ hk => ?_) ⟨s3, m2.trans m3⟩ fun zs μ4 hl4 hz ⟨s4, m4⟩ => ?_
  · simp
    exact s_law_stretch s2 w1 w2 fun d μ3 g3 s3 m3 => hk _ _ g3 ⟨s3, m2.trans m3⟩
  try simp
  refine s_law_draw s4 (by decide) (by decide) fun i5 μ5 _ _ s5 m5 => ?_
  try simp
  refine ⟨sm_of (by omega) (by omega), sl_le (by rw [rgD_len]; omega), ?_⟩
  refine lc_inv (fun μ' => Src n μ' ∧ Sm n μ μ') (fun d => d.gd 1 = true) (fun d hd μ2 k1 ⟨s2, m2⟩ hk => ?_) ⟨s5, m4.trans m5⟩ fun us μ6 hl6 hu ⟨s6, m6⟩ => ?_
  · simp
    exact s_law_stretch s2 w1 w2 fun d μ3 g3 s3 m3 => hk _ _ g3 ⟨s3, m2.trans m3⟩
  try simp
  refine h _ _ ?_ s6 m6
  have a1 : gdL 3 ys = true := gdL_of hy
  have a2 : gdL 3 zs = true := gdL_of fun d hd => gd_mono (by omega) (hz d hd)
  have a3 : gdL 3 us = true := gdL_of fun d hd => gd_mono (by omega) (hu d hd)
  have l1 : ys.length ≤ 10 := by
    rw [hl, rgD_len]
    omega
  have l2 : zs.length ≤ 10 := by
    rw [hl4, rgD_len]
    omega
  have l3 : us.length ≤ 10 := by
    rw [hl6, rgD_len]
    omega
  simp [D.gd, gdL, a1, a2, a3]
  omega
end
end DL

set_option linter.all false
set_option maxRecDepth 100000
set_option maxHeartbeats 4000000
open PySem L2 DL
namespace DL
theorem six_in {n d : Nat} {i : Int} (h1 : 0 ≤ i) (h2 : i ≤ n) : HT.sIx n d (some i) = i.toNat := by
  show (if i < 0 then (i + (n : Int)).toNat else min i.toNat n) = i.toNat
  rw [if_neg (by omega)]
  omega
theorem cut_take {ds : List D} {i : Int} (h1 : 0 ≤ i) (h2 : i ≤ ds.length) : cutD ds none (some i) = ds.take i.toNat := by
  unfold cutD
  rw [six_in h1 h2]
  simp [HT.sIx]
theorem cut_drop {ds : List D} {i : Int} (h1 : 0 ≤ i) (h2 : i ≤ ds.length) : cutD ds (some i) none = ds.drop i.toNat := by
  unfold cutD
  rw [six_in h1 h2, List.take_of_length_le (by simp [HT.sIx])]
@[simp ↓] theorem o_mulT {a : List D} {k : Int} {q : D → Prop} : opMul (.tup a) (.int k) q = (a ≠ [] ∧ 2 ≤ k ∧ k ≤ 1000 ∧ a.length ≤ 1000 ∧ q (.tup (List.replicate k.toNat a).flatten)) := stp rfl
section
variable {μ : Mu} {q : D → Mu → Prop}
theorem s_law_source {ns : List Int} {k : Int} (h0 : 0 ≤ k) (hl : ns.length ≤ 63) (h : ∀ x y : Int, 0 ≤ x → 0 ≤ y → y < 2147483648 → q (.lst [.int x, .int y]) μ) : S__law_source [.ro (ns.map D.int), .int k] μ q := by
  simp [u__law_source, g__law_source]
  have em : ∀ z : Int, 0 ≤ z % 2147483646 ∧ z % 2147483646 < 2147483646 := fun z => ⟨Int.emod_nonneg _ (by decide), Int.emod_lt_of_pos _ (by decide)⟩
  have hk := em (104729 * k)
  split
  · rename_i c
    refine at_in h0 (by simpa using c) fun d hd => ?_
    obtain ⟨v, _, rfl⟩ := List.mem_map.mp hd
    have ha : 0 ≤ (if v < 0 then -v else v) := by split <;> omega
    rw [o_abs]
    generalize (if v < 0 then -v else v) = a at ha
    simp
    have h1 := em (a * 7919 + 104729 * k)
    have h2 := em (a + k)
    split
    · exact ⟨cmul_r (by decide) (by decide), cmul_l (by decide) (by decide), h _ _ (by omega) (by omega) (by omega)⟩
    · exact h _ _ ha (by omega) (by omega)
  · exact ⟨cmul_r (by decide) (by decide), cmul_l (by decide) (by decide), h _ _ (by omega) (by omega) (by omega)⟩
theorem gdL_take {n i : Nat} {ds : List D} (h : gdL n ds = true) : gdL n (ds.take i) = true := gdL_of fun d hd => gdL_mem h d (List.mem_of_mem_take hd)
theorem gdL_drop {n i : Nat} {ds : List D} (h : gdL n ds = true) : gdL n (ds.drop i) = true := gdL_of fun d hd => gdL_mem h d (List.mem_of_mem_drop hd)
theorem gdL_app {n : Nat} {a b : List D} (h : gdL n a = true) (k : gdL n b = true) : gdL n (a ++ b) = true := gdL_of fun d hd => by
  rcases List.mem_append.mp hd with hd | hd
  · exact gdL_mem h _ hd
  · exact gdL_mem k _ hd
theorem gd_mk {n : Nat} {ds : List D} (h : gdL n ds = true) (hl : ds.length ≤ 900 + n) : (D.tup ds).gd (n + 1) = true := by simp [D.gd, h, hl]
theorem s_law_changed {n : Nat} : ∀ (fuel j : Nat) {d : D} {μ : Mu} {q : D → Mu → Prop}, j + 1 ≤ fuel → j ≤ 50 → Src n μ → d.gd j = true → (∀ d μ', d.gd (j + 1) = true → Src n μ' → Sm n μ μ' → q d μ') → S__law_changed fuel [.cell n, d] μ q
  | 0, j, _, _, _, hf, _, _, _, _ => absurd hf (by omega)
  | fuel + 1, j, d, μ, q, hf, hj, hs, hg, h => by
    have ht := gd_ty hg
    have ends : ∀ (w : Option Slot) μ1, Src n μ1 → Sm n μ μ1 → S__law_choice [.cell n, .lst [.int 0, .int 1, .int 8, .int (-1), .int 167, .int 168, .int 169, .int 4999, .int 5000, .int 5001, .non, .bl true, .str "Ann", .str "", .str "a", .tup [], .tup [.int 0], .tup [.int 0, .int 0]]] μ1 q := fun w μ1 s1 m1 => by
      refine s_law_choice s1 (by simp) (by simp) fun d2 hd2 μ2 s2 m2 => h _ _ ?_ s2 (m1.trans m2)
      simp at hd2
      have e : (1000 : Nat) = 1000 := rfl
      rcases hd2 with rfl | rfl | rfl | rfl | rfl | rfl | rfl | rfl | rfl | rfl | rfl | rfl | rfl | rfl | rfl | rfl | rfl | rfl <;> first | exact gd_word (by decide +kernel) | (simp [D.gd, gdL]; done) | (simp [D.gd, gdL]; omega)
    simp [u__law_changed, g__law_changed]
    refine s_law_draw hs (by decide) (by decide) fun i μ1 i1 i2 s1 m1 => ?_
    simp [e_isi_tup ht]
    by_cases c0 : isTup d = true
    · obtain ⟨xs, rfl⟩ := isTup_at c0
      obtain ⟨m, rfl, g⟩ := gd_tup hg
      have hl := (gd_len hg).1
      rw [if_pos c0, ne_nilT (gdL_okL (by omega) g)]
      simp
      cases xs with
      | nil =>
        simp
        exact ends none _ s1 m1
      | cons x0 xr =>
        simp
        by_cases c1 : 0 < i
        · simp [c1]
          refine s_law_draw s1 (by omega) (by simp at hl; omega) fun k μ2 k1 k2 s2 m2 => ?_
          rw [show ((xr.length : Int) + 1) = ((x0 :: xr).length : Int) by simp] at k2
          generalize x0 :: xr = ds at *
          have m3 := m1.trans m2
          have e1 : cutD ds none (some k) = ds.take k.toNat := cut_take k1 (by omega)
          have e2 : cutD ds none (some (k + 1)) = ds.take (k + 1).toNat := cut_take (by omega) (by omega)
          have e3 : cutD ds (some k) none = ds.drop k.toNat := cut_drop k1 (by omega)
          have e4 : cutD ds (some (k + 1)) none = ds.drop (k + 1).toNat := cut_drop (by omega) (by omega)
          have b1 : ∀ z w, (ds.take z).length + 1 + (ds.drop w).length ≤ sizeLine := fun z w => sl_le (by
            simp only [List.length_take, List.length_drop]
            omega)
          have b2 : ∀ z w, (ds.take z).length + (ds.drop w).length ≤ sizeLine := fun z w => Nat.le_trans (by omega) (b1 z w)
          have g' : gdL (m + 1) ds = true := gdL_mono (by omega) g
          split
          · simp only [x_intD, o_add, e1, e4]
            refine ⟨b2 _ _, h _ _ (gd_mk (gdL_app (gdL_take g') (gdL_drop g')) ?_) s2 m3⟩
            simp
            omega
          split
          · simp only [x_intD, o_add, e2, e3]
            refine ⟨b2 _ _, h _ _ (gd_mk (gdL_app (gdL_take g') (gdL_drop g')) ?_) s2 m3⟩
            simp
            omega
          split
          · refine h _ _ ?_ s2 m3
            simp [D.gd, g']
            omega
          · rw [x_intD, o_ixT]
            refine at_in k1 k2 fun d hd => ?_
            refine s_law_changed fuel m (by omega) (by omega) s2 (gdL_mem g _ hd) fun d' μ4 g4 s4 m4 => ?_
            simp only [x_intD, o_add, e1, e4]
            refine ⟨Nat.le_trans (by omega) (b1 k.toNat 0), b1 _ _, h _ _ (gd_mk (gdL_app (gdL_take g') ?_) ?_) s4 (m3.trans m4)⟩
            · simp only [gdL, Bool.and_eq_true]
              exact ⟨g4, gdL_drop g'⟩
            · simp
              omega
        · simp [c1]
          exact ends none _ s1 m1
    · rw [if_neg c0]
      exact ends none _ s1 m1
theorem rg_int {n : Nat} {d : D} (h : d ∈ rgD 0 n) : ∃ i : Int, d = .int i ∧ 0 ≤ i ∧ i < n := by
  obtain ⟨i, hi, rfl⟩ := List.mem_map.mp h
  refine ⟨_, rfl, by omega, ?_⟩
  have := List.mem_range.mp hi
  omega
theorem law_loop {ns : List Int} (hl : ns.length ≤ 63) {ws : List D} (gw : gdL 9 ws = true) (lw : ws.length ≤ 100) {n : Nat} {a b : Option Slot} :
    forL (gtName 2)
      (sSeq (sSetC 5 (eCall S__law_source (aCons (eVar 0) (aCons (eVar 2) aNil))))
        (sSeq (sSet 6 (eCall S__law_schedule (aCons (eVar 5) (aCons (eCall S__law_choice (aCons (eVar 5) (aCons (eLst (aCons (eC (D.int 40)) (aCons (eC (D.int 900)) (aCons (eC (D.int 4000)) aNil)))) aNil))) aNil))))
          (sFor (iR1 (eC (D.int 4))) (gtName 7)
            (sSeq (sSet 8 (eCall S_is_schedule (aCons (eVar 6) aNil)))
              (sSeq (sIf (tOrF (tNotF (tst (e1 (cIsi "bool") (eVar 8)))) (tst (eBin opNe (eVar 8) (eCall S__law_good (aCons (eVar 6) aNil))))) (sRet (eC (D.bl false))) sNext)
                (sSet 6 (eCall (S__law_changed 10) (aCons (eVar 5) (aCons (eVar 6) aNil)))))))))
      { nx := sRet (eBin opEq (eLc (iSeqD (eVar 1)) (gtName 6) (tst (eBin opNe (eCall S_is_schedule (aCons (eVar 6) aNil)) (eCall S__law_good (aCons (eVar 6) aNil)))) (eVar 6) [6]) (eLst aNil)) { nx := fun x μ1 => False, rt := fun d x => d = D.bl true },
        rt := fun d x => d = D.bl true }
      (rgD 0 n) [some (Slot.dat (D.ro (List.map D.int ns))), some (Slot.dat (D.lst ws)), none, a, b, none, none, none, none] [] := by
  refine for_inv (fun pre ρ μ => ∃ k s v t f, ρ = [some (Slot.dat (D.ro (List.map D.int ns))), some (Slot.dat (D.lst ws)), k, a, b, s, v, t, f]) (pre := []) ?_ ?_ ?_
  · rintro pre d post ρ μ kk e ⟨k, s, v, t, f, rfl⟩ hk
    obtain ⟨i, rfl, i1, i2⟩ := rg_int (n := n) (d := d) (by rw [show rgD 0 n = pre ++ d :: post by simpa using e.symm]; simp)
    try simp
    refine s_law_source i1 hl fun x y x1 y1 y2 => ?_
    simp
    have hs : Src μ.length (μ ++ [.lst [.int x, .int y]]) := ⟨x, y, by simp, x1, y1, y2⟩
    generalize μ ++ [.lst [.int x, .int y]] = μ1 at *
    refine s_law_choice hs (by simp) (by simp) fun d2 hd2 μ2 s2 m2 => ?_
    obtain ⟨j, rfl, j1, j2⟩ : ∃ j : Int, d2 = .int j ∧ 1 ≤ j ∧ j ≤ 1000000 := by
      simp at hd2
      rcases hd2 with rfl | rfl | rfl <;> exact ⟨_, rfl, by decide, by decide⟩
    try simp
    refine s_law_schedule s2 j1 j2 fun d3 μ3 g3 s3 m3 => ?_
    try simp
    refine ⟨sm_of (by decide) (by decide), ?_⟩
    refine for_inv (fun pre ρ μ' => ∃ v t f, ρ = [some (Slot.dat (D.ro (List.map D.int ns))), some (Slot.dat (D.lst ws)), some (.dat (.int i)), a, b, some (.dat (.cell μ.length)), some (.dat v), t, f] ∧ v.gd (5 + pre.length) = true ∧ Src μ.length μ') (pre := []) ?_ ?_ ?_
    · rintro pre d post ρ μ4 kk e ⟨v, t, f, rfl, gv, s4⟩ hk
      have hp : pre.length ≤ 3 := by
        have := congrArg List.length e
        simp [rgD_len] at this
        omega
      simp
      refine s_is_schedule gv ?_
      simp [cIsi, tyN, isTy]
      refine s_law_good gv (by omega) ?_
      simp
      refine s_law_changed 10 (5 + pre.length) (by omega) (by omega) s4 gv fun d5 μ5 g5 s5 m5 => ?_
      exact hk _ _ ⟨_, _, _, rfl, by simpa [Nat.add_assoc] using g5, s5⟩
    · exact ⟨_, _, _, rfl, by simpa using g3, s3⟩
    · rintro ρ μ4 ⟨v, t, f, rfl, gv, s4⟩
      exact hk _ _ ⟨_, _, _, _, _, rfl⟩
  · exact ⟨_, _, _, _, _, rfl⟩
  · rintro ρ μ ⟨k, s, v, t, f, rfl⟩
    simp
    refine ⟨sl_le (by omega), ?_⟩
    refine lc_pure (fun d => false) (fun d => d) (fun d hd k1 k2 hk => ?_) ?_
    · simp
      refine s_is_schedule (gdL_mem gw _ hd) ?_
      try simp
      refine s_law_good (gdL_mem gw _ hd) (by omega) ?_
      simpa using hk
    · have e : ws.filter (fun _ => false) = [] := List.filter_eq_nil_iff.mpr (by simp)
      simp [e]
      rw [eq_nil (by simp [okL])]
      rfl
theorem law_holds {ns : List Int} (hl : ns.length ≤ 63) : S_law [.ro (ns.map D.int)] [] fun d _ => d = .bl true := by
  simp [u_law, g_law]
  refine ⟨sm_of (by unfold zMin; omega) (by unfold zMin; omega), ?_⟩
  refine law_loop hl ?_ (by simp)
  decide +kernel
end
end DL

open PySem PySem.W PySem.Calls PyProof.Rows
set_option maxHeartbeats 0 in
theorem PySem.Challenge.cw_dutylayers_k01_schedules_recognized_holds : PySem.Challenge.rw_dutylayers_k01_schedules_recognized.Holds := by
  w_on; o_law
  refine HandSHeadRun.head_any (r := OpenLaw.row PySem.Challenge.rw_dutylayers_k01_schedules_recognized) (q := view (OpenLaw.row PySem.Challenge.rw_dutylayers_k01_schedules_recognized).prog [30]) (H := DLW.hk) (ob := DLW.ob) (M := 4000) (loose := DLW.loose) (d := HandSHeadRun.topDef (OpenLaw.row PySem.Challenge.rw_dutylayers_k01_schedules_recognized).prog 30) (kwd := []) DLW.ob_eq
    (by kernel_rfl) (fun s => by kernel_rfl) DLW.run (by kernel_rfl) (by kernel_rfl) (by kernel_rfl) (by rfl) (by first | assumption | decide +kernel) (by decide +kernel) ⟨rfl, rfl, rfl, rfl, rfl, by decide +kernel⟩ ?hw ?hc
  case hw => w_witness2
  case hc =>
    refine DL.law_end (l := PySem.Challenge.rw_dutylayers_k01_schedules_recognized) (k := 14) (F := S_law) rfl (by kernel_rfl) ⟨rfl, by decide, by decide⟩ (fun w mg fa h Y G hmg0 => ?_) (fun ns hl => DL.law_holds hl)
    obtain ⟨K, KX, c⟩ := Y
    have hmg : mg ("law" : PySem.Str) = some (.ref fa) := by
      have e : (HandSHeadRun.topDef (OpenLaw.row PySem.Challenge.rw_dutylayers_k01_schedules_recognized).prog 30).name = ("law" : PySem.Str) := by kernel_rfl
      rw [← e]
      exact hmg0
    obtain ⟨fd, hb, hF⟩ := DLW.facts (P := (PySem.Challenge.rw_dutylayers_k01_schedules_recognized).prog) (w := w) KX G hmg c
    exact ⟨K, fd, KX, hb, hF⟩

