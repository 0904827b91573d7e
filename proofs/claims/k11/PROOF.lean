import PyProof.Rows.All
import Wide.All
import OpenK.AllK
import Wide.FinOn
import HandS.ForMost
import HandS.ForExc
import HandS.Wide
import HandS.SortInts
import HandS.More
import HandS.Defaults
import KE.KStateDown
import HandS.Head0
import HandS.Head1
import HandS.Head2
import HandS.HeadEnd
import HandS.HeadHook1
import HandS.HeadHook2
import PySem.Challenge.RW_firsthit_k11_boxes_around
section
set_option Elab.async false
set_option linter.all false
set_option maxRecDepth 100000
set_option autoImplicit false
/-! DL: a layer of plain data over the layer of readings: an expression is a function of the slots' data. -/
namespace DL
open PySem PySem.Spec PyProof.Rows L2

abbrev St := L2.St
/-! ### data -/
inductive Dt where
  | non | bl (b : Bool) | int (i : Int) | str (x : Str)
  | tup (xs : List Dt) | lst (xs : List Dt) | frl (xs : List Dt)
  | ins (c : Str) (ks : List Str) (xs : List Dt)
/-- what a slot holds: nothing that is known, data, a list of one's own, an instance of one's own -/
inductive Lc where
  | u | d (x : Dt) | o (xs : List Dt) | i (c : Str) (ks : List Str) (xs : List Dt)
abbrev Ev := List Lc
/-- an outcome: not served, an exception, a value -/
inductive Rz (ε α : Type) where
  | bad | ex (e : ε) | ok (a : α)
def Rz.bind {ε α β : Type} (x : Rz ε α) (f : α → Rz ε β) : Rz ε β := match x with
  | .bad => .bad | .ex e => .ex e | .ok a => f a
def Rz.ofO {ε α : Type} : Option α → Rz ε α
  | none => .bad | some a => .ok a
abbrev Fn := Ev → Rz Str Dt
theorem Rz.bind_ok {ε α β : Type} (a : α) (f : α → Rz ε β) : (Rz.ok a).bind f = f a := rfl

/-! ### heaps -/
abbrev Mg := Str → Option Value
abbrev Pv := Addr → Prop
/-- all but the tables of code objects, and but what is in M, stays -/
def Xt (M : Pv) (H H' : Hp) : Prop := ∀ b o, H b = some o → (∀ ps, o ≠ .tbl ps) → ¬ M b → H' b = some o
abbrev no : Pv := fun _ => False
abbrev Ext (H H' : Hp) : Prop := Xt no H H'
section
variable {M : Pv} {H H1 H2 : Hp} {p : Addr} {o : HO}
theorem Xt.refl : Xt M H H := fun _ _ h _ _ => h
theorem Xt.trans (a : Xt M H H1) (b : Xt M H1 H2) : Xt M H H2 := fun c u h n m => b c u (a c u h n m) n m
theorem Ext.refl : Ext H H := fun _ _ h _ _ => h
/-- nothing stands there, or a table of code objects -/
def Fresh (H : Hp) (p : Addr) : Prop := ∀ o, H p = some o → ∃ ps, o = .tbl ps
theorem Fresh.of (h : H p = none) : Fresh H p := fun o q => by rw [h] at q; cases q
theorem Fresh.ne (h : Fresh H p) {b : Addr} {u : HO} (q : H b = some u) (n : ∀ ps, u ≠ .tbl ps) : b ≠ p := fun e => by
  rw [e] at q
  obtain ⟨ps, z⟩ := h u q
  exact n ps z
theorem Ext.new' (hp : Fresh H p) : Ext H (upd H p o) := fun b u h n _ => by rw [upd_ne (hp.ne h n)]; exact h
theorem Ext.new (hp : H p = none) : Ext H (upd H p o) := Ext.new' (.of hp)
theorem Ext.to (a : Ext H H1) : Xt M H H1 := fun c u h n _ => a c u h n fun z => z
theorem Xt.fresh (a : Xt M H H1) (hp : Fresh H1 p) (hm : ¬ M p) : Fresh H p := fun o q => by
  cases o with
  | tbl ps => exact ⟨ps, rfl⟩
  | _ => exact hp _ (a p _ q (fun _ z => nomatch z) hm)
theorem Ext.fresh (a : Ext H H1) (hp : Fresh H1 p) : Fresh H p := Xt.fresh a hp fun z => z
theorem Ext.at_ (a : Ext H H1) {b : Addr} {u : HO} (h : H b = some u) (n : ∀ ps, u ≠ .tbl ps) : H1 b = some u := a b u h n fun z => z
end
theorem nt_lst {xs : List V} : ∀ ps, HO.lst xs ≠ .tbl ps := fun _ z => nomatch z
theorem nt_tup {xs : List V} : ∀ ps, HO.tup xs ≠ .tbl ps := fun _ z => nomatch z
theorem nt_frz {a : Obj} {u : HO} : ∀ ps, HO.frz a u ≠ .tbl ps := fun _ z => nomatch z
theorem nt_ins {C dx : Addr} {fs : List (Str × V)} : ∀ ps, HO.ins C dx fs ≠ .tbl ps := fun _ z => nomatch z
theorem Ext.rdT {H H1 : Hp} (a : Ext H H1) {b : Addr} {xs : List V} (h : Rd H b (.tup xs)) : Rd H1 b (.tup xs) := by
  rcases h with h | ⟨o, h⟩
  · exact .inl (a.at_ h nt_tup)
  · exact .inr ⟨o, a.at_ h nt_frz⟩
theorem Ext.rdL {H H1 : Hp} (a : Ext H H1) {b : Addr} {xs : List V} (h : Rd H b (.lst xs)) : Rd H1 b (.lst xs) := by
  rcases h with h | ⟨o, h⟩
  · exact .inl (a.at_ h nt_lst)
  · exact .inr ⟨o, a.at_ h nt_frz⟩
theorem Ext.sqT {K : PySem.W.Frag} {H H1 : Hp} (a : Ext H H1) {b : Addr} {xs : List V} (h : SqT K H b xs) : SqT K H1 b xs := by
  rcases h with h | h
  · exact .inl (a.rdT h)
  · exact .inr h
theorem Ext.sqL {K : PySem.W.Frag} {H H1 : Hp} (a : Ext H H1) {b : Addr} {xs : List V} (h : SqL K H b xs) : SqL K H1 b xs := by
  rcases h with h | h
  · exact .inl (a.rdL h)
  · exact .inr h

/-! ### how data is borne -/
/-- a list that is not written here: another's, frozen, or of the written part -/
def SqF (K : PySem.W.Frag) (H : Hp) (P : Pv) (a : Addr) (xs : List V) : Prop := (H a = some (.lst xs) ∧ ¬ P a) ∨ (∃ o, H a = some (.frz o (.lst xs))) ∨
  ∃ (o : Obj) (its : Array Value) (n : Nat), K.lookup a = some o ∧ o.cls = .type "list" ∧ o.dict = none ∧ o.data = .seq its n ∧ its.size ≤ sizeLine ∧ Vals xs its.toList
theorem SqF.sq {K : PySem.W.Frag} {H : Hp} {P : Pv} {a : Addr} {xs : List V} (h : SqF K H P a xs) : SqL K H a xs := by
  rcases h with h | h | h
  · exact .inl (.inl h.1)
  · exact .inl (.inr h)
  · exact .inr h
theorem SqF.of {K : PySem.W.Frag} {H : Hp} {a : Addr} {xs : List V} (h : SqL K H a xs) : SqF K H no a xs := by
  rcases h with (h | h) | h
  · exact .inl ⟨h, fun z => z⟩
  · exact .inr (.inl h)
  · exact .inr (.inr h)
mutual
def Rep (K : PySem.W.Frag) (mg : Mg) (H : Hp) (P : Pv) : Dt → V → Prop
  | .non, v => v = .non
  | .bl b, v => v = .bl b
  | .int i, v => v = .int i
  | .str x, v => v = .str x
  | .tup ds, v => ∃ a vs, v = .ref a ∧ SqT K H a vs ∧ Reps K mg H P ds vs
  | .lst ds, v => ∃ a vs, v = .ref a ∧ H a = some (.lst vs) ∧ ¬ P a ∧ Reps K mg H P ds vs
  | .frl ds, v => ∃ a vs, v = .ref a ∧ SqF K H P a vs ∧ Reps K mg H P ds vs
  | .ins c ks ds, v => ∃ a C dx vs, v = .ref a ∧ mg c = some (.ref C) ∧ H a = some (.ins C dx (ks.zip vs)) ∧ ¬ P a ∧ ks.length = vs.length ∧ Reps K mg H P ds vs
def Reps (K : PySem.W.Frag) (mg : Mg) (H : Hp) (P : Pv) : List Dt → List V → Prop
  | [], vs => vs = []
  | d :: ds, vs => ∃ v r, vs = v :: r ∧ Rep K mg H P d v ∧ Reps K mg H P ds r
end
/-- the same, but the thing itself may be a private one -/
def RepB (K : PySem.W.Frag) (mg : Mg) (H : Hp) (P : Pv) (d : Dt) (v : V) : Prop := match d with
  | .lst ds => ∃ a vs, v = .ref a ∧ H a = some (.lst vs) ∧ Reps K mg H P ds vs
  | .ins c ks ds => ∃ a C dx vs, v = .ref a ∧ mg c = some (.ref C) ∧ H a = some (.ins C dx (ks.zip vs)) ∧ ks.length = vs.length ∧ Reps K mg H P ds vs
  | d => Rep K mg H P d v
section
variable {K : PySem.W.Frag} {mg : Mg} {H H' : Hp} {P P' : Pv}
/-- from one heap to another: what is not private stays -/
structure Tr (P P' : Pv) (H H' : Hp) : Prop where
  keep : ∀ b o, H b = some o → (∀ ps, o ≠ .tbl ps) → ¬ P b → H' b = some o
  frz : ∀ b o u, H b = some (.frz o u) → H' b = some (.frz o u)
  tup : ∀ b xs, H b = some (.tup xs) → H' b = some (.tup xs)
  pv : ∀ b o, H b = some o → (∀ ps, o ≠ .tbl ps) → ¬ P b → ¬ P' b
theorem Tr.sqT (t : Tr P P' H H') {a : Addr} {xs : List V} (h : SqT K H a xs) : SqT K H' a xs := by
  rcases h with (h | ⟨o, h⟩) | h
  · exact .inl (.inl (t.tup _ _ h))
  · exact .inl (.inr ⟨o, t.frz _ _ _ h⟩)
  · exact .inr h
theorem Tr.sqF (t : Tr P P' H H') {a : Addr} {xs : List V} (h : SqF K H P a xs) : SqF K H' P' a xs := by
  rcases h with ⟨h, n⟩ | ⟨o, h⟩ | h
  · exact .inl ⟨t.keep _ _ h nt_lst n, t.pv _ _ h nt_lst n⟩
  · exact .inr (.inl ⟨o, t.frz _ _ _ h⟩)
  · exact .inr (.inr h)
mutual
theorem Rep.tr (t : Tr P P' H H') : ∀ (d : Dt) (v : V), Rep K mg H P d v → Rep K mg H' P' d v
  | .non, _, h => h
  | .bl _, _, h => h
  | .int _, _, h => h
  | .str _, _, h => h
  | .tup ds, _, ⟨a, vs, e, h1, h2⟩ => ⟨a, vs, e, t.sqT h1, Reps.tr t ds vs h2⟩
  | .lst ds, _, ⟨a, vs, e, h1, n, h2⟩ => ⟨a, vs, e, t.keep _ _ h1 nt_lst n, t.pv _ _ h1 nt_lst n, Reps.tr t ds vs h2⟩
  | .frl ds, _, ⟨a, vs, e, h1, h2⟩ => ⟨a, vs, e, t.sqF h1, Reps.tr t ds vs h2⟩
  | .ins c ks ds, _, ⟨a, C, dx, vs, e, h1, h2, n, l, h3⟩ => ⟨a, C, dx, vs, e, h1, t.keep _ _ h2 nt_ins n, t.pv _ _ h2 nt_ins n, l, Reps.tr t ds vs h3⟩
theorem Reps.tr (t : Tr P P' H H') : ∀ (ds : List Dt) (vs : List V), Reps K mg H P ds vs → Reps K mg H' P' ds vs
  | [], _, h => h
  | d :: ds, _, ⟨v, r, e, h1, h2⟩ => ⟨v, r, e, Rep.tr t d v h1, Reps.tr t ds r h2⟩
end
theorem Tr.of (e : Ext H H') : Tr P P H H' := ⟨fun b o h n _ => e b o h n fun z => z, fun _ _ _ h => e.at_ h nt_frz, fun _ _ h => e.at_ h nt_tup, fun _ _ _ _ n => n⟩
/-- fewer private things -/
theorem Tr.less (h : ∀ a, P' a → P a) : Tr P P' H H := ⟨fun _ _ h _ _ => h, fun _ _ _ h => h, fun _ _ h => h, fun _ _ _ _ n z => n (h _ z)⟩
/-- one more, new -/
def more (P : Pv) (p : Addr) : Pv := fun a => P a ∨ a = p
theorem Tr.more {p : Addr} (h : Fresh H p) : Tr P (more P p) H H := ⟨fun _ _ h _ _ => h, fun _ _ _ h => h, fun _ _ h => h, fun b o q t n z => z.elim n fun e => h.ne q t e⟩
/-- a private thing is written -/
theorem Tr.write {p : Addr} {o : HO} (hp : P p) (hn : (∃ xs, H p = some (.lst xs)) ∨ ∃ C dx fs, H p = some (.ins C dx fs)) : Tr P P H (upd H p o) := by
  refine ⟨fun b u h _ n => by rw [upd_ne (fun e => n (by rw [e]; exact hp))]; exact h, fun b u w h => ?_, fun b xs h => ?_, fun _ _ _ _ n => n⟩
  · rw [upd_ne (fun e => ?_)]; exact h
    subst e
    rcases hn with ⟨xs, z⟩ | ⟨_, _, _, z⟩ <;> (rw [h] at z; cases z)
  · rw [upd_ne (fun e => ?_)]; exact h
    subst e
    rcases hn with ⟨xs, z⟩ | ⟨_, _, _, z⟩ <;> (rw [h] at z; cases z)
theorem Rep.ext (e : Ext H H') {d : Dt} {v : V} (h : Rep K mg H P d v) : Rep K mg H' P d v := Rep.tr (Tr.of e) d v h
theorem Reps.ext (e : Ext H H') {ds : List Dt} {vs : List V} (h : Reps K mg H P ds vs) : Reps K mg H' P ds vs := Reps.tr (Tr.of e) ds vs h
theorem Rep.toB {d : Dt} {v : V} (h : Rep K mg H P d v) : RepB K mg H P d v := by
  cases d with
  | lst ds => obtain ⟨a, vs, e, h1, n, h2⟩ := h; exact ⟨a, vs, e, h1, h2⟩
  | ins c ks ds => obtain ⟨a, C, dx, vs, e, h1, h2, n, l, h3⟩ := h; exact ⟨a, C, dx, vs, e, h1, h2, l, h3⟩
  | _ => exact h
theorem RepB.ext (e : Ext H H') {d : Dt} {v : V} (h : RepB K mg H P d v) : RepB K mg H' P d v := by
  cases d with
  | lst ds => obtain ⟨a, vs, q, h1, h2⟩ := h; exact ⟨a, vs, q, e.at_ h1 nt_lst, h2.ext e⟩
  | ins c ks ds => obtain ⟨a, C, dx, vs, q, h1, h2, l, h3⟩ := h; exact ⟨a, C, dx, vs, q, h1, e.at_ h2 nt_ins, l, h3.ext e⟩
  | _ => exact Rep.ext e h
theorem Reps.length : ∀ {ds : List Dt} {vs : List V}, Reps K mg H P ds vs → ds.length = vs.length
  | [], _, h => by rw [show _ = [] from h]; rfl
  | d :: ds, _, ⟨v, r, e, _, h2⟩ => by rw [e, List.length_cons, List.length_cons, Reps.length h2]
theorem Reps.get : ∀ {ds : List Dt} {vs : List V} {i : Nat} {d : Dt}, Reps K mg H P ds vs → ds[i]? = some d → ∃ v, vs[i]? = some v ∧ Rep K mg H P d v
  | [], _, _, _, _, e => by simp at e
  | d :: ds, _, 0, x, ⟨v, r, e, h1, _⟩, q => by simp at q; subst q; subst e; exact ⟨v, rfl, h1⟩
  | d :: ds, _, i + 1, x, ⟨v, r, e, _, h2⟩, q => by subst e; obtain ⟨w, h3, h4⟩ := Reps.get (i := i) h2 (by simpa using q); exact ⟨w, by simpa using h3, h4⟩
theorem Reps.gone : ∀ {ds : List Dt} {vs : List V} {i : Nat}, Reps K mg H P ds vs → ds[i]? = none → vs[i]? = none := fun h e => by
  rw [List.getElem?_eq_none_iff] at e ⊢
  rw [← h.length]; exact e
theorem Reps.append : ∀ {ds es : List Dt} {vs ws : List V}, Reps K mg H P ds vs → Reps K mg H P es ws → Reps K mg H P (ds ++ es) (vs ++ ws)
  | [], _, _, _, h, q => by rw [show _ = [] from h]; exact q
  | d :: ds, _, _, _, ⟨v, r, e, h1, h2⟩, q => by subst e; exact ⟨v, _, rfl, h1, Reps.append h2 q⟩
theorem Reps.one {d : Dt} {v : V} (h : Rep K mg H P d v) : Reps K mg H P [d] [v] := ⟨v, [], rfl, h, rfl⟩
theorem Reps.take : ∀ (n : Nat) {ds : List Dt} {vs : List V}, Reps K mg H P ds vs → Reps K mg H P (ds.take n) (vs.take n)
  | 0, _, _, _ => by rw [List.take_zero, List.take_zero]; rfl
  | n + 1, [], _, h => by rw [show _ = [] from h]; rfl
  | n + 1, d :: ds, _, ⟨v, r, e, h1, h2⟩ => by subst e; exact ⟨v, _, rfl, h1, Reps.take n h2⟩
theorem Reps.drop : ∀ (n : Nat) {ds : List Dt} {vs : List V}, Reps K mg H P ds vs → Reps K mg H P (ds.drop n) (vs.drop n)
  | 0, _, _, h => h
  | n + 1, [], _, h => by rw [show _ = [] from h]; rfl
  | n + 1, d :: ds, _, ⟨v, r, e, h1, h2⟩ => by subst e; exact Reps.drop n h2
theorem Reps.set : ∀ {ds : List Dt} {vs : List V} {d : Dt} {v : V} (i : Nat), Reps K mg H P ds vs → Rep K mg H P d v → Reps K mg H P (ds.set i d) (vs.set i v)
  | [], _, _, _, _, h, _ => by rw [show _ = [] from h]; rfl
  | _ :: _, _, _, _, 0, ⟨v, r, e, _, h2⟩, q => by subst e; exact ⟨_, _, rfl, q, h2⟩
  | _ :: _, _, _, _, i + 1, ⟨v, r, e, h1, h2⟩, q => by subst e; exact ⟨_, _, rfl, h1, Reps.set i h2 q⟩
theorem Reps.mk : ∀ {ds : List Dt} {vs : List V}, ds.length = vs.length → (∀ (i : Nat) (d : Dt) (v : V), ds[i]? = some d → vs[i]? = some v → Rep K mg H P d v) → Reps K mg H P ds vs
  | [], [], _, _ => rfl
  | d :: ds, v :: vs, l, h => ⟨v, vs, rfl, h 0 d v rfl rfl, Reps.mk (by simpa using l) fun i d v a b => h (i + 1) d v (by simpa using a) (by simpa using b)⟩
  | [], _ :: _, l, _ => by simp at l
  | _ :: _, [], l, _ => by simp at l
theorem Reps.mem {ds : List Dt} {vs : List V} (h : Reps K mg H P ds vs) {v : V} (hv : v ∈ vs) : ∃ d ∈ ds, Rep K mg H P d v := by
  obtain ⟨i, hi⟩ := List.mem_iff_getElem?.mp hv
  cases e : ds[i]? with
  | none => rw [Reps.gone h e] at hi; cases hi
  | some d => obtain ⟨w, h1, h2⟩ := Reps.get h e; rw [h1] at hi; cases hi; exact ⟨d, List.mem_of_getElem? e, h2⟩
theorem Reps.ints : ∀ {ns : List Int} {vs : List V}, Reps K mg H P (ns.map Dt.int) vs → vs = ns.map V.int
  | [], _, h => h
  | n :: ns, _, ⟨v, r, e, h1, h2⟩ => by subst e; rw [show v = _ from h1, Reps.ints h2]; rfl
theorem Reps.ofInts : ∀ (ns : List Int), Reps K mg H P (ns.map Dt.int) (ns.map V.int)
  | [] => rfl
  | n :: ns => ⟨_, _, rfl, rfl, Reps.ofInts ns⟩
theorem Reps.bls : ∀ {ns : List Bool} {vs : List V}, Reps K mg H P (ns.map Dt.bl) vs → vs = ns.map V.bl
  | [], _, h => h
  | n :: ns, _, ⟨v, r, e, h1, h2⟩ => by subst e; rw [show v = _ from h1, Reps.bls h2]; rfl
end

/-! ### slots -/
def SlotOk (K : PySem.W.Frag) (mg : Mg) (H : Hp) (P : Pv) (l : Lc) (x : Option V) : Prop := match l with
  | .u => True
  | .d d => ∃ v, x = some v ∧ Rep K mg H P d v
  | .o ds => ∃ a vs, x = some (.ref a) ∧ P a ∧ H a = some (.lst vs) ∧ Reps K mg H P ds vs
  | .i c ks ds => ∃ a C dx vs, x = some (.ref a) ∧ P a ∧ mg c = some (.ref C) ∧ H a = some (.ins C dx (ks.zip vs)) ∧ ks.length = vs.length ∧ Reps K mg H P ds vs
/-- the slots' data, P: what is private here and around -/
structure EOk (K : PySem.W.Frag) (mg : Mg) (P : Pv) (σ : St) (H : Hp) (ε : Ev) : Prop where
  ln : ε.length = σ.length
  tk : ∀ a, P a → ∃ o, H a = some o ∧ ∀ ps, o ≠ .tbl ps
  sl : ∀ (i : Nat) (l : Lc), ε[i]? = some l → SlotOk K mg H P l (σ[i]?.join)
section
variable {K : PySem.W.Frag} {mg : Mg} {P P' : Pv} {σ : St} {H H' : Hp} {ε : Ev}
theorem SlotOk.ext (e : Ext H H') {l : Lc} {x : Option V} (h : SlotOk K mg H P l x) : SlotOk K mg H' P l x := by
  cases l with
  | u => trivial
  | d d => obtain ⟨v, q, r⟩ := h; exact ⟨v, q, r.ext e⟩
  | o ds => obtain ⟨a, vs, q, p, h1, r⟩ := h; exact ⟨a, vs, q, p, e.at_ h1 nt_lst, r.ext e⟩
  | i c ks ds => obtain ⟨a, C, dx, vs, q, p, h1, h2, l, r⟩ := h; exact ⟨a, C, dx, vs, q, p, h1, e.at_ h2 nt_ins, l, r.ext e⟩
theorem SlotOk.more {p : Addr} (hp : Fresh H p) {l : Lc} {x : Option V} (h : SlotOk K mg H P l x) : SlotOk K mg H (more P p) l x := by
  cases l with
  | u => trivial
  | d d => obtain ⟨v, q, r⟩ := h; exact ⟨v, q, Rep.tr (Tr.more hp) _ _ r⟩
  | o ds => obtain ⟨a, vs, q, h0, h1, r⟩ := h; exact ⟨a, vs, q, .inl h0, h1, Reps.tr (Tr.more hp) _ _ r⟩
  | i c ks ds => obtain ⟨a, C, dx, vs, q, h0, h1, h2, l, r⟩ := h; exact ⟨a, C, dx, vs, q, .inl h0, h1, h2, l, Reps.tr (Tr.more hp) _ _ r⟩
theorem EOk.ext (E : EOk K mg P σ H ε) (e : Ext H H') : EOk K mg P σ H' ε :=
  ⟨E.ln, fun a h => let ⟨o, q, n⟩ := E.tk a h; ⟨o, e.at_ q n, n⟩, fun i l h => (E.sl i l h).ext e⟩
theorem EOk.ne (E : EOk K mg P σ H ε) {p : Addr} (hp : Fresh H p) : ¬ P p := fun z => by
  obtain ⟨o, q, n⟩ := E.tk p z
  exact hp.ne q n rfl
/-- a new private thing -/
theorem EOk.new (E : EOk K mg P σ H ε) {p : Addr} {o : HO} (hp : Fresh H p) (ho : ∀ ps, o ≠ .tbl ps) : EOk K mg (more P p) σ (upd H p o) ε :=
  ⟨E.ln, fun a h => h.elim (fun h => let ⟨u, q, n⟩ := E.tk a h; ⟨u, (Ext.new' hp).at_ q n, n⟩) fun h => ⟨o, by rw [h, upd_same], ho⟩, fun i l h => ((E.sl i l h).more hp).ext (Ext.new' hp)⟩
end

/-! ### readings: a function of the slots' data -/
/-- what is wanted of an outcome -/
def Out (X : Cx) (W : WX) (σ : St) (H : Hp) {α : Type} (r : Rz Str α) (k : α → Prop) : Prop := match r with
  | .bad => False
  | .ex c => ∃ C, X.mg c = some (.ref C) ∧ ∀ H', Ext H H' → W (.ref C) none σ H'
  | .ok a => k a
section
variable {X : Cx} {W : WX} {σ : St} {H H1 : Hp} {α β : Type}
theorem Out.mono {r : Rz Str α} {k k' : α → Prop} (h : Out X W σ H r k) (i : ∀ a, k a → k' a) : Out X W σ H r k' := by
  cases r with
  | bad => exact h
  | ex c => exact h
  | ok a => exact i a h
theorem Out.ext {r : Rz Str α} {k : α → Prop} (h : Out X W σ H r k) (e : Ext H H1) : Out X W σ H1 r k := by
  cases r with
  | bad => exact h
  | ex c => obtain ⟨C, h1, h2⟩ := h; exact ⟨C, h1, fun H' x => h2 H' (e.trans x)⟩
  | ok a => exact h
theorem Out.bind {r : Rz Str α} {f : α → Rz Str β} {k : β → Prop} (h : Out X W σ H (r.bind f) k) : Out X W σ H r fun a => Out X W σ H (f a) k := by
  cases r with
  | bad => exact h
  | ex c => exact h
  | ok a => exact h
theorem Out.ofO {o : Option α} {k : α → Prop} (h : Out X W σ H (.ofO o) k) : ∃ a, o = some a ∧ k a := by
  cases o with
  | none => exact h.elim
  | some a => exact ⟨a, rfl, h⟩
end
section
variable (X : Cx) (W : WX)
def tD (f : Fn) : TE := fun σ H Q => ∃ P ε, EOk X.K X.mg P σ H ε ∧ Out X W σ H (f ε) fun d => ∀ v H', Ext H H' → Rep X.K X.mg H' P d v → Q v H'
def tB (f : Fn) : TE := fun σ H Q => ∃ P ε, EOk X.K X.mg P σ H ε ∧ Out X W σ H (f ε) fun d => ∀ v H', Ext H H' → RepB X.K X.mg H' P d v → Q v H'
/-- a new list -/
def tN (f : Ev → Rz Str (List Dt)) : TE := fun σ H Q => ∃ P ε, EOk X.K X.mg P σ H ε ∧ Out X W σ H (f ε) fun ds => ∀ p vs H', Ext H H' → Fresh H p → H' p = some (.lst vs) → Reps X.K X.mg H' (more P p) ds vs → Q (.ref p) H'
/-- arguments -/
def tA (f : Ev → Rz Str (List Dt)) : TA := fun σ H Q => ∃ P ε, EOk X.K X.mg P σ H ε ∧ Out X W σ H (f ε) fun ds => ∀ vs H', Ext H H' → Reps X.K X.mg H' P ds vs → Q vs H'
/-- a test -/
def tT (f : Ev → Rz Str Bool) : TT := fun σ H Q => ∃ P ε, EOk X.K X.mg P σ H ε ∧ Out X W σ H (f ε) fun b => ∀ H', Ext H H' → Q b H'
def PD (e : Expr) (f : Fn) : Prop := PE X e (tD X W f)
def PB (e : Expr) (f : Fn) : Prop := PE X e (tB X W f)
def PN (e : Expr) (f : Ev → Rz Str (List Dt)) : Prop := PE X e (tN X W f)
def AD (es : List Expr) (f : Ev → Rz Str (List Dt)) : Prop := PA X es (tA X W f)
def TD (e : Expr) (f : Ev → Rz Str Bool) : Prop := PT X e (tT X W f)
end
theorem pe_weak {X : Cx} {e : Expr} {t t' : TE} (h : PE X e t) (k : ∀ σ H Q, t' σ H Q → t σ H Q) : PE X e t' := ⟨fun pins s σ H Q I q => h.run pins s σ H Q I (k σ H Q q)⟩
theorem pt_weak {X : Cx} {e : Expr} {t t' : TT} (h : PT X e t) (k : ∀ σ H Q, t' σ H Q → t σ H Q) : PT X e t' := ⟨fun pins s σ H Q I q => h.run pins s σ H Q I (k σ H Q q)⟩
theorem pw_weak {X : Cx} {e : Expr} {t t' : TT} (h : PW X e t) (k : ∀ σ H Q, t' σ H Q → t σ H Q) : PW X e t' := ⟨fun wh pins s σ H Q I q => h.run wh pins s σ H Q I (k σ H Q q)⟩
theorem pa_weak {X : Cx} {es : List Expr} {t t' : TA} (h : PA X es t) (k : ∀ σ H Q, t' σ H Q → t σ H Q) : PA X es t' := ⟨fun pos pins s σ H Q I q => h.run pos pins s σ H Q I (k σ H Q q)⟩
theorem ps_weak {X : Cx} {e : Stmt} {t t' : TS} (h : PS X e t) (k : ∀ D σ H, t' D σ H → t D σ H) : PS X e t' := ⟨fun pins s σ H D I q => h.run pins s σ H D I (k D σ H q)⟩
theorem pss_weak {X : Cx} {e : List Stmt} {t t' : TS} (h : PSs X e t) (k : ∀ D σ H, t' D σ H → t D σ H) : PSs X e t' := ⟨fun pins s σ H D I q => h.run pins s σ H D I (k D σ H q)⟩
section
variable {X : Cx} {W : WX} {e a b : Expr} {f g : Fn} {pos : Pos}
theorem pb_of (h : PD X W e f) : PB X W e f := pe_weak h fun σ H Q ⟨P, ε, E, q⟩ => ⟨P, ε, E, q.mono fun d q v H' x r => q v H' x r.toB⟩
/-- a new list as data -/
def lstF (f : Ev → Rz Str (List Dt)) : Fn := fun ε => (f ε).bind fun ds => .ok (.lst ds)
theorem pd_new {f : Ev → Rz Str (List Dt)} (h : PN X W e f) : PD X W e (lstF f) := pe_weak h fun σ H Q ⟨P, ε, E, q⟩ =>
  ⟨P, ε, E, q.bind.mono fun ds q p vs H' x hp hl r => q (.ref p) H' x ⟨p, vs, rfl, hl, E.ne hp, Reps.tr (Tr.less fun a z => .inl z) _ _ r⟩⟩
/-- a name -/
def gv (i : Nat) : Fn := fun ε => match ε[i]? with
  | some (.d x) => .ok x
  | _ => .bad
def gb (i : Nat) : Fn := fun ε => match ε[i]? with
  | some (.d x) => .ok x
  | some (.o xs) => .ok (.lst xs)
  | some (.i c ks xs) => .ok (.ins c ks xs)
  | _ => .bad
theorem slot_some {σ : St} {i : Nat} {v : V} (h : σ[i]?.join = some v) : σ[i]? = some (some v) := by
  cases e : σ[i]? with
  | none => rw [e] at h; cases h
  | some o => rw [e] at h; exact congrArg some h
theorem pdv (i : Nat) {x : Str} {pos : Pos} (hN : X.N[i]? = some x := by rfl) (hv : Vis X.env.scope x := by first | exact Or.inl rfl | exact Or.inr (Or.inl rfl) | exact Or.inr (Or.inr rfl)) (hd : (x == ("__debug__" : Str)) = false := by decide)
    (hcd : (x == ("__classdict__" : Str)) = false := by decide) : PD X W (.Name x pos) (gv i) := pe_weak (pe_var (i := i) hN hv hd hcd) fun σ H Q ⟨P, ε, E, q⟩ => by
  cases hy : ε[i]? with
  | none => simp [gv, hy, Out] at q
  | some l =>
    have s := E.sl i l hy
    cases l with
    | d d =>
      simp only [gv, hy, Out] at q
      obtain ⟨v, h1, h2⟩ := s
      exact ⟨v, slot_some h1, q v H Ext.refl h2⟩
    | _ => simp [gv, hy, Out] at q
theorem pbv (i : Nat) {x : Str} {pos : Pos} (hN : X.N[i]? = some x := by rfl) (hv : Vis X.env.scope x := by first | exact Or.inl rfl | exact Or.inr (Or.inl rfl) | exact Or.inr (Or.inr rfl)) (hd : (x == ("__debug__" : Str)) = false := by decide)
    (hcd : (x == ("__classdict__" : Str)) = false := by decide) : PB X W (.Name x pos) (gb i) := pe_weak (pe_var (i := i) hN hv hd hcd) fun σ H Q ⟨P, ε, E, q⟩ => by
  cases hy : ε[i]? with
  | none => simp [gb, hy, Out] at q
  | some l =>
    have s := E.sl i l hy
    cases l with
    | u => simp [gb, hy, Out] at q
    | d d =>
      simp only [gb, hy, Out] at q
      obtain ⟨v, h1, h2⟩ := s
      exact ⟨v, slot_some h1, q v H Ext.refl h2.toB⟩
    | o ds =>
      simp only [gb, hy, Out] at q
      obtain ⟨p, vs, h1, h2, h3, h4⟩ := s
      exact ⟨.ref p, slot_some h1, q _ H Ext.refl ⟨p, vs, rfl, h3, h4⟩⟩
    | i c ks ds =>
      simp only [gb, hy, Out] at q
      obtain ⟨p, C, dx, vs, h1, h2, h3, h4, h5, h6⟩ := s
      exact ⟨.ref p, slot_some h1, q _ H Ext.refl ⟨p, C, dx, vs, rfl, h3, h4, h5, h6⟩⟩
def kc (d : Dt) : Fn := fun _ => .ok d
theorem pd_int {i j pos} : PD X W (.Constant (.int i) j pos) (kc (.int i)) := pe_weak pe_int fun σ H Q ⟨P, ε, E, q⟩ => q _ H Ext.refl rfl
theorem pd_bl {i j pos} : PD X W (.Constant (.bool i) j pos) (kc (.bl i)) := pe_weak pe_bl fun σ H Q ⟨P, ε, E, q⟩ => q _ H Ext.refl rfl
theorem pd_non {j pos} : PD X W (.Constant .none j pos) (kc .non) := pe_weak pe_non fun σ H Q ⟨P, ε, E, q⟩ => q _ H Ext.refl rfl
theorem pd_str {i j pos} : PD X W (.Constant (.str i) j pos) (kc (.str i)) := pe_weak pe_str fun σ H Q ⟨P, ε, E, q⟩ => q _ H Ext.refl rfl

/-! ### operators -/
abbrev O2 := Dt → Dt → Option Dt
def bin (h : O2) (f g : Fn) : Fn := fun ε => (f ε).bind fun x => (g ε).bind fun y => .ofO (h x y)
/-- a rule by values serves an operation on data -/
def OpD (X : Cx) (r : R2) (h : O2) : Prop := ∀ (x y : V) (H : Hp) (Q : VK) (P : Pv) (dx dy d : Dt), (∀ a, P a → ∃ o, H a = some o ∧ ∀ ps, o ≠ .tbl ps) → RepB X.K X.mg H P dx x → RepB X.K X.mg H P dy y → h dx dy = some d →
  (∀ v H', Ext H H' → Rep X.K X.mg H' P d v → Q v H') → r x y H Q
/-- two expressions one after another -/
theorem two_of {α : Type} {T : Ev → Pv → Hp → α → Prop} {h : Dt → Dt → Rz Str α} {σ : St} {H : Hp} {R : V → V → Hp → Prop} {P : Pv} {ε : Ev} (E : EOk X.K X.mg P σ H ε) (q : Out X W σ H ((f ε).bind fun x => (g ε).bind fun y => h x y) (T ε P H))
    (hr : ∀ (x y : V) (H1 : Hp) (dx dy : Dt), EOk X.K X.mg P σ H1 ε → Ext H H1 → RepB X.K X.mg H1 P dx x → RepB X.K X.mg H1 P dy y → Out X W σ H1 (h dx dy) (T ε P H) → R x y H1) : tB X W f σ H fun x H1 => tB X W g σ H1 fun y H2 => R x y H2 :=
  ⟨P, ε, E, q.bind.mono fun dx q x H1 e1 r1 => ⟨P, ε, E.ext e1, (q.bind.ext e1).mono fun dy q y H2 e2 r2 => hr x y H2 dx dy ((E.ext e1).ext e2) (e1.trans e2) (r1.ext e2) r2 (q.ext (e1.trans e2))⟩⟩
theorem opD_of {r : R2} {h : O2} (hr : OpD X r h) {σ : St} {H : Hp} {Q : VK} (q : tD X W (bin h f g) σ H Q) : tB X W f σ H fun x H1 => tB X W g σ H1 fun y H2 => r x y H2 Q := by
  obtain ⟨P, ε, E, q⟩ := q
  refine two_of (T := fun _ P H d => ∀ v H', Ext H H' → Rep X.K X.mg H' P d v → Q v H') E q fun x y H1 dx dy E1 e r1 r2 q => ?_
  obtain ⟨d, hh, q⟩ := q.ofO
  exact hr x y H1 Q P dx dy d E1.tk r1 r2 hh fun v H' x => q v H' (e.trans x)
theorem pd_op {op : Operator} {r : R2} {h : O2} (ho : OpR X (binaryOp op) r) (hr : OpD X r h) (ha : PB X W a f) (hb : PB X W b g) : PD X W (.BinOp a op b pos) (bin h f g) := pe_weak (pe_op ho ha hb) fun _ _ _ q => opD_of hr q
theorem pd_cmp {op : CmpOp} {r : R2} {h : O2} (ho : OpR X (compareOp op) r) (hr : OpD X r h) (ha : PB X W a f) (hb : PB X W b g) (hm : behindInMarks op b = false) : PD X W (.Compare a [op] [b] pos) (bin h f g) := pe_weak (pe_cmpR ho ha hb hm) fun _ _ _ q => opD_of hr q
end
end DL
end
section
set_option Elab.async false
set_option linter.all false
set_option maxRecDepth 100000
set_option autoImplicit false
namespace DL
open PySem PySem.Spec PyProof.Rows L2
variable {X : Cx} {W : WX} {e a b : Expr} {f g : Fn} {pos : Pos}

/-! ### arithmetic -/
open Classical in
noncomputable def mulD : O2
  | .int i, .int j => if IntMulOk i j then some (.int (i * j)) else none
  | _, _ => none
def addD : O2
  | .int i, .int j => some (.int (i + j))
  | .str x, .str y => if x.length + y.length ≤ sizeLine then some (.str (x ++ y)) else none
  | .lst xs, .lst ys => if xs.length + ys.length ≤ sizeLine then some (.lst (xs ++ ys)) else none
  | .tup xs, .tup ys => if xs ≠ [] ∧ ys ≠ [] ∧ xs.length + ys.length ≤ sizeLine then some (.tup (xs ++ ys)) else none
  | _, _ => none
def subD : O2
  | .int i, .int j => some (.int (i - j))
  | _, _ => none
def modD : O2
  | .int i, .int j => if j ≠ 0 then some (.int (i.fmod j)) else none
  | _, _ => none
def divD : O2
  | .int i, .int j => if j ≠ 0 ∧ j.natAbs.log2 < 9000 then some (.int (i.fdiv j)) else none
  | _, _ => none
theorem op_fdivAll : OpR X (binaryOp .FloorDiv) (rI (fun _ j => j ≠ 0 ∧ j.natAbs.log2 < 9000) fun i j => .int (i.fdiv j)) := opI fun i j _ _ _ _ _ hc q => floordiv_int hc.1 q (.inl (PyProof.noPylong_of_log2 hc.2))
theorem op_mulAll : OpR X (binaryOp .Mult) (rI IntMulOk fun i j => .int (i * j)) := opI fun _ _ _ _ _ _ _ hc q => mul_int q hc
theorem opD_I {C : Int → Int → Prop} {k : Int → Int → V} {h : O2} {k' : Int → Int → Dt} (hh : ∀ x y d, h x y = some d → ∃ i j, x = .int i ∧ y = .int j ∧ C i j ∧ d = k' i j) (hk : ∀ K mg H P i j, Rep K mg H P (k' i j) (k i j)) : OpD X (rI C k) h := fun x y H Q P dx dy d _ r1 r2 e q => by
  obtain ⟨i, j, rfl, rfl, c, rfl⟩ := hh _ _ _ e
  exact ⟨i, j, r1, r2, c, q _ H Ext.refl (hk _ _ _ _ _ _)⟩
theorem mul_ok : OpD X (rI IntMulOk fun i j => .int (i * j)) mulD := opD_I (k' := fun i j => .int (i * j)) (fun x y d e => by
  unfold mulD at e
  split at e
  · split at e
    · exact ⟨_, _, rfl, rfl, by assumption, (Option.some.inj e).symm⟩
    · cases e
  · cases e) fun _ _ _ _ _ _ => rfl
theorem mod_ok : OpD X (rI (fun _ j => j ≠ 0) fun i j => .int (i.fmod j)) modD := opD_I (k' := fun i j => .int (i.fmod j)) (fun x y d e => by
  unfold modD at e
  split at e
  · split at e
    · exact ⟨_, _, rfl, rfl, by assumption, (Option.some.inj e).symm⟩
    · cases e
  · cases e) fun _ _ _ _ _ _ => rfl
theorem div_ok : OpD X (rI (fun _ j => j ≠ 0 ∧ j.natAbs.log2 < 9000) fun i j => .int (i.fdiv j)) divD := opD_I (k' := fun i j => .int (i.fdiv j)) (fun x y d e => by
  unfold divD at e
  split at e
  · split at e
    · exact ⟨_, _, rfl, rfl, by assumption, (Option.some.inj e).symm⟩
    · cases e
  · cases e) fun _ _ _ _ _ _ => rfl
theorem sub_ok : OpD X (rI0 fun i j => .int (i - j)) subD := fun x y H Q P dx dy d _ r1 r2 e q => by
  unfold subD at e
  split at e
  · cases e
    exact ⟨_, _, r1, r2, q _ H Ext.refl rfl⟩
  · cases e
def rAddAll (K : PySem.W.Frag) : R2 := fun x y H Q => (∃ i j, x = .int i ∧ y = .int j ∧ Q (.int (i + j)) H) ∨ (∃ i j, x = .str i ∧ y = .str j ∧ i.length + j.length ≤ sizeLine ∧ Q (.str (i ++ j)) H) ∨ rCat x y H Q ∨ rCatT K x y H Q
theorem op_addAll : OpR X (binaryOp .Add) (rAddAll X.K) := op_add.or (op_add_str.or (op_cat.or op_catT))
theorem add_ok : OpD X (rAddAll X.K) addD := fun x y H Q P dx dy d tk r1 r2 e q => by
  unfold addD at e
  split at e
  · cases e
    exact .inl ⟨_, _, r1, r2, q _ H Ext.refl rfl⟩
  · split at e
    · cases e
      exact .inr (.inl ⟨_, _, r1, r2, by assumption, q _ H Ext.refl rfl⟩)
    · cases e
  · split at e
    · cases e
      obtain ⟨p, vs, rfl, h1, s1⟩ := r1
      obtain ⟨p', vs', rfl, h1', s1'⟩ := r2
      refine .inr (.inr (.inl ⟨p, p', vs, vs', rfl, rfl, h1, h1', by rw [← s1.length, ← s1'.length]; assumption, fun l hl => q _ _ (Ext.new hl) ⟨l, _, rfl, upd_same, fun z => ?_, (s1.append s1').ext (Ext.new hl)⟩⟩))
      obtain ⟨o, z', _⟩ := tk l z
      rw [hl] at z'; cases z'
    · cases e
  · split at e
    · rename_i hz
      cases e
      obtain ⟨p, vs, rfl, h1, s1⟩ := r1
      obtain ⟨p', vs', rfl, h1', s1'⟩ := r2
      have n1 : vs ≠ [] := fun z => hz.1 (List.eq_nil_of_length_eq_zero (by rw [s1.length, z]; rfl))
      have n2 : vs' ≠ [] := fun z => hz.2.1 (List.eq_nil_of_length_eq_zero (by rw [s1'.length, z]; rfl))
      exact .inr (.inr (.inr ⟨p, p', vs, vs', rfl, rfl, h1, h1', n1, by rw [← s1.length, ← s1'.length]; exact hz.2.2, fun z => absurd z n2, fun _ l hl => q _ _ (Ext.new hl) ⟨l, _, rfl, .of upd_same, (s1.append s1').ext (Ext.new hl)⟩⟩))
    · cases e
  · cases e
theorem dAdd (ha : PB X W a f) (hb : PB X W b g) : PD X W (.BinOp a .Add b pos) (bin addD f g) := pd_op op_addAll add_ok ha hb
theorem dSub (ha : PB X W a f) (hb : PB X W b g) : PD X W (.BinOp a .Sub b pos) (bin subD f g) := pd_op op_sub sub_ok ha hb
theorem dMul (ha : PB X W a f) (hb : PB X W b g) : PD X W (.BinOp a .Mult b pos) (bin mulD f g) := pd_op op_mulAll mul_ok ha hb
theorem dMod (ha : PB X W a f) (hb : PB X W b g) : PD X W (.BinOp a .Mod b pos) (bin modD f g) := pd_op op_modN mod_ok ha hb
theorem dDiv (ha : PB X W a f) (hb : PB X W b g) : PD X W (.BinOp a .FloorDiv b pos) (bin divD f g) := pd_op op_fdivAll div_ok ha hb
/-- shifts of small numbers -/
def shlD : O2
  | .int i, .int j => if 0 ≤ j ∧ j ≤ 1000000 ∧ i.natAbs < 2 ^ 64 then some (.int (i * 2 ^ j.toNat)) else none
  | _, _ => none
theorem shl_ok : OpD X (rI CPow fun i j => .int (i * 2 ^ j.toNat)) shlD := opD_I (k' := fun i j => .int (i * 2 ^ j.toNat)) (fun x y d e => by
  unfold shlD at e
  split at e
  · split at e
    · exact ⟨_, _, rfl, rfl, by assumption, (Option.some.inj e).symm⟩
    · cases e
  · cases e) fun _ _ _ _ _ _ => rfl
theorem dShl (ha : PB X W a f) (hb : PB X W b g) : PD X W (.BinOp a .LShift b pos) (bin shlD f g) := pd_op op_shl shl_ok ha hb
def powD : O2
  | .int i, .int j => if 0 ≤ j ∧ j ≤ 1000000 ∧ i.natAbs < 2 ^ 64 then some (.int (i ^ j.toNat)) else none
  | _, _ => none
theorem pow_ok : OpD X (rI CPow fun i j => .int (i ^ j.toNat)) powD := opD_I (k' := fun i j => .int (i ^ j.toNat)) (fun x y d e => by
  unfold powD at e
  split at e
  · split at e
    · exact ⟨_, _, rfl, rfl, by assumption, (Option.some.inj e).symm⟩
    · cases e
  · cases e) fun _ _ _ _ _ _ => rfl
theorem dPow (ha : PB X W a f) (hb : PB X W b g) : PD X W (.BinOp a .Pow b pos) (bin powD f g) := pd_op op_pow pow_ok ha hb
/-! ### comparisons -/
def cmpD (p : Int → Int → Bool) : O2
  | .int i, .int j => some (.bl (p i j))
  | _, _ => none
theorem cmp_ok {p : Int → Int → Bool} : OpD X (rI0 fun i j => .bl (p i j)) (cmpD p) := fun x y H Q P dx dy d _ r1 r2 e q => by
  unfold cmpD at e
  split at e
  · cases e
    exact ⟨_, _, r1, r2, q _ H Ext.refl rfl⟩
  · cases e
def ltD : O2 := cmpD fun i j => decide (i < j)
def leD : O2 := cmpD fun i j => decide (i ≤ j)
def gtD : O2 := cmpD fun i j => decide (j < i)
def geD : O2 := cmpD fun i j => decide (j ≤ i)
theorem dLt (ha : PB X W a f) (hb : PB X W b g) : PD X W (.Compare a [.Lt] [b] pos) (bin ltD f g) := pd_cmp op_lt cmp_ok ha hb (nomark _)
theorem dLe (ha : PB X W a f) (hb : PB X W b g) : PD X W (.Compare a [.LtE] [b] pos) (bin leD f g) := pd_cmp op_le cmp_ok ha hb (nomark _)
theorem dGt (ha : PB X W a f) (hb : PB X W b g) : PD X W (.Compare a [.Gt] [b] pos) (bin gtD f g) := pd_cmp op_gt cmp_ok ha hb (nomark _)
theorem dGe (ha : PB X W a f) (hb : PB X W b g) : PD X W (.Compare a [.GtE] [b] pos) (bin geD f g) := pd_cmp op_ge cmp_ok ha hb (nomark _)
/-! as plain data of the library -/
mutual
def py : Dt → Option PyData
  | .non => some .none
  | .bl b => some (.bool b)
  | .int i => some (.int i)
  | .str x => some (.str x)
  | .tup xs => (pys xs).map .tuple
  | .lst xs => (pys xs).map .list
  | .frl xs => (pys xs).map .list
  | .ins _ _ _ => none
def pys : List Dt → Option (List PyData)
  | [] => some []
  | d :: ds => (py d).bind fun x => (pys ds).map fun r => x :: r
end
section
variable {K : PySem.W.Frag} {mg : Mg} {H : Hp} {P : Pv}
mutual
theorem rep_py : ∀ (d : Dt) (v : V) (x : PyData), Rep K mg H P d v → py d = some x → Dp K H v x
  | .non, v, x, h, e => by cases e; rw [show v = _ from h]; exact .non
  | .bl b, v, x, h, e => by cases e; rw [show v = _ from h]; exact .bl b
  | .int b, v, x, h, e => by cases e; rw [show v = _ from h]; exact .int b
  | .str b, v, x, h, e => by cases e; rw [show v = _ from h]; exact .str b
  | .tup ds, v, x, ⟨a, vs, q, h1, h2⟩, e => by
    subst q
    rw [py] at e
    cases q : pys ds with
    | none => rw [q] at e; cases e
    | some xs => rw [q] at e; cases e; exact .tup h1 (reps_py ds vs xs h2 q)
  | .lst ds, v, x, ⟨a, vs, q, h1, _, h2⟩, e => by
    subst q
    rw [py] at e
    cases q : pys ds with
    | none => rw [q] at e; cases e
    | some xs => rw [q] at e; cases e; exact .lst (.of h1) (reps_py ds vs xs h2 q)
  | .frl ds, v, x, ⟨a, vs, q, h1, h2⟩, e => by
    subst q
    rw [py] at e
    cases q : pys ds with
    | none => rw [q] at e; cases e
    | some xs => rw [q] at e; cases e; exact .lst h1.sq (reps_py ds vs xs h2 q)
  | .ins _ _ _, _, _, _, e => by cases e
theorem reps_py : ∀ (ds : List Dt) (vs : List V) (xs : List PyData), Reps K mg H P ds vs → pys ds = some xs → DpAll K H vs xs
  | [], vs, xs, h, e => by cases e; rw [show vs = _ from h]; exact .nil
  | d :: ds, vs, xs, ⟨v, r, q, h1, h2⟩, e => by
    subst q
    rw [pys] at e
    cases q : py d with
    | none => rw [q] at e; cases e
    | some y =>
      cases q2 : pys ds with
      | none => rw [q, q2] at e; cases e
      | some ys => rw [q, q2] at e; cases e; exact .cons (rep_py d v y h1 q) (reps_py ds r ys h2 q2)
end
theorem repB_py {d : Dt} {v : V} {x : PyData} (h : RepB K mg H P d v) (e : py d = some x) : Dp K H v x := by
  cases d with
  | lst ds =>
    obtain ⟨a, vs, q, h1, h2⟩ := h
    subst q
    rw [py] at e
    cases q : pys ds with
    | none => rw [q] at e; cases e
    | some xs => rw [q] at e; cases e; exact .lst (.of h1) (reps_py ds vs xs h2 q)
  | ins c ks ds => cases e
  | _ => exact rep_py _ _ _ h e
end
def eqB (x y : Dt) : Option Bool := (py x).bind fun a => (py y).bind fun b => if SeqAt.shaped a = true ∧ SeqAt.shaped b = true then some (PyData.eqv a b) else none
def eqD : O2 := fun x y => (eqB x y).map .bl
def neD : O2 := fun x y => (eqB x y).map fun b => .bl (!b)
theorem eqB_some {x y : Dt} {k : Bool} (h : eqB x y = some k) : ∃ a b, py x = some a ∧ py y = some b ∧ SeqAt.shaped a = true ∧ SeqAt.shaped b = true ∧ k = PyData.eqv a b := by
  unfold eqB at h
  cases e1 : py x with
  | none => rw [e1] at h; cases h
  | some a =>
    cases e2 : py y with
    | none => rw [e1, e2] at h; cases h
    | some b =>
      rw [e1, e2] at h
      simp only [Option.bind_some] at h
      split at h
      · rename_i hs
        exact ⟨a, b, rfl, rfl, hs.1, hs.2, (Option.some.inj h).symm⟩
      · cases h
theorem eq_ok : OpD X (rEqD X.K) eqD := fun x y H Q P dx dy d _ r1 r2 e q => by
  unfold eqD at e
  cases h : eqB dx dy with
  | none => rw [h] at e; cases e
  | some k =>
    rw [h] at e; cases e
    obtain ⟨u, v, h1, h2, h3, h4, rfl⟩ := eqB_some h
    exact ⟨u, v, repB_py r1 h1, repB_py r2 h2, h3, h4, q _ H Ext.refl rfl⟩
theorem ne_ok : OpD X (rNeD X.K) neD := fun x y H Q P dx dy d _ r1 r2 e q => by
  unfold neD at e
  cases h : eqB dx dy with
  | none => rw [h] at e; cases e
  | some k =>
    rw [h] at e; cases e
    obtain ⟨u, v, h1, h2, h3, h4, rfl⟩ := eqB_some h
    exact ⟨u, v, repB_py r1 h1, repB_py r2 h2, h3, h4, q _ H Ext.refl rfl⟩
theorem dEq {k : Nat} (hr : Room k X.A) (ha : PB X W a f) (hb : PB X W b g) : PD X W (.Compare a [.Eq] [b] pos) (bin eqD f g) := pd_cmp (op_eqD hr.units) eq_ok ha hb (nomark _)
theorem dNe {k : Nat} (hr : Room k X.A) (ha : PB X W a f) (hb : PB X W b g) : PD X W (.Compare a [.NotEq] [b] pos) (bin neD f g) := pd_cmp (op_neD hr.units) ne_ok ha hb (nomark _)
def Dt.isNon : Dt → Bool
  | .non => true
  | _ => false
theorem repB_non {K : PySem.W.Frag} {mg : Mg} {H : Hp} {P : Pv} {d : Dt} {v : V} (h : RepB K mg H P d v) : decide (v = .non) = d.isNon := by
  cases d with
  | non => have e : v = _ := h; rw [e]; rfl
  | bl b => have e : v = _ := h; rw [e]; rfl
  | int b => have e : v = _ := h; rw [e]; rfl
  | str b => have e : v = _ := h; rw [e]; rfl
  | tup ds => obtain ⟨a, vs, rfl, _⟩ := h; rfl
  | lst ds => obtain ⟨a, vs, rfl, _⟩ := h; rfl
  | frl ds => obtain ⟨a, vs, rfl, _⟩ := h; rfl
  | ins c ks ds => obtain ⟨a, C, dx, vs, rfl, _⟩ := h; rfl
/-- is None, is not None -/
def isND : O2 := fun x y => match y with
  | .non => some (.bl x.isNon)
  | _ => none
def notND : O2 := fun x y => match y with
  | .non => some (.bl (!x.isNon))
  | _ => none
theorem isN_ok : OpD X (fun x y H Q => y = .non ∧ Q (.bl (decide (x = .non))) H) isND := fun x y H Q P dx dy d _ r1 r2 e q => by
  unfold isND at e
  split at e
  · cases e
    exact ⟨r2, q _ H Ext.refl (by rw [repB_non r1]; rfl)⟩
  · cases e
theorem notN_ok : OpD X (fun x y H Q => y = .non ∧ Q (.bl (!decide (x = .non))) H) notND := fun x y H Q P dx dy d _ r1 r2 e q => by
  unfold notND at e
  split at e
  · cases e
    exact ⟨r2, q _ H Ext.refl (by rw [repB_non r1]; rfl)⟩
  · cases e
theorem dIsN (ha : PB X W a f) (hb : PB X W b g) : PD X W (.Compare a [.Is] [b] pos) (bin isND f g) := pd_cmp op_isN isN_ok ha hb (nomark _)
theorem dNotN (ha : PB X W a f) (hb : PB X W b g) : PD X W (.Compare a [.IsNot] [b] pos) (bin notND f g) := pd_cmp op_notN notN_ok ha hb (nomark _)
/-! ### subscripts -/
def ixD : O2
  | .lst xs, .int i => atI xs i
  | .frl xs, .int i => atI xs i
  | .tup xs, .int i => atI xs i
  | .str z, .int i => if z.length ≤ sizeLine then (atI z.cps.toList i).map fun c => .str ⟨#[c]⟩ else none
  | _, _ => none
theorem atI_rep {K : PySem.W.Frag} {mg : Mg} {H : Hp} {P : Pv} {ds : List Dt} {vs : List V} {i : Int} {d : Dt} (h : Reps K mg H P ds vs) (e : atI ds i = some d) : ∃ v, atI vs i = some v ∧ Rep K mg H P d v := by
  unfold atI at e ⊢
  rw [← h.length]
  cases q : ixN ds.length i with
  | none => rw [q] at e; cases e
  | some j => rw [q] at e; exact h.get e
theorem ix_ok {x y : V} {H : Hp} {Q : VK} {P : Pv} {dx dy d : Dt} (r1 : RepB X.K X.mg H P dx x) (r2 : RepB X.K X.mg H P dy y) (e : ixD dx dy = some d) (q : ∀ v, Rep X.K X.mg H P d v → Q v H) : rIx X.K x y H Q := by
  unfold ixD at e
  split at e
  · obtain ⟨p, vs, rfl, h1, s1⟩ := r1
    obtain ⟨v, h2, h3⟩ := atI_rep s1 e
    exact .inl ⟨p, vs, _, v, rfl, r2, .of h1, h2, q v h3⟩
  · obtain ⟨p, vs, rfl, h1, s1⟩ := r1
    obtain ⟨v, h2, h3⟩ := atI_rep s1 e
    exact .inl ⟨p, vs, _, v, rfl, r2, h1.sq, h2, q v h3⟩
  · obtain ⟨p, vs, rfl, h1, s1⟩ := r1
    obtain ⟨v, h2, h3⟩ := atI_rep s1 e
    exact .inr (.inl ⟨p, vs, _, v, rfl, r2, h1, h2, q v h3⟩)
  · split at e
    · rename_i z i hz
      cases h : atI z.cps.toList i with
      | none => rw [h] at e; cases e
      | some c => rw [h] at e; cases e; exact .inr (.inr ⟨z, i, c, r1, r2, hz, h, q _ rfl⟩)
    · cases e
  · cases e
theorem dIx (ha : PB X W a f) (hb : PB X W b g) (hs : PlainIx b := by exact fun _ _ => rfl) : PD X W (.Subscript a b pos) (bin ixD f g) := pe_weak (pe_ix ix_seq ha hb hs) fun σ H Q q =>
  opD_of (X := X) (r := rIx X.K) (fun x y H Q P dx dy d _ r1 r2 e q => ix_ok r1 r2 e fun v r => q v H Ext.refl r) q
end DL
end
section
set_option Elab.async false
set_option linter.all false
set_option maxRecDepth 100000
set_option autoImplicit false
namespace DL
open PySem PySem.Spec PyProof.Rows L2
variable {X : Cx} {W : WX} {e a b c : Expr} {es rest : List Expr} {f g h : Fn} {pos : Pos}

/-! ### tests -/
abbrev Tf := Ev → Rz Str Bool
def TW (X : Cx) (W : WX) (e : Expr) (f : Tf) : Prop := PW X e (tT X W f)
def Dt.boo : Dt → Rz Str Bool
  | .bl b => .ok b
  | _ => .bad
def tst (f : Fn) : Tf := fun ε => (f ε).bind Dt.boo
theorem Out.boo {σ : St} {H : Hp} {d : Dt} {k : Bool → Prop} (h : Out X W σ H d.boo k) : ∃ b, d = .bl b ∧ k b := by
  cases d with
  | bl b => exact ⟨b, rfl, h⟩
  | _ => exact h.elim
theorem td_cmp {op : CmpOp} {r : R2} {h : O2} (ho : OpR X (compareOp op) r) (hr : OpD X r h) (ha : PB X W a f) (hb : PB X W b g) (hm : behindInMarks op b = false) : TD X W (.Compare a [op] [b] pos) (tst (bin h f g)) := pt_weak (pt_cmpR ho ha hb hm) fun σ H Q ⟨P, ε, E, q⟩ =>
  opD_of hr ⟨P, ε, E, q.bind.mono fun d q v H' x r => by
    obtain ⟨k, rfl, q⟩ := q.boo
    exact ⟨k, r, q H' x⟩⟩
theorem td_val (h : PD X W e f) (he : ∀ whole, isTrue e X.env whole = (do let v ← whole; standAt e.pos; holding [v] (truthy v)) := by intro _; rfl) : TD X W e (tst f) := pt_weak (pt_val h he) fun σ H Q ⟨P, ε, E, q⟩ =>
  ⟨P, ε, E, q.bind.mono fun d q v H' x r => by
    obtain ⟨k, rfl, q⟩ := q.boo
    exact ⟨k, r, q H' x⟩⟩
theorem td_of {f : Tf} (h : TW X W e f) : TD X W e f := PW.pt h
def andT (f g : Tf) : Tf := fun ε => (f ε).bind fun b => if b = true then g ε else .ok false
def orT (f g : Tf) : Tf := fun ε => (f ε).bind fun b => if b = true then .ok true else g ε
def notT (f : Tf) : Tf := fun ε => (f ε).bind fun b => .ok (!b)
theorem tw_and1 {f : Tf} (ha : TD X W a f) : TW X W (.BoolOp .And [a] pos) f := pw_and1 ha
theorem tw_or1 {f : Tf} (ha : TD X W a f) : TW X W (.BoolOp .Or [a] pos) f := pw_or1 ha
theorem tw_and {f g : Tf} (ha : TD X W a f) (hb : TW X W (.BoolOp .And (b :: rest) pos) g) : TW X W (.BoolOp .And (a :: b :: rest) pos) (andT f g) := pw_weak (pw_and ha hb) fun σ H Q ⟨P, ε, E, q⟩ =>
  ⟨P, ε, E, q.bind.mono fun k q H1 e => by
    cases k with
    | false => exact q H1 e
    | true => exact ⟨P, ε, E.ext e, (Out.ext (show Out X W σ H (g ε) _ from q) e).mono fun k q H2 e2 => q H2 (e.trans e2)⟩⟩
theorem tw_or {f g : Tf} (ha : TD X W a f) (hb : TW X W (.BoolOp .Or (b :: rest) pos) g) : TW X W (.BoolOp .Or (a :: b :: rest) pos) (orT f g) := pw_weak (pw_or ha hb) fun σ H Q ⟨P, ε, E, q⟩ =>
  ⟨P, ε, E, q.bind.mono fun k q H1 e => by
    cases k with
    | true => exact q H1 e
    | false => exact ⟨P, ε, E.ext e, (Out.ext (show Out X W σ H (g ε) _ from q) e).mono fun k q H2 e2 => q H2 (e.trans e2)⟩⟩
theorem td_not {f : Tf} (ha : TD X W a f) : TD X W (.UnaryOp .Not a pos) (notT f) := pt_weak (pt_not ha) fun σ H Q ⟨P, ε, E, q⟩ => ⟨P, ε, E, q.bind⟩
/-- .. as values -/
def andV (f g : Fn) : Fn := fun ε => (f ε).bind fun x => x.boo.bind fun b => if b = true then g ε else .ok (.bl false)
def orV (f g : Fn) : Fn := fun ε => (f ε).bind fun x => x.boo.bind fun b => if b = true then .ok (.bl true) else g ε
def notV (f : Fn) : Fn := fun ε => (f ε).bind fun x => x.boo.bind fun b => .ok (.bl (!b))
theorem pd_one {op} (ha : PD X W a f) : PD X W (.BoolOp op [a] pos) f := pe_one ha
theorem pd_and (ha : PD X W a f) (hb : PD X W (.BoolOp .And (b :: rest) pos) g) : PD X W (.BoolOp .And (a :: b :: rest) pos) (andV f g) := pe_weak (pe_and ha hb) fun σ H Q ⟨P, ε, E, q⟩ =>
  ⟨P, ε, E, q.bind.mono fun d q v H1 e r => by
    obtain ⟨k, rfl, q⟩ := q.bind.boo
    refine ⟨k, r, ?_⟩
    cases k with
    | false => exact q _ H1 e rfl
    | true => exact ⟨P, ε, E.ext e, (Out.ext (show Out X W σ H (g ε) _ from q) e).mono fun k q v H2 e2 => q v H2 (e.trans e2)⟩⟩
theorem pd_or (ha : PD X W a f) (hb : PD X W (.BoolOp .Or (b :: rest) pos) g) : PD X W (.BoolOp .Or (a :: b :: rest) pos) (orV f g) := pe_weak (pe_or ha hb) fun σ H Q ⟨P, ε, E, q⟩ =>
  ⟨P, ε, E, q.bind.mono fun d q v H1 e r => by
    obtain ⟨k, rfl, q⟩ := q.bind.boo
    refine ⟨k, r, ?_⟩
    cases k with
    | true => exact q _ H1 e rfl
    | false => exact ⟨P, ε, E.ext e, (Out.ext (show Out X W σ H (g ε) _ from q) e).mono fun k q v H2 e2 => q v H2 (e.trans e2)⟩⟩
theorem pd_not (ha : PD X W a f) : PD X W (.UnaryOp .Not a pos) (notV f) := pe_weak (pe_not ha) fun σ H Q ⟨P, ε, E, q⟩ =>
  ⟨P, ε, E, q.bind.mono fun d q v H1 e r => by
    obtain ⟨k, rfl, q⟩ := q.bind.boo
    exact ⟨k, r, q _ H1 e rfl⟩⟩
def ifV (t : Tf) (f g : Fn) : Fn := fun ε => (t ε).bind fun b => if b = true then f ε else g ε
theorem pd_if {t : Tf} (hc : TD X W c t) (ha : PD X W a f) (hb : PD X W b g) : PD X W (.IfExp c a b pos) (ifV t f g) := pe_weak (pe_ifExp hc ha hb) fun σ H Q ⟨P, ε, E, q⟩ =>
  ⟨P, ε, E, q.bind.mono fun k q H1 e => by
    cases k with
    | true => exact ⟨P, ε, E.ext e, (Out.ext (show Out X W σ H (f ε) _ from q) e).mono fun k q v H2 e2 => q v H2 (e.trans e2)⟩
    | false => exact ⟨P, ε, E.ext e, (Out.ext (show Out X W σ H (g ε) _ from q) e).mono fun k q v H2 e2 => q v H2 (e.trans e2)⟩⟩
/-- a op b op' c -/
def chn (h h' : O2) (f g k : Fn) : Fn := fun ε => (f ε).bind fun x => (g ε).bind fun y => (Rz.ofO (h x y)).bind fun r => r.boo.bind fun b => if b = true then (k ε).bind fun z => .ofO (h' y z) else .ok (.bl false)
theorem chn_of {r r' : R2} {o o' : O2} (hr : OpD X r o) (hr' : OpD X r' o') {σ : St} {H : Hp} {Q : VK} (q : tD X W (chn o o' f g h) σ H Q) : tChain r r' (tB X W f) (tB X W g) (tB X W h) σ H Q := by
  obtain ⟨P, ε, E, q⟩ := q
  refine two_of (T := fun _ P H d => ∀ v H', Ext H H' → Rep X.K X.mg H' P d v → Q v H') E q fun x y H1 dx dy E1 e r1 r2 q => ?_
  obtain ⟨d, hh, q⟩ := q.bind.ofO
  refine hr x y H1 _ P dx dy d E1.tk r1 r2 hh fun v H2 e2 rv => ?_
  obtain ⟨k, rfl, q⟩ := q.bind.boo
  refine ⟨k, rv, ?_⟩
  cases k with
  | false => exact q _ H2 (e.trans e2) rfl
  | true =>
    refine ⟨P, ε, E1.ext e2, (Out.ext (Out.bind (show Out X W σ H1 ((h ε).bind fun z => .ofO (o' dy z)) _ from q)) e2).mono fun dz q z H3 e3 r3 => ?_⟩
    obtain ⟨d', hh', q⟩ := q.ofO
    exact hr' y z H3 Q P dy dz d' ((E1.ext e2).ext e3).tk ((r2.ext e2).ext e3) r3 hh' fun v H' x => q v H' (((e.trans e2).trans e3).trans x)
theorem td_chain {op op' : CmpOp} {r r' : R2} {o o' : O2} (ho : OpR X (compareOp op) r) (hr : OpD X r o) (ho' : OpR X (compareOp op') r') (hr' : OpD X r' o') (ha : PB X W a f) (hb : PB X W b g) (hc : PB X W c h) (hm : lastMarks [op, op'] [b, c] = false := by with_unfolding_all rfl) :
    TD X W (.Compare a [op, op'] [b, c] pos) (tst (chn o o' f g h)) := pt_weak (pt_chain ho ho' ha hb hc hm) fun σ H Q ⟨P, ε, E, q⟩ =>
  chn_of hr hr' ⟨P, ε, E, q.bind.mono fun d q v H' x r => by
    obtain ⟨k, rfl, q⟩ := q.boo
    exact ⟨k, r, q H' x⟩⟩

/-! ### arguments, displays -/
abbrev Fs := Ev → Rz Str (List Dt)
def nilF : Fs := fun _ => .ok []
def consF (f : Fn) (fs : Fs) : Fs := fun ε => (f ε).bind fun x => (fs ε).bind fun xs => .ok (x :: xs)
theorem ad_nil : AD X W [] nilF := pa_weak pa_nil fun σ H Q ⟨P, ε, E, q⟩ => q [] H Ext.refl rfl
theorem ad_cons {fs : Fs} (ha : PD X W e f) (hr : AD X W es fs) (hs : starEach (e :: es) X.env = (false, eval e X.env) :: starEach es X.env := by rfl) : AD X W (e :: es) (consF f fs) := pa_weak (pa_cons ha hr hs) fun σ H Q ⟨P, ε, E, q⟩ =>
  ⟨P, ε, E, q.bind.mono fun d q v H1 e1 r1 => ⟨P, ε, E.ext e1, (q.bind.ext e1).mono fun ds q vs H2 e2 r2 => q (v :: vs) H2 (e1.trans e2) ⟨v, vs, rfl, r1.ext e2, r2⟩⟩⟩
def tupF (fs : Fs) : Fn := fun ε => (fs ε).bind fun ds => if ds.length ≤ sizeLine then .ok (.tup ds) else .bad
def lsF (fs : Fs) : Fs := fun ε => (fs ε).bind fun ds => if ds.length ≤ sizeLine then .ok ds else .bad
theorem pd_tup {x1} {fs : Fs} (h : AD X W es fs) : PD X W (.Tuple es x1 pos) (tupF fs) := pe_weak (pe_tup h) fun σ H Q ⟨P, ε, E, q⟩ =>
  ⟨P, ε, E, q.bind.mono fun ds q vs H1 e r => by
    by_cases z : ds.length ≤ sizeLine
    · rw [if_pos z] at q
      exact ⟨by rw [← r.length]; exact z, fun p hp => q _ _ (e.trans (Ext.new hp)) ⟨p, vs, rfl, .of upd_same, r.ext (Ext.new hp)⟩⟩
    · rw [if_neg z] at q
      exact q.elim⟩
theorem pn_lst {fs : Fs} (h : AD X W es fs) : PN X W (.List es pos) (lsF fs) := pe_weak (pe_lst h) fun σ H Q ⟨P, ε, E, q⟩ =>
  ⟨P, ε, E, q.bind.mono fun ds q vs H1 e r => by
    by_cases z : ds.length ≤ sizeLine
    · rw [if_pos z] at q
      exact ⟨by rw [← r.length]; exact z, fun p hp => q _ _ _ (e.trans (Ext.new hp)) (e.fresh (.of hp)) upd_same ((Reps.tr (Tr.more (.of hp)) _ _ r).ext (Ext.new hp))⟩
    · rw [if_neg z] at q
      exact q.elim⟩
end DL
end
section
set_option Elab.async false
set_option linter.all false
set_option maxRecDepth 100000
set_option autoImplicit false
namespace DL
open PySem PySem.Spec PyProof.Rows L2
variable {X : Cx} {W : WX} {e a b c : Expr} {es rest : List Expr} {f g h : Fn} {pos p : Pos}

/-! ### built-ins of one argument, of two -/
def un (h : Dt → Option Dt) (f : Fn) : Fn := fun ε => (f ε).bind fun x => .ofO (h x)
def UnD (X : Cx) (r : List V → Hp → VK → Prop) (h : Dt → Option Dt) : Prop := ∀ (x : V) (H : Hp) (Q : VK) (P : Pv) (dx d : Dt), (∀ a, P a → ∃ o, H a = some o ∧ ∀ ps, o ≠ .tbl ps) → RepB X.K X.mg H P dx x → h dx = some d →
  (∀ v H', Ext H H' → Rep X.K X.mg H' P d v → Q v H') → r [x] H Q
def UnN (X : Cx) (r : List V → Hp → VK → Prop) (h : Dt → Option (List Dt)) : Prop := ∀ (x : V) (H : Hp) (Q : VK) (P : Pv) (dx : Dt) (ds : List Dt), (∀ a, P a → ∃ o, H a = some o ∧ ∀ ps, o ≠ .tbl ps) → RepB X.K X.mg H P dx x → h dx = some ds →
  (∀ p vs H', Ext H H' → Fresh H p → H' p = some (.lst vs) → Reps X.K X.mg H' (more P p) ds vs → Q (.ref p) H') → r [x] H Q
def BiD (X : Cx) (r : List V → Hp → VK → Prop) (h : O2) : Prop := ∀ (x y : V) (H : Hp) (Q : VK) (P : Pv) (dx dy d : Dt), (∀ a, P a → ∃ o, H a = some o ∧ ∀ ps, o ≠ .tbl ps) → RepB X.K X.mg H P dx x → RepB X.K X.mg H P dy y → h dx dy = some d →
  (∀ v H', Ext H H' → Rep X.K X.mg H' P d v → Q v H') → r [x, y] H Q
def unN (h : Dt → Option (List Dt)) (f : Fn) : Fs := fun ε => (f ε).bind fun x => .ofO (h x)
theorem una {r : List V → Hp → VK → Prop} {h : Dt → Option Dt} (hr : UnD X r h) {σ : St} {H : Hp} {Q : VK} (q : tD X W (un h f) σ H Q) : tCB r (tCons (tB X W f) tNil) σ H Q := by
  obtain ⟨P, ε, E, q⟩ := q
  exact ⟨P, ε, E, q.bind.mono fun dx q x H1 e1 r1 => by
    obtain ⟨d, hh, q⟩ := q.ofO
    exact hr x H1 Q P dx d (E.ext e1).tk r1 hh fun v H' x => q v H' (e1.trans x)⟩
theorem unaN {r : List V → Hp → VK → Prop} {h : Dt → Option (List Dt)} (hr : UnN X r h) {σ : St} {H : Hp} {Q : VK} (q : tN X W (unN h f) σ H Q) : tCB r (tCons (tB X W f) tNil) σ H Q := by
  obtain ⟨P, ε, E, q⟩ := q
  exact ⟨P, ε, E, q.bind.mono fun dx q x H1 e1 r1 => by
    obtain ⟨d, hh, q⟩ := q.ofO
    exact hr x H1 Q P dx d (E.ext e1).tk r1 hh fun p vs H' x fr => q p vs H' (e1.trans x) (e1.fresh fr)⟩
theorem bia {r : List V → Hp → VK → Prop} {h : O2} (hr : BiD X r h) {σ : St} {H : Hp} {Q : VK} (q : tD X W (bin h f g) σ H Q) : tCB r (tCons (tB X W f) (tCons (tB X W g) tNil)) σ H Q := by
  obtain ⟨P, ε, E, q⟩ := q
  refine two_of (T := fun _ P H d => ∀ v H', Ext H H' → Rep X.K X.mg H' P d v → Q v H') E q fun x y H1 dx dy E1 e r1 r2 q => ?_
  obtain ⟨d, hh, q⟩ := q.ofO
  exact hr x y H1 Q P dx dy d E1.tk r1 r2 hh fun v H' x => q v H' (e.trans x)
section
variable {x : Str} {id T : String} {r : List V → Hp → VK → Prop}
theorem pd_b1 {h : Dt → Option Dt} (hc : CallR X (.builtin id) r) (hr : UnD X r h) (hv : bootBuiltins x = some (.builtin id)) (hn : x ≠ "__name__") (hdb : (x == ("__debug__" : Str)) = false) (hm : X.mg x = none) (ha : PB X W e f) (hg : Gl X x)
    (he : starEach [e] X.env = [(false, eval e X.env)]) : PD X W (.Call (.Name x p) [e] [] pos) (un h f) := pe_weak (pe_callB hc hg hm hv (pa_cons ha pa_nil he) hn hdb he rfl) fun _ _ _ q => una hr q
theorem pd_t1 {h : Dt → Option Dt} (hc : CallR X (.type T) r) (hr : UnD X r h) (hv : bootBuiltins x = some (.type T)) (hn : x ≠ "__name__") (hdb : (x == ("__debug__" : Str)) = false) (hm : X.mg x = none) (ha : PB X W e f) (hg : Gl X x)
    (he : starEach [e] X.env = [(false, eval e X.env)]) : PD X W (.Call (.Name x p) [e] [] pos) (un h f) := pe_weak (pe_callTy hc hg hm hv (pa_cons ha pa_nil he) hn hdb he rfl) fun _ _ _ q => una hr q
theorem pn_b1 {h : Dt → Option (List Dt)} (hc : CallR X (.builtin id) r) (hr : UnN X r h) (hv : bootBuiltins x = some (.builtin id)) (hn : x ≠ "__name__") (hdb : (x == ("__debug__" : Str)) = false) (hm : X.mg x = none) (ha : PB X W e f) (hg : Gl X x)
    (he : starEach [e] X.env = [(false, eval e X.env)]) : PN X W (.Call (.Name x p) [e] [] pos) (unN h f) := pe_weak (pe_callB hc hg hm hv (pa_cons ha pa_nil he) hn hdb he rfl) fun _ _ _ q => unaN hr q
theorem pn_t1 {h : Dt → Option (List Dt)} (hc : CallR X (.type T) r) (hr : UnN X r h) (hv : bootBuiltins x = some (.type T)) (hn : x ≠ "__name__") (hdb : (x == ("__debug__" : Str)) = false) (hm : X.mg x = none) (ha : PB X W e f) (hg : Gl X x)
    (he : starEach [e] X.env = [(false, eval e X.env)]) : PN X W (.Call (.Name x p) [e] [] pos) (unN h f) := pe_weak (pe_callTy hc hg hm hv (pa_cons ha pa_nil he) hn hdb he rfl) fun _ _ _ q => unaN hr q
theorem pd_b2 {h : O2} (hc : CallR X (.builtin id) r) (hr : BiD X r h) (hv : bootBuiltins x = some (.builtin id)) (hn : x ≠ "__name__") (hdb : (x == ("__debug__" : Str)) = false) (hm : X.mg x = none) (ha : PB X W e f) (hb : PB X W b g) (hg : Gl X x)
    (he : starEach [e, b] X.env = (false, eval e X.env) :: starEach [b] X.env) (he2 : starEach [b] X.env = [(false, eval b X.env)]) (hpl : (backTo pos (starEach [b] X.env)).any (·.1) = false) :
    PD X W (.Call (.Name x p) [e, b] [] pos) (bin h f g) := pe_weak (pe_callB hc hg hm hv (pa_cons ha (pa_cons hb pa_nil he2) he) hn hdb he hpl) fun _ _ _ q => bia hr q
end
/-! the data's parts -/
def asI : List Dt → Option (List Int)
  | [] => some []
  | .int i :: r => (asI r).map fun xs => i :: xs
  | _ => none
def asB : List Dt → Option (List Bool)
  | [] => some []
  | .bl i :: r => (asB r).map fun xs => i :: xs
  | _ => none
theorem ints_some : ∀ {ds : List Dt} {ns : List Int}, asI ds = some ns → ds = ns.map .int
  | [], ns, h => by cases h; rfl
  | .int i :: r, ns, h => by
    rw [asI] at h
    cases q : asI r with
    | none => rw [q] at h; cases h
    | some xs => rw [q] at h; cases h; rw [ints_some q]; rfl
  | .non :: _, _, h | .bl _ :: _, _, h | .str _ :: _, _, h | .tup _ :: _, _, h | .lst _ :: _, _, h | .frl _ :: _, _, h | .ins _ _ _ :: _, _, h => by simp [asI] at h
theorem boos_some : ∀ {ds : List Dt} {ns : List Bool}, asB ds = some ns → ds = ns.map .bl
  | [], ns, h => by cases h; rfl
  | .bl i :: r, ns, h => by
    rw [asB] at h
    cases q : asB r with
    | none => rw [q] at h; cases h
    | some xs => rw [q] at h; cases h; rw [boos_some q]; rfl
  | .non :: _, _, h | .int _ :: _, _, h | .str _ :: _, _, h | .tup _ :: _, _, h | .lst _ :: _, _, h | .frl _ :: _, _, h | .ins _ _ _ :: _, _, h => by simp [asB] at h
theorem ints_map (ns : List Int) : asI (ns.map .int) = some ns := by
  induction ns with
  | nil => rfl
  | cons n ns ih => rw [List.map_cons, asI, ih]; rfl
theorem boos_map (ns : List Bool) : asB (ns.map .bl) = some ns := by
  induction ns with
  | nil => rfl
  | cons n ns ih => rw [List.map_cons, asB, ih]; rfl
/-- the items of a list -/
def Dt.items : Dt → Option (List Dt)
  | .lst xs => some xs
  | .frl xs => some xs
  | _ => none
theorem items_rep {H : Hp} {P : Pv} {d : Dt} {v : V} {ds : List Dt} (h : RepB X.K X.mg H P d v) (e : d.items = some ds) : ∃ a vs, v = .ref a ∧ SqL X.K H a vs ∧ Reps X.K X.mg H P ds vs := by
  cases d with
  | lst xs => cases e; obtain ⟨a, vs, q, h1, h2⟩ := h; exact ⟨a, vs, q, .of h1, h2⟩
  | frl xs => cases e; obtain ⟨a, vs, q, h1, h2⟩ := h; exact ⟨a, vs, q, h1.sq, h2⟩
  | _ => cases e
def lenD : Dt → Option Dt
  | .lst xs => some (.int xs.length)
  | .frl xs => some (.int xs.length)
  | .tup xs => some (.int xs.length)
  | .str z => if z.length ≤ sizeLine then some (.int z.length) else none
  | _ => none
theorem len_ok : UnD X (fun xs H Q => ∃ x n, xs = [x] ∧ LenV X.K x H n ∧ Q (.int n) H) lenD := fun x H Q P dx d _ r1 e q => by
  unfold lenD at e
  split at e
  · cases e
    obtain ⟨a, vs, rfl, h1, h2⟩ := r1
    exact ⟨_, vs.length, rfl, .inl ⟨vs, .of h1, rfl⟩, q _ H Ext.refl (by rw [h2.length]; rfl)⟩
  · cases e
    obtain ⟨a, vs, rfl, h1, h2⟩ := r1
    exact ⟨_, vs.length, rfl, .inl ⟨vs, h1.sq, rfl⟩, q _ H Ext.refl (by rw [h2.length]; rfl)⟩
  · cases e
    obtain ⟨a, vs, rfl, h1, h2⟩ := r1
    exact ⟨_, vs.length, rfl, .inr ⟨vs, h1, rfl⟩, q _ H Ext.refl (by rw [h2.length]; rfl)⟩
  · split at e
    · rename_i z hz
      cases e
      have e1 : x = V.str z := r1
      subst e1
      exact ⟨_, z.length, rfl, ⟨hz, rfl⟩, q _ H Ext.refl rfl⟩
    · cases e
  · cases e
theorem dLen (hm : X.mg "len" = none) (ha : PB X W e f) (hg : Gl X "len" := by rfl) (he : starEach [e] X.env = [(false, eval e X.env)] := by rfl) : PD X W (.Call (.Name "len" p) [e] [] pos) (un lenD f) :=
  pd_b1 call_len len_ok PySem.boot_len (by decide) (by decide) hm ha hg he
def absD : Dt → Option Dt
  | .int i => some (.int (if i < 0 then -i else i))
  | _ => none
theorem abs_ok : UnD X (fun xs H Q => ∃ i, xs = [.int i] ∧ Q (.int (if i < 0 then -i else i)) H) absD := fun x H Q P dx d _ r1 e q => by
  unfold absD at e
  split at e
  · cases e
    have e1 : x = V.int _ := r1
    exact ⟨_, by rw [e1], q _ H Ext.refl rfl⟩
  · cases e
theorem dAbs (hm : X.mg "abs" = none) (ha : PB X W e f) (hg : Gl X "abs" := by rfl) (he : starEach [e] X.env = [(false, eval e X.env)] := by rfl) : PD X W (.Call (.Name "abs" p) [e] [] pos) (un absD f) :=
  pd_b1 call_abs abs_ok (by decide +kernel) (by decide) (by decide) hm ha hg he
def intD : Dt → Option Dt
  | .int i => some (.int i)
  | .bl k => some (.int (if k then 1 else 0))
  | _ => none
theorem int_ok : UnD X (fun xs H Q => (∃ i, xs = [.int i] ∧ Q (.int i) H) ∨ ∃ k, xs = [.bl k] ∧ Q (.int (if k then 1 else 0)) H) intD := fun x H Q P dx d _ r1 e q => by
  unfold intD at e
  split at e
  · cases e
    have e1 : x = V.int _ := r1
    exact .inl ⟨_, by rw [e1], q _ H Ext.refl rfl⟩
  · cases e
    have e1 : x = V.bl _ := r1
    exact .inr ⟨_, by rw [e1], q _ H Ext.refl rfl⟩
  · cases e
theorem dInt (hm : X.mg "int" = none) (ha : PB X W e f) (hg : Gl X "int" := by rfl) (he : starEach [e] X.env = [(false, eval e X.env)] := by rfl) : PD X W (.Call (.Name "int" p) [e] [] pos) (un intD f) :=
  pd_t1 call_int1 int_ok (by decide +kernel) (by decide) (by decide) hm ha hg he
def strD : Dt → Option Dt
  | .int i => if i.natAbs.log2 < 1920 then some (.str (toString i)) else none
  | _ => none
theorem str_ok : UnD X (fun xs H Q => ∃ i, xs = [.int i] ∧ i.natAbs.log2 < 1920 ∧ Q (.str (toString i)) H) strD := fun x H Q P dx d _ r1 e q => by
  unfold strD at e
  split at e
  · split at e
    · cases e
      have e1 : x = V.int _ := r1
      exact ⟨_, by rw [e1], by assumption, q _ H Ext.refl rfl⟩
    · cases e
  · cases e
theorem dStr (hm : X.mg "str" = none) (ha : PB X W e f) (hg : Gl X "str" := by rfl) (he : starEach [e] X.env = [(false, eval e X.env)] := by rfl) : PD X W (.Call (.Name "str" p) [e] [] pos) (un strD f) :=
  pd_t1 call_str_int str_ok (by decide +kernel) (by decide) (by decide) hm ha hg he
/-! sums and the like -/
def minL : List Int → Int
  | [] => 0
  | x :: r => r.foldl (fun a b => if b < a then b else a) x
def maxL : List Int → Int
  | [] => 0
  | x :: r => r.foldl (fun a b => if a < b then b else a) x
theorem minF : ∀ (r : List Int) (x : Int), (r.foldl (fun a b => if b < a then b else a) x = x ∨ r.foldl (fun a b => if b < a then b else a) x ∈ r) ∧ r.foldl (fun a b => if b < a then b else a) x ≤ x ∧ ∀ y ∈ r, r.foldl (fun a b => if b < a then b else a) x ≤ y
  | [], x => ⟨.inl rfl, Int.le_refl _, by simp⟩
  | y :: r, x => by
    obtain ⟨h1, h2, h3⟩ := minF r (if y < x then y else x)
    have hz : (if y < x then y else x) ≤ x ∧ (if y < x then y else x) ≤ y := by split <;> omega
    rw [List.foldl_cons]
    refine ⟨?_, Int.le_trans h2 hz.1, ?_⟩
    · rcases h1 with h1 | h1
      · rw [h1]
        by_cases z : y < x
        · rw [if_pos z]; exact .inr List.mem_cons_self
        · rw [if_neg z]; exact .inl rfl
      · exact .inr (List.mem_cons_of_mem _ h1)
    · intro w hw
      rcases List.mem_cons.mp hw with rfl | hw
      · exact Int.le_trans h2 hz.2
      · exact h3 w hw
theorem maxF : ∀ (r : List Int) (x : Int), (r.foldl (fun a b => if a < b then b else a) x = x ∨ r.foldl (fun a b => if a < b then b else a) x ∈ r) ∧ x ≤ r.foldl (fun a b => if a < b then b else a) x ∧ ∀ y ∈ r, y ≤ r.foldl (fun a b => if a < b then b else a) x
  | [], x => ⟨.inl rfl, Int.le_refl _, by simp⟩
  | y :: r, x => by
    obtain ⟨h1, h2, h3⟩ := maxF r (if x < y then y else x)
    have hz : x ≤ (if x < y then y else x) ∧ y ≤ (if x < y then y else x) := by split <;> omega
    rw [List.foldl_cons]
    refine ⟨?_, Int.le_trans hz.1 h2, ?_⟩
    · rcases h1 with h1 | h1
      · rw [h1]
        by_cases z : x < y
        · rw [if_pos z]; exact .inr List.mem_cons_self
        · rw [if_neg z]; exact .inl rfl
      · exact .inr (List.mem_cons_of_mem _ h1)
    · intro w hw
      rcases List.mem_cons.mp hw with rfl | hw
      · exact Int.le_trans hz.2 h2
      · exact h3 w hw
theorem minL_mem {ns : List Int} (h : ns ≠ []) : minL ns ∈ ns ∧ ∀ y ∈ ns, minL ns ≤ y := by
  cases ns with
  | nil => exact absurd rfl h
  | cons x r =>
    obtain ⟨h1, h2, h3⟩ := minF r x
    refine ⟨?_, fun y hy => ?_⟩
    · rcases h1 with h1 | h1
      · rw [show minL (x :: r) = x from h1]; exact List.mem_cons_self
      · exact List.mem_cons_of_mem _ h1
    · rcases List.mem_cons.mp hy with rfl | hy
      · exact h2
      · exact h3 y hy
theorem maxL_mem {ns : List Int} (h : ns ≠ []) : maxL ns ∈ ns ∧ ∀ y ∈ ns, y ≤ maxL ns := by
  cases ns with
  | nil => exact absurd rfl h
  | cons x r =>
    obtain ⟨h1, h2, h3⟩ := maxF r x
    refine ⟨?_, fun y hy => ?_⟩
    · rcases h1 with h1 | h1
      · rw [show maxL (x :: r) = x from h1]; exact List.mem_cons_self
      · exact List.mem_cons_of_mem _ h1
    · rcases List.mem_cons.mp hy with rfl | hy
      · exact h2
      · exact h3 y hy
theorem minL_of {ns : List Int} {m : Int} (h : m ∈ ns) (k : ∀ y ∈ ns, m ≤ y) : minL ns = m := by
  have hn : ns ≠ [] := fun z => by rw [z] at h; cases h
  obtain ⟨h1, h2⟩ := minL_mem hn
  have := h2 m h
  have := k _ h1
  omega
theorem maxL_of {ns : List Int} {m : Int} (h : m ∈ ns) (k : ∀ y ∈ ns, y ≤ m) : maxL ns = m := by
  have hn : ns ≠ [] := fun z => by rw [z] at h; cases h
  obtain ⟨h1, h2⟩ := maxL_mem hn
  have := h2 m h
  have := k _ h1
  omega
def overI (k : List Int → Option Dt) : Dt → Option Dt := fun x => x.items.bind fun ds => (asI ds).bind k
def overB (k : List Bool → Option Dt) : Dt → Option Dt := fun x => x.items.bind fun ds => (asB ds).bind k
theorem overI_some {k : List Int → Option Dt} {x d : Dt} (h : overI k x = some d) : ∃ ns, x.items = some (ns.map .int) ∧ k ns = some d := by
  unfold overI at h
  cases e : x.items with
  | none => rw [e] at h; cases h
  | some ds =>
    rw [e] at h
    cases e2 : asI ds with
    | none => rw [Option.bind_some, e2] at h; cases h
    | some ns => rw [Option.bind_some, e2] at h; exact ⟨ns, by rw [ints_some e2], h⟩
theorem overB_some {k : List Bool → Option Dt} {x d : Dt} (h : overB k x = some d) : ∃ ns, x.items = some (ns.map .bl) ∧ k ns = some d := by
  unfold overB at h
  cases e : x.items with
  | none => rw [e] at h; cases h
  | some ds =>
    rw [e] at h
    cases e2 : asB ds with
    | none => rw [Option.bind_some, e2] at h; cases h
    | some ns => rw [Option.bind_some, e2] at h; exact ⟨ns, by rw [boos_some e2], h⟩
def sumD : Dt → Option Dt := overI fun ns => some (.int ns.sum)
def minD : Dt → Option Dt := overI fun ns => if ns = [] then none else some (.int (minL ns))
def maxD : Dt → Option Dt := overI fun ns => if ns = [] then none else some (.int (maxL ns))
def allD : Dt → Option Dt := overB fun bs => some (.bl (bs.all id))
def anyD : Dt → Option Dt := overB fun bs => some (.bl (bs.any id))
theorem sum_ok : UnD X (rSum X.K) sumD := fun x H Q P dx d _ r1 e q => by
  obtain ⟨ns, h1, h2⟩ := overI_some e
  cases h2
  obtain ⟨a, vs, rfl, h3, h4⟩ := items_rep r1 h1
  exact ⟨a, ns, rfl, by rw [← h4.ints]; exact h3, q _ H Ext.refl rfl⟩
theorem min_ok : UnD X (rMin X.K) minD := fun x H Q P dx d _ r1 e q => by
  obtain ⟨ns, h1, h2⟩ := overI_some e
  split at h2
  · cases h2
  · rename_i hn
    cases h2
    obtain ⟨a, vs, rfl, h3, h4⟩ := items_rep r1 h1
    exact ⟨a, ns, rfl, by rw [← h4.ints]; exact h3, List.length_pos_iff.mpr hn, fun m hm hk => q _ H Ext.refl (by rw [minL_of hm hk]; rfl)⟩
theorem max_ok : UnD X (rMax X.K) maxD := fun x H Q P dx d _ r1 e q => by
  obtain ⟨ns, h1, h2⟩ := overI_some e
  split at h2
  · cases h2
  · rename_i hn
    cases h2
    obtain ⟨a, vs, rfl, h3, h4⟩ := items_rep r1 h1
    exact ⟨a, ns, rfl, by rw [← h4.ints]; exact h3, List.length_pos_iff.mpr hn, fun m hm hk => q _ H Ext.refl (by rw [maxL_of hm hk]; rfl)⟩
theorem all_ok : UnD X (rAll X.K) allD := fun x H Q P dx d _ r1 e q => by
  obtain ⟨ns, h1, h2⟩ := overB_some e
  cases h2
  obtain ⟨a, vs, rfl, h3, h4⟩ := items_rep r1 h1
  exact ⟨a, ns, rfl, by rw [← h4.bls]; exact h3, q _ H Ext.refl rfl⟩
theorem any_ok : UnD X (rAny X.K) anyD := fun x H Q P dx d _ r1 e q => by
  obtain ⟨ns, h1, h2⟩ := overB_some e
  cases h2
  obtain ⟨a, vs, rfl, h3, h4⟩ := items_rep r1 h1
  exact ⟨a, ns, rfl, by rw [← h4.bls]; exact h3, q _ H Ext.refl rfl⟩
theorem dSum (hm : X.mg "sum" = none) (ha : PB X W e f) (hc : X.calm = true := by rfl) (hg : Gl X "sum" := by rfl) (he : starEach [e] X.env = [(false, eval e X.env)] := by rfl) : PD X W (.Call (.Name "sum" p) [e] [] pos) (un sumD f) :=
  pd_b1 (cr_sum hc) sum_ok (by decide +kernel) (by decide) (by decide) hm ha hg he
theorem dMin (hm : X.mg "min" = none) (ha : PB X W e f) (hc : X.calm = true := by rfl) (hg : Gl X "min" := by rfl) (he : starEach [e] X.env = [(false, eval e X.env)] := by rfl) : PD X W (.Call (.Name "min" p) [e] [] pos) (un minD f) :=
  pd_b1 (cr_min hc) min_ok (by decide +kernel) (by decide) (by decide) hm ha hg he
theorem dMax (hm : X.mg "max" = none) (ha : PB X W e f) (hc : X.calm = true := by rfl) (hg : Gl X "max" := by rfl) (he : starEach [e] X.env = [(false, eval e X.env)] := by rfl) : PD X W (.Call (.Name "max" p) [e] [] pos) (un maxD f) :=
  pd_b1 (cr_max hc) max_ok (by decide +kernel) (by decide) (by decide) hm ha hg he
theorem dAll (hm : X.mg "all" = none) (ha : PB X W e f) (hc : X.calm = true := by rfl) (hg : Gl X "all" := by rfl) (he : starEach [e] X.env = [(false, eval e X.env)] := by rfl) : PD X W (.Call (.Name "all" p) [e] [] pos) (un allD f) :=
  pd_b1 (cr_all hc) all_ok (by decide +kernel) (by decide) (by decide) hm ha hg he
theorem dAny (hm : X.mg "any" = none) (ha : PB X W e f) (hc : X.calm = true := by rfl) (hg : Gl X "any" := by rfl) (he : starEach [e] X.env = [(false, eval e X.env)] := by rfl) : PD X W (.Call (.Name "any" p) [e] [] pos) (un anyD f) :=
  pd_b1 (cr_any hc) any_ok (by decide +kernel) (by decide) (by decide) hm ha hg he
def max2D : O2
  | .int i, .int j => some (.int (if j > i then j else i))
  | _, _ => none
def min2D : O2
  | .int i, .int j => some (.int (if j < i then j else i))
  | _, _ => none
theorem max2_ok : BiD X (fun xs H Q => ∃ i j, xs = [.int i, .int j] ∧ Q (.int (if j > i then j else i)) H) max2D := fun x y H Q P dx dy d _ r1 r2 e q => by
  unfold max2D at e
  split at e
  · cases e
    have e1 : x = V.int _ := r1
    have e2 : y = V.int _ := r2
    exact ⟨_, _, by rw [e1, e2], q _ H Ext.refl rfl⟩
  · cases e
theorem min2_ok : BiD X (fun xs H Q => ∃ i j, xs = [.int i, .int j] ∧ Q (.int (if j < i then j else i)) H) min2D := fun x y H Q P dx dy d _ r1 r2 e q => by
  unfold min2D at e
  split at e
  · cases e
    have e1 : x = V.int _ := r1
    have e2 : y = V.int _ := r2
    exact ⟨_, _, by rw [e1, e2], q _ H Ext.refl rfl⟩
  · cases e
theorem dMax2 (hm : X.mg "max" = none) (ha : PB X W e f) (hb : PB X W b g) (hc : X.calm = true := by rfl) (hg : Gl X "max" := by rfl) (he : starEach [e, b] X.env = (false, eval e X.env) :: starEach [b] X.env := by rfl) (he2 : starEach [b] X.env = [(false, eval b X.env)] := by rfl)
    (hpl : (backTo pos (starEach [b] X.env)).any (·.1) = false := by rfl) : PD X W (.Call (.Name "max" p) [e, b] [] pos) (bin max2D f g) := pd_b2 (call_max2 hc) max2_ok (by decide +kernel) (by decide) (by decide) hm ha hb hg he he2 hpl
theorem dMin2 (hm : X.mg "min" = none) (ha : PB X W e f) (hb : PB X W b g) (hc : X.calm = true := by rfl) (hg : Gl X "min" := by rfl) (he : starEach [e, b] X.env = (false, eval e X.env) :: starEach [b] X.env := by rfl) (he2 : starEach [b] X.env = [(false, eval b X.env)] := by rfl)
    (hpl : (backTo pos (starEach [b] X.env)).any (·.1) = false := by rfl) : PD X W (.Call (.Name "min" p) [e, b] [] pos) (bin min2D f g) := pd_b2 (call_min2 hc) min2_ok (by decide +kernel) (by decide) (by decide) hm ha hb hg he he2 hpl
/-! lists and tuples made of lists and tuples -/
def tupD : Dt → Option Dt
  | .lst xs => some (.tup xs)
  | .tup xs => some (.tup xs)
  | _ => none
theorem tuple_ok : UnD X (fun xs H Q => ∃ p ys, xs = [.ref p] ∧ ((SqL X.K H p ys ∧ ∀ l, H l = none → Q (.ref l) (upd H l (.tup ys))) ∨ (SqT X.K H p ys ∧ Q (.ref p) H))) tupD := fun x H Q P dx d tk r1 e q => by
  unfold tupD at e
  split at e
  · cases e
    obtain ⟨a, vs, rfl, h1, h2⟩ := r1
    exact ⟨a, vs, rfl, .inl ⟨.of h1, fun l hl => q _ _ (Ext.new hl) ⟨l, vs, rfl, .of upd_same, h2.ext (Ext.new hl)⟩⟩⟩
  · cases e
    obtain ⟨a, vs, rfl, h1, h2⟩ := r1
    exact ⟨a, vs, rfl, .inr ⟨h1, q _ H Ext.refl ⟨a, vs, rfl, h1, h2⟩⟩⟩
  · cases e
theorem dTuple (hm : X.mg "tuple" = none) (ha : PB X W e f) (hg : Gl X "tuple" := by rfl) (he : starEach [e] X.env = [(false, eval e X.env)] := by rfl) : PD X W (.Call (.Name "tuple" p) [e] [] pos) (un tupD f) :=
  pd_t1 call_tuple_of tuple_ok (by decide +kernel) (by decide) (by decide) hm ha hg he
def listD : Dt → Option (List Dt)
  | .lst xs => some xs
  | .frl xs => some xs
  | .tup xs => some xs
  | _ => none
theorem list_ok : UnN X (fun xs H Q => ∃ p ys, xs = [.ref p] ∧ (SqL X.K H p ys ∨ SqT X.K H p ys) ∧ ∀ l, H l = none → Q (.ref l) (upd H l (.lst ys))) listD := fun x H Q P dx d tk r1 e q => by
  have fin : ∀ {vs : List V}, Reps X.K X.mg H P d vs → ∀ l, H l = none → Q (.ref l) (upd H l (.lst vs)) := fun h2 l hl => q l _ _ (Ext.new hl) (.of hl) upd_same ((Reps.tr (Tr.more (.of hl)) _ _ h2).ext (Ext.new hl))
  unfold listD at e
  split at e
  · cases e
    obtain ⟨a, vs, rfl, h1, h2⟩ := r1
    exact ⟨a, vs, rfl, .inl (.of h1), fin h2⟩
  · cases e
    obtain ⟨a, vs, rfl, h1, h2⟩ := r1
    exact ⟨a, vs, rfl, .inl h1.sq, fin h2⟩
  · cases e
    obtain ⟨a, vs, rfl, h1, h2⟩ := r1
    exact ⟨a, vs, rfl, .inr h1, fin h2⟩
  · cases e
theorem nList (hm : X.mg "list" = none) (ha : PB X W e f) (hg : Gl X "list" := by rfl) (he : starEach [e] X.env = [(false, eval e X.env)] := by rfl) : PN X W (.Call (.Name "list" p) [e] [] pos) (unN listD f) :=
  pn_t1 call_list_of list_ok (by decide +kernel) (by decide) (by decide) hm ha hg he
end DL
end
section
set_option Elab.async false
set_option linter.all false
set_option maxRecDepth 100000
set_option autoImplicit false
namespace DL
open PySem PySem.Spec PyProof.Rows L2
variable {X : Cx} {W : WX} {e a b c : Expr} {es rest : List Expr} {f g h : Fn} {pos p : Pos}

/-! ### what is walked -/
/-- J yields the items ds, as long as the heap is kept as Kp says -/
structure ItOk (K : PySem.W.Frag) (mg : Mg) (Kp : Hp → Hp → Prop) (P : Pv) (J : It) (ds : List Dt) (H : Hp) : Prop where
  go : ∀ (i : Nat) (H2 : Hp) (d : Dt), Kp H H2 → ds[i]? = some d → J.go i H2 ∧ ∀ x H3, J.yld i H2 x H3 → H3 = H2 ∧ Rep K mg H P d x
  stop : ∀ (i : Nat) (H2 : Hp), Kp H H2 → ds.length ≤ i → J.stop i H2
abbrev KE : Pv → Hp → Hp → Prop := fun _ => Ext
abbrev KS : Pv → Hp → Hp → Prop := fun P => Tr P P
def tI (X : Cx) (W : WX) (Kp : Pv → Hp → Hp → Prop) (f : Fs) : TI := fun σ H R => ∃ P ε, EOk X.K X.mg P σ H ε ∧ Out X W σ H (f ε) fun ds => ∀ J H', Ext H H' → ItOk X.K X.mg (Kp P) P J ds H' → R J H'
def ID (X : Cx) (W : WX) (tg iter : Expr) (f : Fs) : Prop := PI X tg iter (tI X W KE f)
def IS (X : Cx) (W : WX) (tg iter : Expr) (f : Fs) : Prop := PI X tg iter (tI X W KS f)
theorem pi_weak {tg iter : Expr} {t t' : TI} (h : PI X tg iter t) (k : ∀ σ H R, t' σ H R → t σ H R) : PI X tg iter t' := ⟨fun pins s σ H R I q => h.run pins s σ H R I (k σ H R q)⟩
theorem pi_or {tg iter : Expr} {t t' : TI} (h : PI X tg iter t) (h' : PI X tg iter t') : PI X tg iter (fun σ H R => t σ H R ∨ t' σ H R) := ⟨fun pins s σ H R I q => q.elim (h.run pins s σ H R I) (h'.run pins s σ H R I)⟩
theorem it_list {Kp : Hp → Hp → Prop} {P : Pv} {H : Hp} {a : Addr} {ds : List Dt} {vs : List V} (hk : ∀ H2, Kp H H2 → SqL X.K H2 a vs) (huniq : ∀ H2, Kp H H2 → ∀ xs, SqL X.K H2 a xs → True) (r : Reps X.K X.mg H P ds vs) : ItOk X.K X.mg Kp P (Itl X.K a) ds H := by
  refine ⟨fun i H2 d k hd => ?_, fun i H2 k hi => ⟨vs, hk H2 k, by rw [← r.length]; exact hi⟩⟩
  obtain ⟨v, h1, h2⟩ := r.get hd
  refine ⟨⟨vs, v, hk H2 k, h1⟩, fun x H3 y => ⟨y.1, ?_⟩⟩
  have z := y.2 vs (hk H2 k)
  rw [h1] at z
  cases z
  exact h2
theorem it_tup {Kp : Hp → Hp → Prop} {P : Pv} {H : Hp} {a : Addr} {ds : List Dt} {vs : List V} (hk : ∀ H2, Kp H H2 → SqT X.K H2 a vs) (r : Reps X.K X.mg H P ds vs) : ItOk X.K X.mg Kp P (Itt X.K a) ds H := by
  refine ⟨fun i H2 d k hd => ?_, fun i H2 k hi => ⟨vs, hk H2 k, by rw [← r.length]; exact hi⟩⟩
  obtain ⟨v, h1, h2⟩ := r.get hd
  refine ⟨⟨vs, v, hk H2 k, h1⟩, fun x H3 y => ⟨y.1, ?_⟩⟩
  have z := y.2 vs (hk H2 k)
  rw [h1] at z
  cases z
  exact h2
def signs (z : Str) : List Dt := z.cps.toList.map fun c => .str ⟨#[c]⟩
theorem it_str {Kp : Hp → Hp → Prop} {P : Pv} {H : Hp} {z : Str} : ItOk X.K X.mg Kp P (Its z) (signs z) H := by
  refine ⟨fun i H2 d k hd => ?_, fun i H2 k hi => ?_⟩
  · unfold signs at hd
    rw [List.getElem?_map] at hd
    cases q : z.cps.toList[i]? with
    | none => rw [q] at hd; cases hd
    | some c =>
      rw [q] at hd
      cases hd
      have hi : i < z.cps.toList.length := (List.getElem?_eq_some_iff.mp q).1
      refine ⟨show i < z.cps.size by simpa using hi, fun x H3 y => ⟨y.1, ?_⟩⟩
      obtain ⟨c', h1, h2⟩ := y.2
      rw [Array.getElem?_toList] at q
      rw [q] at h1
      cases h1
      exact h2
  · unfold signs at hi
    have : z.cps.size ≤ i := by simpa using hi
    exact this
def walked : Dt → Option (List Dt)
  | .lst xs => some xs
  | .frl xs => some xs
  | .tup xs => some xs
  | .str z => some (signs z)
  | _ => none
def iterF (f : Fn) : Fs := fun ε => (f ε).bind fun x => .ofO (walked x)
theorem itB {tg : Expr} (ha : PB X W e f) : ID X W tg e (iterF f) := pi_weak (pi_or (pi_list ha) (pi_or (pi_tup ha) (pi_str ha))) fun σ H R ⟨P, ε, E, q⟩ => by
  have q := q.bind
  cases hf : f ε with
  | bad => rw [hf] at q; exact q.elim
  | ex c =>
    rw [hf] at q
    exact .inl ⟨P, ε, E, by rw [hf]; exact q⟩
  | ok x =>
    rw [hf] at q
    obtain ⟨ds, h1, q⟩ := Out.ofO (show Out X W σ H (.ofO (walked x)) _ from q)
    cases x with
    | lst xs =>
      cases h1
      refine .inl ⟨P, ε, E, ?_⟩
      rw [hf]
      intro v H1 e1 r1
      obtain ⟨a, vs, rfl, h2, h3⟩ := r1
      exact ⟨a, rfl, ⟨vs, .of h2⟩, q _ H1 e1 (it_list (fun H2 k => .of (k.at_ h2 nt_lst)) (fun _ _ _ _ => trivial) h3)⟩
    | frl xs =>
      cases h1
      refine .inl ⟨P, ε, E, ?_⟩
      rw [hf]
      intro v H1 e1 r1
      obtain ⟨a, vs, rfl, h2, h3⟩ := r1
      exact ⟨a, rfl, ⟨vs, h2.sq⟩, q _ H1 e1 (it_list (fun H2 k => k.sqL h2.sq) (fun _ _ _ _ => trivial) h3)⟩
    | tup xs =>
      cases h1
      refine .inr (.inl ⟨P, ε, E, ?_⟩)
      rw [hf]
      intro v H1 e1 r1
      obtain ⟨a, vs, rfl, h2, h3⟩ := r1
      exact ⟨a, rfl, ⟨vs, h2⟩, q _ H1 e1 (it_tup (fun H2 k => k.sqT h2) h3)⟩
    | str z =>
      cases h1
      refine .inr (.inr ⟨P, ε, E, ?_⟩)
      rw [hf]
      intro v H1 e1 r1
      exact ⟨z, r1, q _ H1 e1 it_str⟩
    | non => cases h1
    | bl _ => cases h1
    | int _ => cases h1
    | ins _ _ _ => cases h1
theorem itS {tg : Expr} (ha : PD X W e f) : IS X W tg e (iterF f) := pi_weak (pi_or (pi_list ha) (pi_or (pi_tup ha) (pi_str ha))) fun σ H R ⟨P, ε, E, q⟩ => by
  have q := q.bind
  cases hf : f ε with
  | bad => rw [hf] at q; exact q.elim
  | ex c =>
    rw [hf] at q
    exact .inl ⟨P, ε, E, by rw [hf]; exact q⟩
  | ok x =>
    rw [hf] at q
    obtain ⟨ds, h1, q⟩ := Out.ofO (show Out X W σ H (.ofO (walked x)) _ from q)
    cases x with
    | lst xs =>
      cases h1
      refine .inl ⟨P, ε, E, ?_⟩
      rw [hf]
      intro v H1 e1 r1
      obtain ⟨a, vs, rfl, h2, n, h3⟩ := r1
      exact ⟨a, rfl, ⟨vs, .of h2⟩, q _ H1 e1 (it_list (fun H2 k => .of (k.keep _ _ h2 nt_lst n)) (fun _ _ _ _ => trivial) h3)⟩
    | frl xs =>
      cases h1
      refine .inl ⟨P, ε, E, ?_⟩
      rw [hf]
      intro v H1 e1 r1
      obtain ⟨a, vs, rfl, h2, h3⟩ := r1
      exact ⟨a, rfl, ⟨vs, h2.sq⟩, q _ H1 e1 (it_list (fun H2 k => (k.sqF h2).sq) (fun _ _ _ _ => trivial) h3)⟩
    | tup xs =>
      cases h1
      refine .inr (.inl ⟨P, ε, E, ?_⟩)
      rw [hf]
      intro v H1 e1 r1
      obtain ⟨a, vs, rfl, h2, h3⟩ := r1
      exact ⟨a, rfl, ⟨vs, h2⟩, q _ H1 e1 (it_tup (fun H2 k => k.sqT h2) h3)⟩
    | str z =>
      cases h1
      refine .inr (.inr ⟨P, ε, E, ?_⟩)
      rw [hf]
      intro v H1 e1 r1
      exact ⟨z, r1, q _ H1 e1 it_str⟩
    | non => cases h1
    | bl _ => cases h1
    | int _ => cases h1
    | ins _ _ _ => cases h1
/-- range(n) -/
def upTo (lo : Int) (n : Nat) : List Dt := (List.range n).map fun (i : Nat) => Dt.int (lo + i)
theorem it_rng {Kp : Hp → Hp → Prop} {P : Pv} {H : Hp} {lo : Int} {n : Nat} : ItOk X.K X.mg Kp P (Itr lo n) (upTo lo n) H := by
  refine ⟨fun i H2 d k hd => ?_, fun i H2 k hi => show n ≤ i by simpa [upTo] using hi⟩
  unfold upTo at hd
  by_cases hn : i < n
  · rw [List.getElem?_map, List.getElem?_range hn] at hd
    cases hd
    exact ⟨hn, fun x H3 y => ⟨y.1, y.2⟩⟩
  · rw [List.getElem?_eq_none (by simpa using hn)] at hd
    cases hd
def rngD : Dt → Option (List Dt)
  | .int j => if -(2 ^ 62) ≤ j ∧ j < 2 ^ 62 then some (upTo 0 j.toNat) else none
  | _ => none
def rngF (f : Fn) : Fs := fun ε => (f ε).bind fun x => .ofO (rngD x)
theorem tI_rng {Kp : Pv → Hp → Hp → Prop} {σ : St} {H : Hp} {R : It → Hp → Prop} (h : tI X W Kp (rngF f) σ H R) : iRng1 (tCons (tB X W f) tNil) σ H R := by
  obtain ⟨P, ε, E, q⟩ := h
  exact ⟨P, ε, E, q.bind.mono fun d q v H1 e1 r1 => by
    obtain ⟨ds, h1, q⟩ := q.ofO
    cases d with
    | int j =>
      unfold rngD at h1
      dsimp only at h1
      split at h1
      · rename_i hz
        cases h1
        have e2 : v = V.int j := r1
        exact ⟨j, by rw [e2], hz.1, hz.2, q _ H1 e1 it_rng⟩
      · cases h1
    | _ => cases h1⟩
theorem itR {tg : Expr} (hm : X.mg "range" = none) (ha : PB X W e f) (hg : Gl X "range" := by rfl) (he : starEach [e] X.env = [(false, eval e X.env)] := by rfl) : ID X W tg (.Call (.Name "range" p) [e] [] pos) (rngF f) :=
  pi_weak (pi_range1 hg hm (pa_cons ha pa_nil he) he) fun _ _ _ h => tI_rng h
theorem itRS {tg : Expr} (hm : X.mg "range" = none) (ha : PB X W e f) (hg : Gl X "range" := by rfl) (he : starEach [e] X.env = [(false, eval e X.env)] := by rfl) : IS X W tg (.Call (.Name "range" p) [e] [] pos) (rngF f) :=
  pi_weak (pi_range1 hg hm (pa_cons ha pa_nil he) he) fun _ _ _ h => tI_rng h

/-! ### targets -/
abbrev Sf := Dt → Ev → Option Ev
structure SameBut (js : List Nat) (σ σ' : St) : Prop where
  ln : σ'.length = σ.length
  at_ : ∀ i, i ∉ js → σ'[i]? = σ[i]?
structure SetOk (js : List Nat) (set : Sf) : Prop where
  ln : ∀ d ε ε', set d ε = some ε' → ε'.length = ε.length
  out : ∀ d ε ε', set d ε = some ε' → ∀ i, i ∉ js → ε'[i]? = ε[i]?
  in_ : ∀ d ε ε', set d ε = some ε' → ∀ i ∈ js, ∀ l, ε'[i]? = some l → ∃ x, l = .d x
def gD (X : Cx) (js : List Nat) (set : Sf) : TG := fun v σ H Q => ∃ P ε d ε', EOk X.K X.mg P σ H ε ∧ Rep X.K X.mg H P d v ∧ set d ε = some ε' ∧ ∀ σ', EOk X.K X.mg P σ' H ε' → SameBut js σ σ' → Q σ' H
structure GD (X : Cx) (tg : Expr) (js : List Nat) (set : Sf) : Prop where
  run : PG X tg (gD X js set)
  ok : SetOk js set
theorem pg_weak {tg : Expr} {t t' : TG} (h : PG X tg t) (k : ∀ v σ H Q, t' v σ H Q → t v σ H Q) : PG X tg t' := ⟨fun pins s σ H v u Q I r q => h.run pins s σ H v u Q I r (k v σ H Q q)⟩
theorem pgs_weak {tg : List Expr} {t t' : TGs} (h : PGs X tg t) (k : ∀ v σ H Q, t' v σ H Q → t v σ H Q) : PGs X tg t' := ⟨fun pins s σ H v u Q I r q => h.run pins s σ H v u Q I r (k v σ H Q q)⟩
theorem EOk.set {K : PySem.W.Frag} {mg : Mg} {P : Pv} {σ : St} {H : Hp} {ε : Ev} (E : EOk K mg P σ H ε) {d : Dt} {v : V} (r : Rep K mg H P d v) (i : Nat) : EOk K mg P (σ.set i (some v)) H (ε.set i (.d d)) := by
  refine ⟨by rw [List.length_set, List.length_set, E.ln], E.tk, fun j l h => ?_⟩
  by_cases hj : i = j
  · subst hj
    by_cases hi : i < ε.length
    · rw [List.getElem?_set_self hi] at h
      cases h
      rw [List.getElem?_set_self (by rw [← E.ln]; exact hi)]
      exact ⟨v, rfl, r⟩
    · rw [List.getElem?_eq_none (by rw [List.length_set]; omega)] at h
      cases h
  · rw [List.getElem?_set_ne hj] at h ⊢
    exact E.sl j l h
def setN (i : Nat) : Sf := fun d ε => some (ε.set i (.d d))
theorem setN_ok (i : Nat) : SetOk [i] (setN i) := ⟨fun d ε ε' h => by cases h; exact List.length_set, fun d ε ε' h j hj => by cases h; exact List.getElem?_set_ne (fun z => hj (by simp [z])), fun d ε ε' h j hj l hl => by
  cases h
  have e : j = i := by simpa using hj
  subst e
  by_cases hi : j < ε.length
  · rw [List.getElem?_set_self hi] at hl; cases hl; exact ⟨d, rfl⟩
  · rw [List.getElem?_eq_none (by rw [List.length_set]; omega)] at hl; cases hl⟩
theorem gdN {i : Nat} {x : Str} (hN : X.N.Nodup) (hi : X.N[i]? = some x) (hx : Loc X.env.scope x) (hf : X.fn x = true ∨ X.env.scope.names.lookup x = some .local := by first | exact .inl rfl | exact .inr rfl | assumption) : GD X (.Name x pos) [i] (setN i) :=
  ⟨pg_weak (pg_name hN hi hx hf) fun v σ H Q ⟨P, ε, d, ε', E, r, hs, q⟩ => by
    cases hs
    exact q _ (E.set r i) ⟨List.length_set, fun j hj => List.getElem?_set_ne (fun z => hj (by simp [z]))⟩, setN_ok i⟩
/-- several targets -/
abbrev Ss := List Dt → Ev → Option Ev
def gDs (X : Cx) (js : List Nat) (set : Ss) : TGs := fun vs σ H Q => ∃ P ε ds ε', EOk X.K X.mg P σ H ε ∧ Reps X.K X.mg H P ds vs ∧ set ds ε = some ε' ∧ ∀ σ', EOk X.K X.mg P σ' H ε' → SameBut js σ σ' → Q σ' H
structure SetsOk (js : List Nat) (set : Ss) : Prop where
  ln : ∀ d ε ε', set d ε = some ε' → ε'.length = ε.length
  out : ∀ d ε ε', set d ε = some ε' → ∀ i, i ∉ js → ε'[i]? = ε[i]?
  in_ : ∀ d ε ε', set d ε = some ε' → ∀ i ∈ js, ∀ l, ε'[i]? = some l → ∃ x, l = .d x
structure GDs (X : Cx) (tg : List Expr) (js : List Nat) (set : Ss) : Prop where
  run : PGs X tg (gDs X js set)
  ok : SetsOk js set
def setNil : Ss := fun ds ε => match ds with
  | [] => some ε
  | _ => none
def setCons (s : Sf) (t : Ss) : Ss := fun ds ε => match ds with
  | d :: r => (s d ε).bind (t r)
  | [] => none
theorem gds_nil : GDs X [] [] setNil := ⟨pgs_weak pgs_nil fun vs σ H Q ⟨P, ε, ds, ε', E, r, hs, q⟩ => by
  cases ds with
  | nil => cases hs; exact ⟨r, q σ E ⟨rfl, fun _ _ => rfl⟩⟩
  | cons d r => (cases hs), ⟨fun d ε ε' h => by cases d <;> cases h; rfl, fun d ε ε' h i _ => by cases d <;> cases h; rfl, fun _ _ _ _ _ h => nomatch h⟩⟩
theorem gds_cons {tg : Expr} {tgs : List Expr} {js ks : List Nat} {s : Sf} {t : Ss} (h1 : GD X tg js s) (h2 : GDs X tgs ks t) (hs : (assignEach (tg :: tgs) X.env).map (·.2) = assign tg X.env :: (assignEach tgs X.env).map (·.2) := by rfl) : GDs X (tg :: tgs) (js ++ ks) (setCons s t) := by
  refine ⟨pgs_weak (pgs_cons h1.run h2.run hs) fun vs σ H Q ⟨P, ε, ds, ε', E, r, hs, q⟩ => ?_, ?_⟩
  · cases ds with
    | nil => cases hs
    | cons d ds =>
      obtain ⟨v, vr, rfl, r1, r2⟩ := r
      obtain ⟨ε1, s1, s2⟩ := Option.bind_eq_some_iff.mp (show (s d ε).bind (t ds) = some ε' from hs)
      refine ⟨v, vr, rfl, P, ε, d, ε1, E, r1, s1, fun σ1 E1 b1 => ⟨P, ε1, ds, ε', E1, r2, s2, fun σ2 E2 b2 => q σ2 E2 ⟨b2.ln.trans b1.ln, fun i hi => ?_⟩⟩⟩
      rw [List.mem_append, not_or] at hi
      rw [b2.at_ i hi.2, b1.at_ i hi.1]
  · refine ⟨fun d ε ε' h => ?_, fun d ε ε' h i hi => ?_, fun d ε ε' h i hi l hl => ?_⟩
    all_goals
      cases d with
      | nil => cases h
      | cons d ds => ?_
    · obtain ⟨ε1, s1, s2⟩ := Option.bind_eq_some_iff.mp (show (s d ε).bind (t ds) = some ε' from h)
      rw [h2.ok.ln _ _ _ s2, h1.ok.ln _ _ _ s1]
    · obtain ⟨ε1, s1, s2⟩ := Option.bind_eq_some_iff.mp (show (s d ε).bind (t ds) = some ε' from h)
      rw [List.mem_append, not_or] at hi
      rw [h2.ok.out _ _ _ s2 i hi.2, h1.ok.out _ _ _ s1 i hi.1]
    · obtain ⟨ε1, s1, s2⟩ := Option.bind_eq_some_iff.mp (show (s d ε).bind (t ds) = some ε' from h)
      by_cases hk : i ∈ ks
      · exact h2.ok.in_ _ _ _ s2 i hk l hl
      · rw [h2.ok.out _ _ _ s2 i hk] at hl
        exact h1.ok.in_ _ _ _ s1 i ((List.mem_append.mp hi).resolve_right hk) l hl
/-- unpacking -/
def setT (n : Nat) (t : Ss) : Sf := fun d ε => match d with
  | .tup ds => if ds.length = n then t ds ε else none
  | .lst ds => if ds.length = n then t ds ε else none
  | _ => none
theorem setT_some {n : Nat} {t : Ss} {d : Dt} {ε ε' : Ev} (h : setT n t d ε = some ε') : ∃ ds, (d = .tup ds ∨ d = .lst ds) ∧ ds.length = n ∧ t ds ε = some ε' := by
  cases d with
  | tup ds =>
    by_cases z : ds.length = n
    · rw [setT, if_pos z] at h; exact ⟨ds, .inl rfl, z, h⟩
    · rw [setT, if_neg z] at h; cases h
  | lst ds =>
    by_cases z : ds.length = n
    · rw [setT, if_pos z] at h; exact ⟨ds, .inr rfl, z, h⟩
    · rw [setT, if_neg z] at h; cases h
  | _ => cases h
theorem pg_or {tg : Expr} {t t' : TG} (h : PG X tg t) (h' : PG X tg t') : PG X tg (fun v σ H Q => t v σ H Q ∨ t' v σ H Q) := ⟨fun pins s σ H v u Q I r q => q.elim (h.run pins s σ H v u Q I r) (h'.run pins s σ H v u Q I r)⟩
theorem gdT {tgs : List Expr} {k n : Nat} {js : List Nat} {t : Ss} (hc : X.calm = true) (h : GDs X tgs js t) (hn : (assignEach tgs X.env).length = n := by rfl) (hst : (assignEach tgs X.env).findIdx? (·.1) = none := by rfl) : GD X (.Tuple tgs k pos) js (setT n t) := by
  refine ⟨pg_weak (pg_or (pg_tup hc h.run hn hst) (pg_lst hc h.run hn hst)) fun v σ H Q ⟨P, ε, d, ε', E, r, hs, q⟩ => ?_, ?_⟩
  · obtain ⟨ds, hd, hl, hs'⟩ := setT_some hs
    rcases hd with rfl | rfl
    · obtain ⟨a, vs, rfl, h1, h2⟩ := r
      exact .inl ⟨a, vs, rfl, h1, by rw [← h2.length]; exact hl, P, ε, ds, ε', E, h2, hs', q⟩
    · obtain ⟨a, vs, rfl, h1, _, h2⟩ := r
      exact .inr ⟨a, vs, rfl, .of h1, by rw [← h2.length]; exact hl, P, ε, ds, ε', E, h2, hs', q⟩
  · refine ⟨fun d ε ε' z => ?_, fun d ε ε' z i hi => ?_, fun d ε ε' z i hi l hl => ?_⟩
    all_goals obtain ⟨ds, _, _, z⟩ := setT_some z
    · exact h.ok.ln _ _ _ z
    · exact h.ok.out _ _ _ z i hi
    · exact h.ok.in_ _ _ _ z i hi l hl

/-! ### comprehensions -/
def Rz.val {ε α : Type} : Rz ε α → Option α
  | .ok a => some a
  | _ => none
def wipeE (ε : Ev) : List Nat → Ev
  | [] => ε
  | v :: vs => (wipeE ε vs).set v .u
theorem EOk.wipe {K : PySem.W.Frag} {mg : Mg} {P : Pv} {σ : St} {H : Hp} {ε : Ev} (E : EOk K mg P σ H ε) : ∀ vs : List Nat, EOk K mg P (wipe σ vs) H (wipeE ε vs)
  | [] => E
  | v :: vs => by
    have I := EOk.wipe E vs
    refine ⟨by rw [wipeE, L2.wipe, List.length_set, List.length_set, I.ln], E.tk, fun j l h => ?_⟩
    rw [wipeE] at h
    rw [L2.wipe]
    by_cases hj : v = j
    · subst hj
      by_cases hi : v < (wipeE ε vs).length
      · rw [List.getElem?_set_self hi] at h
        cases h
        trivial
      · rw [List.getElem?_eq_none (by rw [List.length_set]; omega)] at h
        cases h
    · rw [List.getElem?_set_ne hj] at h ⊢
      exact I.sl j l h
theorem wipe_same {js : List Nat} : ∀ {vs : List Nat} {σ σ' : St}, SameBut js (wipe σ vs) σ' → (∀ j ∈ js, j ∈ vs) → wipe σ' vs = wipe σ vs := by
  intro vs σ σ' h hj
  refine List.ext_getElem? fun i => ?_
  have ln : ∀ (vs : List Nat) (s : St), (wipe s vs).length = s.length := fun vs s => wipe_length s vs
  have inn : ∀ (vs : List Nat) (s : St), i ∈ vs → i < s.length → (wipe s vs)[i]? = some none := by
    intro vs
    induction vs with
    | nil => intro s z; cases z
    | cons v r ih =>
      intro s z hl
      rw [L2.wipe]
      by_cases e : v = i
      · subst e; rw [List.getElem?_set_self (by rw [ln]; exact hl)]
      · rw [List.getElem?_set_ne e]
        exact ih s ((List.mem_cons.mp z).resolve_left (fun q => e q.symm)) hl
  by_cases hi : i ∈ vs
  · by_cases hl : i < σ.length
    · rw [inn vs σ hi hl, inn vs σ' hi (by rw [h.ln, ln]; exact hl)]
    · rw [List.getElem?_eq_none (by rw [ln, h.ln, ln]; omega), List.getElem?_eq_none (by rw [ln]; omega)]
  · rw [wipe_out hi, h.at_ i (fun z => hi (hj i z))]
def lcGo (set : Sf) (test : Tf) (elt : Fn) (ε : Ev) : List Dt → Option (List Dt)
  | [] => some []
  | x :: xs => (set x ε).bind fun ε1 => (test ε1).val.bind fun b => if b = true then (elt ε1).val.bind fun y => (lcGo set test elt ε xs).map (y :: ·) else lcGo set test elt ε xs
def lcF (it : Fs) (own : List Nat) (set : Sf) (test : Tf) (elt : Fn) : Fs := fun ε => (it ε).bind fun xs => if xs.length < sizeLine then .ofO (lcGo set test elt (wipeE ε own) xs) else .bad
abbrev W0 : WX := fun _ _ _ _ => False
theorem Out.of0 {σ : St} {H : Hp} {α : Type} {r : Rz Str α} {k : α → Prop} {a : α} (h : r.val = some a) (q : k a) : Out X W σ H r k := by
  cases r with
  | ok b => cases h; exact q
  | _ => cases h
def yes : Tf := fun _ => .ok true
def TDs (X : Cx) (W : WX) (ifs : List Expr) (t : Tf) : Prop := PTs X ifs (tT X W t)
theorem pts_weak {ifs : List Expr} {t t' : TT} (h : PTs X ifs t) (k : ∀ σ H Q, t' σ H Q → t σ H Q) : PTs X ifs t' := ⟨fun pins s σ H Q I q => h.run pins s σ H Q I (k σ H Q q)⟩
theorem tds_nil : TDs X W [] yes := pts_weak pts_nil fun σ H Q ⟨P, ε, E, q⟩ => q H Ext.refl
theorem tds_one {t : Tf} (h : TD X W c t) : TDs X W [c] t := pts_one h
theorem take_one {α : Type} {l : List α} {i : Nat} {x : α} (h : l[i]? = some x) : l.drop i = x :: l.drop (i + 1) := by
  obtain ⟨h1, h2⟩ := List.getElem?_eq_some_iff.mp h
  rw [← h2]
  exact List.drop_eq_getElem_cons h1
/-- the loop of a comprehension -/
theorem lc_of {it : Fs} {own js : List Nat} {set : Sf} {test : Tf} {elt : Fn} {σ : St} {H : Hp} {Q : VK} (hset : SetOk js set) (hj : ∀ j ∈ js, j ∈ own) (h : tN X W (lcF it own set test elt) σ H Q) :
    tLc (tI X W KE it) (gD X js set) (tT X W0 test) (tD X W0 elt) own σ H Q := by
  obtain ⟨P, ε, E, q⟩ := h
  refine ⟨P, ε, E, q.bind.mono fun ds q J H1 e1 io D hD => ?_⟩
  by_cases hz : ds.length < sizeLine
  · rw [if_pos hz] at q
    obtain ⟨out, hout, q⟩ := q.ofO
    have E1 := E.ext e1
    have n1 : ∀ {b : Addr} {o : HO}, H1 b = some o → b ≠ D := fun h => ne_of_none h hD
    refine ⟨fun i m H2 => m = ds.length - i ∧ i ≤ ds.length ∧ Ext H1 H2 ∧ ∃ acc vs r, acc.length ≤ i ∧ H2 D = some (.lst vs) ∧ Reps X.K X.mg H2 (more P D) acc vs ∧ lcGo set test elt (wipeE ε own) (ds.drop i) = some r ∧ acc ++ r = out,
      ⟨ds.length, by simp, Nat.zero_le _, Ext.new hD, [], [], out, Nat.le_refl _, upd_same, rfl, by rw [List.drop_zero]; exact hout, rfl⟩, ?_⟩
    rintro i m H2 ⟨rfl, hi, e2, acc, vs, r, hl, hv, rs, hr, ho⟩
    have eD : Tr (more P D) (more P D) H1 H2 := Tr.of e2
    by_cases hlt : i < ds.length
    · have hd : ds[i]? = some ds[i] := List.getElem?_eq_getElem hlt
      obtain ⟨g1, g2⟩ := io.go i H2 _ e2 hd
      rw [take_one hd, lcGo] at hr
      obtain ⟨ε1, hs1, hr⟩ := Option.bind_eq_some_iff.mp hr
      obtain ⟨b, ht1, hr⟩ := Option.bind_eq_some_iff.mp hr
      refine .inr ⟨g1, fun H3 => Ext H1 H3 ∧ ∃ acc vs r, acc.length ≤ i + 1 ∧ H3 D = some (.lst vs) ∧ Reps X.K X.mg H3 (more P D) acc vs ∧ lcGo set test elt (wipeE ε own) (ds.drop (i + 1)) = some r ∧ acc ++ r = out,
        fun H3 z => ⟨ds.length - (i + 1), by omega, rfl, hlt, z⟩, fun x H3 y => ?_⟩
      obtain ⟨rfl, rx⟩ := g2 x H3 y
      have E2 : EOk X.K X.mg (more P D) (wipe σ own) H3 (wipeE ε own) := by
        have z := ((E1.new (.of hD) (o := .lst []) nt_lst).wipe own)
        refine ⟨z.ln, fun a ha => ?_, fun j l hjl => ?_⟩
        · rcases ha with ha | ha
          · obtain ⟨o, q1, q2⟩ := E1.tk a ha
            exact ⟨o, e2.at_ q1 q2, q2⟩
          · rw [ha]
            exact ⟨_, hv, nt_lst⟩
        · exact (((E1.wipe own).sl j l hjl).more (.of hD)).ext e2
      have rx2 : Rep X.K X.mg H3 (more P D) ds[i] x := (Rep.tr (Tr.more (.of hD)) _ _ rx).ext e2
      refine ⟨more P D, wipeE ε own, ds[i], ε1, E2, rx2, hs1, fun σ2 E3 sb => ⟨wipe_same sb hj, more P D, ε1, E3, .of0 ht1 fun H4 e4 => ?_⟩⟩
      cases b with
      | true =>
        rw [if_pos rfl] at hr ⊢
        obtain ⟨y, hy, hr⟩ := Option.bind_eq_some_iff.mp hr
        obtain ⟨r', hr', e5⟩ := Option.map_eq_some_iff.mp hr
        refine ⟨more P D, ε1, E3.ext e4, .of0 hy fun v H5 e5' ry => ?_⟩
        have e35 : Ext H3 H5 := e4.trans e5'
        have hv5 := e35.at_ hv nt_lst
        refine ⟨vs, hv5, by rw [← rs.length]; omega, fun b o hb ht hm => by rw [upd_ne (n1 hb)]; exact (e2.trans e35) b o hb ht hm, acc ++ [y], vs ++ [v], r', by rw [List.length_append]; exact Nat.add_le_add_right hl 1, upd_same, ?_, hr', by rw [← ho, ← e5]; simp⟩
        exact (Reps.tr (Tr.write (P := more P D) (.inr rfl) (.inl ⟨_, hv5⟩)) _ _ ((rs.ext e35).append (.one ry)))
      | false =>
        rw [if_neg Bool.false_ne_true] at hr ⊢
        exact ⟨e2.trans e4, acc, vs, r, Nat.le_succ_of_le hl, e4.at_ hv nt_lst, rs.ext e4, hr, ho⟩
    · have ei : i = ds.length := by omega
      subst ei
      rw [List.drop_length, lcGo] at hr
      cases hr
      rw [List.append_nil] at ho
      subst ho
      exact .inl ⟨io.stop _ H2 e2 (Nat.le_refl _), q D vs H2 (e1.trans e2) (e1.fresh (.of hD)) hv rs⟩
  · rw [if_neg hz] at q
    exact q.elim
end DL
end
section
set_option Elab.async false
set_option linter.all false
set_option maxRecDepth 100000
set_option autoImplicit false
namespace DL
open PySem PySem.Spec PyProof.Rows L2
variable {X : Cx} {W : WX} {e a b c : Expr} {es rest : List Expr} {f g h : Fn} {pos p : Pos}
theorem pn_lc {elt tg iter : Expr} {ifs : List Expr} {scope : Scope} {own : List (Str × Nat)} {js : List Nat} {it : Fs} {set : Sf} {test : Tf} {k : Fn} (hc : X.calm = true) (hN : X.N.Nodup) (hi : ID X W tg iter it) (ok : BlkOk X.N X.env.scope scope own)
    (hg : ∀ (s : Shared) (H : Hp) (C : Addr) (cl : List (Str × Addr)) (fp : List Addr), GD (X.blk s H scope (compEnvC scope cl C X.env) fp) tg js set) (ht : ∀ (s : Shared) (H : Hp) (C : Addr) (cl : List (Str × Addr)) (fp : List Addr), TDs (X.blk s H scope (compEnvC scope cl C X.env) fp) W0 ifs test)
    (he : ∀ (s : Shared) (H : Hp) (C : Addr) (cl : List (Str × Addr)) (fp : List Addr), PD (X.blk s H scope (compEnvC scope cl C X.env) fp) W0 elt k) (hj : ∀ j ∈ js, j ∈ own.map (·.2) := by decide) (hs : ∀ x, foldedSetIterable iter X.env x = pure x := by intro _; rfl) :
    PN X W (.ListComp elt [⟨tg, iter, ifs, 0⟩] scope pos) (lcF it (own.map (·.2)) set test k) :=
  pe_weak (pe_lc (g := gD X js set) (tt := tT X W0 test) (te := tD X W0 k) hc hN hi ok (fun s H C cl fp => (hg s H C cl fp).run) ht he hs) fun σ H Q q => lc_of (hg X.s_0 X.H_0 0 [] []).ok hj q

/-! ### statements -/
/-- a frame: the heap at its start, what is private around, what may change -/
structure Frm where
  H0 : Hp
  P0 : Pv
  M : Pv
def Lc.isO : Lc → Prop
  | .o _ => True
  | .i _ _ _ => True
  | _ => False
def ownA (σ : St) (ε : Ev) : Pv := fun a => ∃ (i : Nat) (l : Lc), ε[i]? = some l ∧ l.isO ∧ σ[i]?.join = some (.ref a)
def prv (F : Frm) (σ : St) (ε : Ev) : Pv := fun a => F.P0 a ∨ ownA σ ε a
structure SOk (K : PySem.W.Frag) (mg : Mg) (F : Frm) (σ : St) (H : Hp) (ε : Ev) : Prop where
  e : EOk K mg (prv F σ ε) σ H ε
  x : Xt F.M F.H0 H
  p : ∀ a, F.P0 a → ∃ o, F.H0 a = some o ∧ ∀ ps, o ≠ .tbl ps
  f : ∀ (i : Nat) (l : Lc) (a : Addr), ε[i]? = some l → l.isO → σ[i]?.join = some (.ref a) → Fresh F.H0 a ∨ F.M a
  n : ∀ (i : Nat) (xs : List Dt) (a : Addr), ε[i]? = some (.o xs) → σ[i]?.join = some (.ref a) → ¬ F.P0 a
  d : ∀ (i j : Nat) (l l' : Lc) (a : Addr), i ≠ j → ε[i]? = some l → l.isO → ε[j]? = some l' → l'.isO → σ[i]?.join = some (.ref a) → σ[j]?.join ≠ some (.ref a)
section
variable {K : PySem.W.Frag} {mg : Mg} {F : Frm} {σ σ' : St} {H H' : Hp} {ε ε' : Ev} {P P' : Pv}
theorem SlotOk.less {l : Lc} {x : Option V} (h : SlotOk K mg H P l x) (hp : ∀ a, P' a → P a) (ho : l.isO → ∀ a, x = some (.ref a) → P' a) : SlotOk K mg H P' l x := by
  cases l with
  | u => trivial
  | d d => obtain ⟨v, q, r⟩ := h; exact ⟨v, q, Rep.tr (Tr.less hp) _ _ r⟩
  | o ds => obtain ⟨a, vs, q, h0, h1, r⟩ := h; exact ⟨a, vs, q, ho trivial a q, h1, Reps.tr (Tr.less hp) _ _ r⟩
  | i c ks ds => obtain ⟨a, C, dx, vs, q, h0, h1, h2, l, r⟩ := h; exact ⟨a, C, dx, vs, q, ho trivial a q, h1, h2, l, Reps.tr (Tr.less hp) _ _ r⟩
theorem EOk.less (E : EOk K mg P σ H ε) (hp : ∀ a, P' a → P a) (ho : ∀ a, ownA σ ε a → P' a) : EOk K mg P' σ H ε :=
  ⟨E.ln, fun a h => E.tk a (hp a h), fun i l h => (E.sl i l h).less hp fun o a q => ho a ⟨i, l, h, o, q⟩⟩
theorem SOk.ext (S : SOk K mg F σ H ε) (e : Ext H H') : SOk K mg F σ H' ε := ⟨S.e.ext e, S.x.trans e.to, S.p, S.f, S.n, S.d⟩
/-- the slots change, but no new private thing comes -/
theorem SOk.chg (S : SOk K mg F σ H ε) (E : EOk K mg (prv F σ ε) σ' H ε') (h : ∀ (j : Nat) (l : Lc), ε'[j]? = some l → l.isO → ε[j]? = some l ∧ σ'[j]? = σ[j]?) : SOk K mg F σ' H ε' := by
  have ho : ∀ a, ownA σ' ε' a → ownA σ ε a := fun a ⟨i, l, h1, h2, h3⟩ => by
    obtain ⟨q1, q2⟩ := h i l h1 h2
    exact ⟨i, l, q1, h2, by rw [← q2]; exact h3⟩
  refine ⟨E.less (fun a z => z.imp_right (ho a)) fun a z => .inr z, S.x, S.p, fun i l a h1 h2 h3 => ?_, fun i xs a h1 h3 => ?_, fun i j l l' a n h1 h2 h3 h4 h5 => ?_⟩
  · obtain ⟨q1, q2⟩ := h i l h1 h2
    exact S.f i l a q1 h2 (by rw [← q2]; exact h3)
  · obtain ⟨q1, q2⟩ := h i _ h1 trivial
    exact S.n i xs a q1 (by rw [← q2]; exact h3)
  · obtain ⟨q1, q2⟩ := h i l h1 h2
    obtain ⟨q3, q4⟩ := h j l' h3 h4
    rw [q4]
    exact S.d i j l l' a n q1 h2 q3 h4 (by rw [← q2]; exact h5)
theorem SOk.set (S : SOk K mg F σ H ε) {d : Dt} {v : V} (r : Rep K mg H (prv F σ ε) d v) (i : Nat) : SOk K mg F (σ.set i (some v)) H (ε.set i (.d d)) := S.chg (S.e.set r i) fun j l h o => by
  by_cases hj : i = j
  · subst hj
    by_cases hi : i < ε.length
    · rw [List.getElem?_set_self hi] at h; cases h; exact o.elim
    · rw [List.getElem?_eq_none (by rw [List.length_set]; omega)] at h; cases h
  · rw [List.getElem?_set_ne hj] at h ⊢
    exact ⟨h, rfl⟩
theorem SOk.tgt (S : SOk K mg F σ H ε) {js : List Nat} {set : Sf} {d : Dt} (ok : SetOk js set) (hs : set d ε = some ε') (E : EOk K mg (prv F σ ε) σ' H ε') (sb : SameBut js σ σ') : SOk K mg F σ' H ε' := S.chg E fun j l h o => by
  by_cases hj : j ∈ js
  · obtain ⟨x, rfl⟩ := ok.in_ _ _ _ hs j hj l h
    exact o.elim
  · rw [ok.out _ _ _ hs j hj] at h
    exact ⟨h, sb.at_ j hj⟩
/-- a new list of one's own -/
theorem SOk.own (S : SOk K mg F σ H ε) (e : Ext H H') {p : Addr} (hp : Fresh H p) {vs : List V} {ds : List Dt} (hv : H' p = some (.lst vs)) (r : Reps K mg H' (more (prv F σ ε) p) ds vs) (i : Nat) : SOk K mg F (σ.set i (some (.ref p))) H' (ε.set i (.o ds)) := by
  have S1 := S.ext e
  have npv : ¬ prv F σ ε p := S.e.ne hp
  have sl : ∀ (j : Nat) (l : Lc), (ε.set i (.o ds))[j]? = some l → (j = i ∧ l = .o ds ∧ i < ε.length) ∨ (j ≠ i ∧ ε[j]? = some l) := fun j l h => by
    by_cases hj : i = j
    · subst hj
      by_cases hi : i < ε.length
      · rw [List.getElem?_set_self hi] at h; cases h; exact .inl ⟨rfl, rfl, hi⟩
      · rw [List.getElem?_eq_none (by rw [List.length_set]; omega)] at h; cases h
    · rw [List.getElem?_set_ne hj] at h
      exact .inr ⟨fun z => hj z.symm, h⟩
  have at_i : i < ε.length → (σ.set i (some (V.ref p)))[i]?.join = some (.ref p) := fun hi => by rw [List.getElem?_set_self (by rw [← S.e.ln]; exact hi)]; rfl
  have at_j : ∀ {j : Nat}, j ≠ i → (σ.set i (some (V.ref p)))[j]? = σ[j]? := fun hj => List.getElem?_set_ne (fun z => hj z.symm)
  have ow : ∀ a, ownA (σ.set i (some (.ref p))) (ε.set i (.o ds)) a → ownA σ ε a ∨ a = p := fun a ⟨j, l, h1, h2, h3⟩ => by
    rcases sl j l h1 with ⟨rfl, rfl, hi⟩ | ⟨hj, h⟩
    · rw [at_i hi] at h3
      cases h3
      exact .inr rfl
    · rw [at_j hj] at h3
      exact .inl ⟨j, l, h, h2, h3⟩
  have E2 : EOk K mg (more (prv F σ ε) p) (σ.set i (some (.ref p))) H' (ε.set i (.o ds)) := by
    refine ⟨by rw [List.length_set, List.length_set, S.e.ln], fun a h => ?_, fun j l h => ?_⟩
    · rcases h with h | h
      · exact S1.e.tk a h
      · rw [h]; exact ⟨_, hv, nt_lst⟩
    · rcases sl j l h with ⟨rfl, rfl, hi⟩ | ⟨hj, h⟩
      · rw [at_i hi]
        exact ⟨p, vs, rfl, .inr rfl, hv, r⟩
      · rw [at_j hj]
        exact ((S.e.sl j l h).more hp).ext e
  refine ⟨E2.less (fun a h => ?_) fun a h => .inr h, S1.x, S.p, fun j l a h1 h2 h3 => ?_, fun j xs a h1 h3 => ?_, fun j k l l' a hn h1 h2 h3 h4 h5 => ?_⟩
  · rcases h with h | h
    · exact .inl (.inl h)
    · rcases ow a h with h | h
      · exact .inl (.inr h)
      · exact .inr h
  · rcases sl j l h1 with ⟨rfl, rfl, hi⟩ | ⟨hj, h⟩
    · rw [at_i hi] at h3
      cases h3
      by_cases hm : F.M p
      · exact .inr hm
      · exact .inl (S.x.fresh hp hm)
    · rw [at_j hj] at h3
      exact S.f j l a h h2 h3
  · rcases sl j _ h1 with ⟨rfl, _, hi⟩ | ⟨hj, h⟩
    · rw [at_i hi] at h3
      cases h3
      exact fun z => npv (.inl z)
    · rw [at_j hj] at h3
      exact S.n j xs a h h3
  · rcases sl j l h1 with ⟨rfl, rfl, hi⟩ | ⟨hj, h⟩
    · rw [at_i hi] at h5
      cases h5
      rcases sl k l' h3 with ⟨rfl, _⟩ | ⟨hk, h⟩
      · exact absurd rfl hn
      · rw [at_j hk]
        exact fun z => npv (.inr ⟨k, l', h, h4, z⟩)
    · rw [at_j hj] at h5
      rcases sl k l' h3 with ⟨rfl, rfl, hi⟩ | ⟨hk, h'⟩
      · rw [at_i hi]
        intro z
        cases z
        exact npv (.inr ⟨j, l, h, h2, h5⟩)
      · rw [at_j hk]
        exact S.d j k l l' a hn h h2 h' h4 h5
theorem SOk.slotO (S : SOk K mg F σ H ε) {i : Nat} {ds : List Dt} (h : ε[i]? = some (.o ds)) : ∃ a vs, σ[i]? = some (some (.ref a)) ∧ σ[i]?.join = some (.ref a) ∧ H a = some (.lst vs) ∧ Reps K mg H (prv F σ ε) ds vs := by
  obtain ⟨a, vs, q, _, h1, r⟩ := S.e.sl i _ h
  exact ⟨a, vs, slot_some q, q, h1, r⟩
/-- one's own list is written -/
theorem SOk.wr (S : SOk K mg F σ H ε) {i : Nat} {ds es : List Dt} (h : ε[i]? = some (.o ds)) {a : Addr} (ha : σ[i]?.join = some (.ref a)) {vs : List V} (r : Reps K mg H (prv F σ ε) es vs) : SOk K mg F σ (upd H a (.lst vs)) (ε.set i (.o es)) := by
  have hi : i < ε.length := (List.getElem?_eq_some_iff.mp h).1
  obtain ⟨a', vs', q, p', h1, r'⟩ := S.e.sl i _ h
  rw [ha] at q
  cases q
  have sl : ∀ (j : Nat) (l : Lc), (ε.set i (.o es))[j]? = some l → (j = i ∧ l = .o es) ∨ (j ≠ i ∧ ε[j]? = some l) := fun j l h => by
    by_cases hj : i = j
    · subst hj
      rw [List.getElem?_set_self hi] at h; cases h; exact .inl ⟨rfl, rfl⟩
    · rw [List.getElem?_set_ne hj] at h
      exact .inr ⟨fun z => hj z.symm, h⟩
  have ow : ∀ b, ownA σ (ε.set i (.o es)) b → ownA σ ε b := fun b ⟨j, l, h1, h2, h3⟩ => by
    rcases sl j l h1 with ⟨rfl, rfl⟩ | ⟨hj, h'⟩
    · exact ⟨j, _, h, trivial, h3⟩
    · exact ⟨j, l, h', h2, h3⟩
  have tw : Tr (prv F σ ε) (prv F σ ε) H (upd H a (.lst vs)) := Tr.write p' (.inl ⟨_, h1⟩)
  have E2 : EOk K mg (prv F σ ε) σ (upd H a (.lst vs)) (ε.set i (.o es)) := by
    refine ⟨by rw [List.length_set, S.e.ln], fun b hb => ?_, fun j l hj => ?_⟩
    · by_cases e : b = a
      · rw [e, upd_same]; exact ⟨_, rfl, nt_lst⟩
      · rw [upd_ne e]; exact S.e.tk b hb
    · rcases sl j l hj with ⟨rfl, rfl⟩ | ⟨hji, h'⟩
      · exact ⟨a, vs, ha, p', upd_same, Reps.tr tw _ _ r⟩
      · have z := S.e.sl j l h'
        cases l with
        | u => trivial
        | d d => obtain ⟨v, q, r⟩ := z; exact ⟨v, q, Rep.tr tw _ _ r⟩
        | o ds' =>
          obtain ⟨b, ws, q, pb, hb, rb⟩ := z
          exact ⟨b, ws, q, pb, by rw [upd_ne (fun e => S.d j i _ _ a hji h' trivial h trivial (by rw [q, e]) ha)]; exact hb, Reps.tr tw _ _ rb⟩
        | i c ks ds' =>
          obtain ⟨b, C, dx, ws, q, pb, hc, hb, hl, rb⟩ := z
          exact ⟨b, C, dx, ws, q, pb, hc, by rw [upd_ne (fun e => S.d j i _ _ a hji h' trivial h trivial (by rw [q, e]) ha)]; exact hb, hl, Reps.tr tw _ _ rb⟩
  refine ⟨E2.less (fun b z => z.imp_right (ow b)) fun b z => .inr z, fun b o hb ht hm => ?_, S.p, fun j l b h1 h2 h3 => ?_, fun j xs b h1 h3 => ?_, fun j k l l' b hn h1 h2 h3 h4 h5 => ?_⟩
  · rw [upd_ne (fun e => ?_)]
    · exact S.x b o hb ht hm
    · rcases S.f i _ a h trivial ha with z | z
      · exact z.ne hb ht e
      · exact hm (by rw [e]; exact z)
  · rcases sl j l h1 with ⟨rfl, rfl⟩ | ⟨hj, h'⟩
    · exact S.f j _ b h trivial h3
    · exact S.f j l b h' h2 h3
  · rcases sl j _ h1 with ⟨rfl, _⟩ | ⟨hj, h'⟩
    · exact S.n j _ b h h3
    · exact S.n j xs b h' h3
  · rcases sl j l h1 with ⟨rfl, rfl⟩ | ⟨hj, h1'⟩
    · rcases sl k l' h3 with ⟨rfl, _⟩ | ⟨hk, h3'⟩
      · exact absurd rfl hn
      · exact S.d j k _ l' b hn h trivial h3' h4 h5
    · rcases sl k l' h3 with ⟨rfl, rfl⟩ | ⟨hk, h3'⟩
      · exact S.d j k l _ b hn h1' h2 h trivial h5
      · exact S.d j k l l' b hn h1' h2 h3' h4 h5
/-- one's own list is handed on as data -/
theorem SOk.share (S : SOk K mg F σ H ε) {i : Nat} {ds : List Dt} (h : ε[i]? = some (.o ds)) : SOk K mg F σ H (ε.set i (.d (.lst ds))) := by
  obtain ⟨a, vs, h1, h2, h3, r⟩ := S.slotO h
  have hi : i < ε.length := (List.getElem?_eq_some_iff.mp h).1
  have sl : ∀ (j : Nat) (l : Lc), (ε.set i (.d (.lst ds)))[j]? = some l → (j = i ∧ l = .d (.lst ds)) ∨ (j ≠ i ∧ ε[j]? = some l) := fun j l h => by
    by_cases hj : i = j
    · subst hj
      rw [List.getElem?_set_self hi] at h; cases h; exact .inl ⟨rfl, rfl⟩
    · rw [List.getElem?_set_ne hj] at h
      exact .inr ⟨fun z => hj z.symm, h⟩
  have ow : ∀ b, ownA σ (ε.set i (.d (.lst ds))) b → ownA σ ε b ∧ b ≠ a := fun b ⟨j, l, q1, q2, q3⟩ => by
    rcases sl j l q1 with ⟨rfl, rfl⟩ | ⟨hj, h'⟩
    · exact q2.elim
    · exact ⟨⟨j, l, h', q2, q3⟩, fun z => S.d j i l _ b hj h' q2 h trivial q3 (by rw [h2, z])⟩
  have lt : ∀ b, prv F σ (ε.set i (.d (.lst ds))) b → prv F σ ε b := fun b z => z.imp_right fun q => (ow b q).1
  have na : ¬ prv F σ (ε.set i (.d (.lst ds))) a := fun z => z.elim (S.n i ds a h h2) fun q => (ow a q).2 rfl
  refine ⟨⟨by rw [List.length_set, S.e.ln], fun b hb => S.e.tk b (lt b hb), fun j l hj => ?_⟩, S.x, S.p, fun j l b q1 q2 q3 => ?_, fun j xs b q1 q3 => ?_, fun j k l l' b hn q1 q2 q3 q4 q5 => ?_⟩
  · rcases sl j l hj with ⟨rfl, rfl⟩ | ⟨hj', h'⟩
    · exact ⟨_, h2, a, vs, rfl, h3, na, Reps.tr (Tr.less lt) _ _ r⟩
    · exact (S.e.sl j l h').less lt fun o b q => .inr ⟨j, l, hj, o, q⟩
  · rcases sl j l q1 with ⟨rfl, rfl⟩ | ⟨hj, h'⟩
    · exact q2.elim
    · exact S.f j l b h' q2 q3
  · rcases sl j _ q1 with ⟨rfl, z⟩ | ⟨hj, h'⟩
    · cases z
    · exact S.n j xs b h' q3
  · rcases sl j l q1 with ⟨rfl, rfl⟩ | ⟨hj, h'⟩
    · exact q2.elim
    · rcases sl k l' q3 with ⟨rfl, rfl⟩ | ⟨hk, h''⟩
      · exact q4.elim
      · exact S.d j k l l' b hn h' q2 h'' q4 q5
/-- the frame of a loop -/
def Frm.loop (F : Frm) (H : Hp) (σ : St) (ε : Ev) : Frm := ⟨H, F.P0, ownA σ ε⟩
theorem SOk.loop (S : SOk K mg F σ H ε) : SOk K mg (F.loop H σ ε) σ H ε :=
  ⟨S.e, Xt.refl, fun a h => S.e.tk a (.inl h), fun i l a h1 h2 h3 => .inr ⟨i, l, h1, h2, h3⟩, S.n, S.d⟩
theorem SOk.back (S : SOk K mg F σ H ε) (L : SOk K mg (F.loop H σ ε) σ' H' ε') : SOk K mg F σ' H' ε' := by
  have fM : ∀ a, ownA σ ε a → Fresh F.H0 a ∨ F.M a := fun a ⟨i, l, h1, h2, h3⟩ => S.f i l a h1 h2 h3
  refine ⟨L.e, fun b o hb ht hm => L.x b o (S.x b o hb ht hm) ht fun z => ?_, S.p, fun i l a h1 h2 h3 => ?_, L.n, L.d⟩
  · rcases fM b z with q | q
    · exact q.ne hb ht rfl
    · exact hm q
  · rcases L.f i l a h1 h2 h3 with q | q
    · by_cases hm : F.M a
      · exact .inr hm
      · exact .inl (S.x.fresh q hm)
    · exact fM a q
theorem SOk.backX (S : SOk K mg F σ H ε) (x : Xt (ownA σ ε) H H') : Xt F.M F.H0 H' := fun b o hb ht hm => x b o (S.x b o hb ht hm) ht fun ⟨i, l, h1, h2, h3⟩ => by
  rcases S.f i l b h1 h2 h3 with q | q
  · exact q.ne hb ht rfl
  · exact hm q
theorem SOk.backF (S : SOk K mg F σ H ε) {a : Addr} (x : Fresh H a ∨ ownA σ ε a) : Fresh F.H0 a ∨ F.M a := by
  rcases x with q | ⟨i, l, h1, h2, h3⟩
  · by_cases hm : F.M a
    · exact .inr hm
    · exact .inl (S.x.fresh q hm)
  · exact S.f i l a h1 h2 h3
/-- what is walked stays through the loop -/
theorem SOk.kept (S : SOk K mg F σ H ε) (L : SOk K mg (F.loop H σ ε) σ' H' ε') : Tr (prv F σ ε) (prv F σ' ε') H H' := by
  have kind : ∀ b, ownA σ ε b → (∃ xs, H b = some (.lst xs)) ∨ ∃ C dx fs, H b = some (.ins C dx fs) := fun b ⟨i, l, h1, h2, h3⟩ => by
    have z := S.e.sl i l h1
    cases l with
    | u => exact h2.elim
    | d _ => exact h2.elim
    | o ds => obtain ⟨a, vs, q, _, h, _⟩ := z; rw [h3] at q; cases q; exact .inl ⟨_, h⟩
    | i c ks ds => obtain ⟨a, C, dx, vs, q, _, _, h, _⟩ := z; rw [h3] at q; cases q; exact .inr ⟨_, _, _, h⟩
  refine ⟨fun b o hb ht hn => L.x b o hb ht fun z => hn (.inr z), fun b o u hb => L.x b _ hb nt_frz fun z => ?_, fun b xs hb => L.x b _ hb nt_tup fun z => ?_, fun b o hb ht hn z => ?_⟩
  · rcases kind b z with ⟨xs, q⟩ | ⟨_, _, _, q⟩ <;> (rw [hb] at q; cases q)
  · rcases kind b z with ⟨xs, q⟩ | ⟨_, _, _, q⟩ <;> (rw [hb] at q; cases q)
  · rcases z with z | ⟨i, l, h1, h2, h3⟩
    · exact hn (.inl z)
    · rcases L.f i l b h1 h2 h3 with q | q
      · exact q.ne hb ht rfl
      · exact hn (.inr q)
end
end DL
end
section
set_option Elab.async false
set_option linter.all false
set_option maxRecDepth 100000
set_option autoImplicit false
namespace DL
open PySem PySem.Spec PyProof.Rows L2
variable {X : Cx} {W : WX} {e a b c : Expr} {es rest : List Expr} {f g h : Fn} {pos p : Pos}
/-- how a statement ends -/
inductive Re where
  | nx (ε : Ev) | rt (d : Dt) | ro (xs : List Dt) | bk (ε : Ev) | ct (ε : Ev)
abbrev Rs := Rz (Str × Ev) Re
abbrev Sg := Ev → Rs
def SOut (X : Cx) (F : Frm) (W : WX) (D : Ends) : Rs → Prop
  | .bad => False
  | .ex (c, ε) => ∃ C, X.mg c = some (.ref C) ∧ ∀ σ H, SOk X.K X.mg F σ H ε → W (.ref C) none σ H
  | .ok (.nx ε) => ∀ σ H, SOk X.K X.mg F σ H ε → D.nx σ H
  | .ok (.bk ε) => ∀ σ H, SOk X.K X.mg F σ H ε → D.bk σ H
  | .ok (.ct ε) => ∀ σ H, SOk X.K X.mg F σ H ε → D.ct σ H
  | .ok (.rt d) => ∀ v H, Xt F.M F.H0 H → Rep X.K X.mg H F.P0 d v → D.rt v H
  | .ok (.ro xs) => ∀ p vs H, Xt F.M F.H0 H → (Fresh F.H0 p ∨ F.M p) → ¬ F.P0 p → H p = some (.lst vs) → Reps X.K X.mg H (more F.P0 p) xs vs → D.rt (.ref p) H
def tS (X : Cx) (F : Frm) (W : WX) (g : Sg) : TS := fun D σ H => ∃ ε, SOk X.K X.mg F σ H ε ∧ SOut X F W D (g ε)
def SD (X : Cx) (W : WX) (st : Stmt) (g : Sg) : Prop := ∀ F, PS X st (tS X F W g)
def SDs (X : Cx) (W : WX) (st : List Stmt) (g : Sg) : Prop := ∀ F, PSs X st (tS X F W g)
/-- an expression's outcome within a statement -/
def exS {α : Type} (ε : Ev) : Rz Str α → Rz (Str × Ev) α
  | .bad => .bad
  | .ex c => .ex (c, ε)
  | .ok a => .ok a
section
variable {F : Frm} {D : Ends} {σ : St} {H H1 : Hp} {ε : Ev} {α : Type}
theorem SOut.exp {r : Rz Str α} {k : α → Rs} (S : SOk X.K X.mg F σ H ε) (q : SOut X F W D ((exS ε r).bind k)) : Out X W σ H r fun a => SOut X F W D (k a) := by
  cases r with
  | bad => exact q
  | ex c =>
    obtain ⟨C, h1, h2⟩ := q
    exact ⟨C, h1, fun H' e => h2 σ H' (S.ext e)⟩
  | ok a => exact q
end
def seqR (r : Rs) (g : Sg) : Rs := match r with
  | .ok (.nx ε) => g ε
  | r => r
def seqS (g h : Sg) : Sg := fun ε => seqR (g ε) h
theorem sd_nil : SDs X W [] fun ε => .ok (.nx ε) := fun F => pss_weak pss_nil fun D σ H ⟨ε, S, q⟩ => q σ H S
theorem sd_cons {st : Stmt} {sts : List Stmt} {g h : Sg} (h1 : SD X W st g) (h2 : SDs X W sts h) : SDs X W (st :: sts) (seqS g h) := fun F => pss_weak (pss_cons (h1 F) (h2 F)) fun D σ H ⟨ε, S, q⟩ => by
  refine ⟨ε, S, ?_⟩
  unfold seqS at q
  cases hg : g ε with
  | bad => rw [hg] at q; exact q
  | ex c => rw [hg] at q; exact q
  | ok r =>
    rw [hg] at q
    cases r with
    | nx ε' => exact fun σ' H' S' => ⟨ε', S', q⟩
    | rt d => exact q
    | ro d => exact q
    | bk d => exact q
    | ct d => exact q
theorem sd_one {st : Stmt} {g : Sg} (h1 : SD X W st g) : SDs X W [st] g := fun F => pss_one (h1 F)
theorem sd_pass : SD X W (.Pass pos) fun ε => .ok (.nx ε) := fun F => ps_weak ps_pass fun D σ H ⟨ε, S, q⟩ => q σ H S
theorem sd_break : SD X W (.Break pos) fun ε => .ok (.bk ε) := fun F => ps_weak ps_break fun D σ H ⟨ε, S, q⟩ => q σ H S
theorem sd_continue : SD X W (.Continue pos) fun ε => .ok (.ct ε) := fun F => ps_weak ps_continue fun D σ H ⟨ε, S, q⟩ => q σ H S
/-- an expression, its value dropped -/
def xpS (f : Fn) : Sg := fun ε => (exS ε (f ε)).bind fun _ => .ok (.nx ε)
theorem sd_expr (he : PD X W e f) (hs : swapsWith e none pos.line X.env = pure false := by rfl) : SD X W (.Expr e pos) (xpS f) := fun F => ps_weak (ps_expr he hs) fun D σ H ⟨ε, S, q⟩ =>
  ⟨_, ε, S.e, (q.exp S).mono fun d q v H' x r => q σ H' (S.ext x)⟩
def rtS (f : Fn) : Sg := fun ε => (exS ε (f ε)).bind fun d => .ok (.rt d)
theorem sd_ret (he : PD X W e f) : SD X W (.Return (some e) pos) (rtS f) := fun F => ps_weak (ps_ret he) fun D σ H ⟨ε, S, q⟩ =>
  ⟨_, ε, S.e, (q.exp S).mono fun d q v H' x r => q v H' (S.ext x).x (Rep.tr (Tr.less fun a z => .inl z) _ _ r)⟩
theorem sd_retN : SD X W (.Return none pos) fun _ => .ok (.rt .non) := fun F => ps_weak ps_retN fun D σ H ⟨ε, S, q⟩ => q _ H S.x rfl
/-- a list of one's own is handed back -/
def roS (f : Fs) : Sg := fun ε => (exS ε (f ε)).bind fun ds => .ok (.ro ds)
theorem sd_retO {f : Fs} (he : PN X W e f) : SD X W (.Return (some e) pos) (roS f) := fun F => ps_weak (ps_ret he) fun D σ H ⟨ε, S, q⟩ =>
  ⟨_, ε, S.e, (q.exp S).mono fun ds q p vs H' x hp hl r => q p vs H' (S.ext x).x (by
    by_cases hm : F.M p
    · exact .inr hm
    · exact .inl (S.x.fresh hp hm)) (fun z => S.e.ne hp (.inl z)) hl (Reps.tr (Tr.less fun a z => z.imp_left fun z => .inl z) _ _ r)⟩
def roV (i : Nat) : Sg := fun ε => match ε[i]? with
  | some (.o ds) => .ok (.ro ds)
  | _ => .bad
theorem sd_retV (i : Nat) {x : Str} (hN : X.N[i]? = some x := by rfl) (hv : Vis X.env.scope x := by first | exact Or.inl rfl | exact Or.inr (Or.inl rfl) | exact Or.inr (Or.inr rfl)) (hd : (x == ("__debug__" : Str)) = false := by decide)
    (hcd : (x == ("__classdict__" : Str)) = false := by decide) : SD X W (.Return (some (.Name x p)) pos) (roV i) := fun F => ps_weak (ps_ret (pe_var (i := i) hN hv hd hcd)) fun D σ H ⟨ε, S, q⟩ => by
  cases h : ε[i]? with
  | none => simp [roV, h, SOut] at q
  | some l =>
    cases l with
    | o ds =>
      simp only [roV, h, SOut] at q
      obtain ⟨a, vs, h1, h2, h3, r⟩ := S.slotO h
      exact ⟨.ref a, h1, q a vs H S.x (S.f i _ a h trivial h2) (S.n i ds a h h2) h3 (by
        have S2 := S.share h
        obtain ⟨v, q1, b, ws, q2, q3, q4, r2⟩ := S2.e.sl i _ (List.getElem?_set_self (List.getElem?_eq_some_iff.mp h).1)
        rw [h2] at q1
        cases q1
        cases q2
        rw [h3] at q3
        cases q3
        refine Reps.tr ⟨fun _ _ z _ _ => z, fun _ _ _ z => z, fun _ _ z => z, fun b' o hb ht n z => ?_⟩ _ _ r
        rcases z with z | z
        · exact n (.inl z)
        · rw [z] at n
          exact n (.inr ⟨i, _, h, trivial, h2⟩))⟩
    | _ => simp [roV, h, SOut] at q
/-- x = e -/
def stS (i : Nat) (f : Fn) : Sg := fun ε => (exS ε (f ε)).bind fun d => .ok (.nx (ε.set i (.d d)))
theorem sd_set {i : Nat} {x : Str} {pos' : Pos} (hN : X.N.Nodup) (he : PD X W e f) (hi : X.N[i]? = some x := by rfl) (hx : Loc X.env.scope x := by first | exact Or.inl rfl | exact Or.inr rfl) (hs : swapsWith e (some (.Name x pos')) pos.line X.env = pure false := by rfl) (hf : X.fn x = true ∨ X.env.scope.names.lookup x = some .local := by first | exact .inl rfl | exact .inr rfl | assumption) :
    SD X W (.Assign [.Name x pos'] e pos) (stS i f) := fun F => ps_weak (ps_set hN hi hx he hs hf) fun D σ H ⟨ε, S, q⟩ =>
  ⟨_, ε, S.e, (q.exp S).mono fun d q v H' x r => q _ H' ((S.ext x).set r i)⟩
/-- x = e, e a new list -/
def stO (i : Nat) (f : Fs) : Sg := fun ε => (exS ε (f ε)).bind fun ds => .ok (.nx (ε.set i (.o ds)))
theorem sd_setO {i : Nat} {x : Str} {pos' : Pos} {f : Fs} (hN : X.N.Nodup) (he : PN X W e f) (hi : X.N[i]? = some x := by rfl) (hx : Loc X.env.scope x := by first | exact Or.inl rfl | exact Or.inr rfl) (hs : swapsWith e (some (.Name x pos')) pos.line X.env = pure false := by rfl) (hf : X.fn x = true ∨ X.env.scope.names.lookup x = some .local := by first | exact .inl rfl | exact .inr rfl | assumption) :
    SD X W (.Assign [.Name x pos'] e pos) (stO i f) := fun F => ps_weak (ps_set hN hi hx he hs hf) fun D σ H ⟨ε, S, q⟩ =>
  ⟨_, ε, S.e, (q.exp S).mono fun ds q p vs H' x hp hl r => q _ H' (S.own x hp hl r i)⟩
/-- y = [..] on one line -/
theorem sd_setLc {i : Nat} {y : Str} {py spos : Pos} {elt tg iter : Expr} {ifs : List Expr} {scope : Scope} {own : List (Str × Nat)} {js : List Nat} {it : Fs} {set : Sf} {test : Tf} {k : Fn} (hc : X.calm = true) (hN : X.N.Nodup) (hy : X.N[i]? = some y) (hyl : X.env.scope.names.lookup y = some .local)
    (hsw : swapsWith (.ListComp elt [⟨tg, iter, ifs, 0⟩] scope pos) (some (.Name y py)) spos.line X.env = pure true) (hi : ID X W tg iter it) (ok : BlkOk X.N X.env.scope scope own)
    (hg : ∀ (s : Shared) (H : Hp) (C : Addr) (cl : List (Str × Addr)) (fp : List Addr), GD (X.blk s H scope (compEnvC scope cl C X.env) fp) tg js set) (ht : ∀ (s : Shared) (H : Hp) (C : Addr) (cl : List (Str × Addr)) (fp : List Addr), TDs (X.blk s H scope (compEnvC scope cl C X.env) fp) W0 ifs test)
    (he : ∀ (s : Shared) (H : Hp) (C : Addr) (cl : List (Str × Addr)) (fp : List Addr), PD (X.blk s H scope (compEnvC scope cl C X.env) fp) W0 elt k) (hj : ∀ j ∈ js, j ∈ own.map (·.2) := by decide) (hs : ∀ x, foldedSetIterable iter X.env x = pure x := by intro _; rfl) :
    SD X W (.Assign [.Name y py] (.ListComp elt [⟨tg, iter, ifs, 0⟩] scope pos) spos) (stO i (lcF it (own.map (·.2)) set test k)) := fun F =>
  ps_weak (ps_setLc (g := gD X js set) (tt := tT X W0 test) (te := tD X W0 k) hc hN hy hyl hsw hi ok (fun s H C cl fp => (hg s H C cl fp).run) ht he hs) fun D σ H ⟨ε, S, q⟩ =>
    lc_of (hg X.s_0 X.H_0 0 [] []).ok hj ⟨_, ε, S.e, (q.exp S).mono fun ds q p vs H' x hp hl r => q _ H' (S.own x hp hl r i)⟩
/-- targets = e -/
def asS (f : Fn) (set : Sf) : Sg := fun ε => (exS ε (f ε)).bind fun d => (exS ε (.ofO (set d ε))).bind fun ε' => .ok (.nx ε')
theorem sd_asg {tg : Expr} {js : List Nat} {set : Sf} (he : PD X W e f) (hg : GD X tg js set) (hs : swapsWithSole [tg] e pos.line X.env = pure false := by rfl) (hw : swappedStores [tg] e X.env = pure none := by rfl)
    (h1 : (assignEach [tg] X.env).map (·.2) = [assign tg X.env] := by rfl) : SD X W (.Assign [tg] e pos) (asS f set) := fun F => ps_weak (ps_asg he hg.run hs hw h1) fun D σ H ⟨ε, S, q⟩ =>
  ⟨_, ε, S.e, (q.exp S).mono fun d q v H' x r => by
    have S' := S.ext x
    cases hs : set d ε with
    | none => rw [hs] at q; exact q.elim
    | some ε' =>
      rw [hs] at q
      exact ⟨_, ε, d, ε', S'.e, r, hs, fun σ' E' sb => q σ' H' (S'.tgt hg.ok hs E' sb)⟩⟩
/-- a, b = x, y -/
def prS (i j : Nat) (fs : Fs) : Sg := fun ε => (exS ε (fs ε)).bind fun ds => match ds with
  | [x, y] => .ok (.nx ((ε.set i (.d x)).set j (.d y)))
  | _ => .bad
theorem sd_par {i j : Nat} {x y : Str} {px py pt : Pos} {kt : Nat} {k2 : Nat} {pt2 : Pos} {fs : Fs} (hc : X.calm = true) (hN : X.N.Nodup) (hi : X.N[i]? = some x) (hj : X.N[j]? = some y) (hij : i ≠ j)
    (hx : X.env.scope.names.lookup x = some .local) (hy : X.env.scope.names.lookup y = some .local) (ha : AD X W [a, b] fs)
    (hw : swappedStores [.Tuple [.Name x px, .Name y py] kt pt] (.Tuple [a, b] k2 pt2) X.env = pure (some [x, y]) := by rfl)
    (hs : swapsWithSole [.Tuple [.Name x px, .Name y py] kt pt] (.Tuple [a, b] k2 pt2) pos.line X.env = pure false := by rfl) :
    SD X W (.Assign [.Tuple [.Name x px, .Name y py] kt pt] (.Tuple [a, b] k2 pt2) pos) (prS i j fs) := fun F => ps_weak (ps_par hc hN hi hj hij hx hy ha hw hs) fun D σ H ⟨ε, S, q⟩ =>
  ⟨_, ε, S.e, (q.exp S).mono fun ds q vs H' x r => by
    match ds, q, r with
    | [x, y], q, ⟨v, _, e1, r1, w, _, e2, r2, e3⟩ =>
      cases e3
      cases e2
      cases e1
      have S' := S.ext (by assumption)
      have S1 := S'.set r1 i
      refine ⟨v, w, rfl, q _ H' (S1.set (Rep.tr (Tr.less fun a z => z.imp_right fun ⟨k, l, h1, h2, h3⟩ => ?_) _ _ r2) j)⟩
      by_cases hk : i = k
      · subst hk
        by_cases hi : i < ε.length
        · rw [List.getElem?_set_self hi] at h1; cases h1; exact h2.elim
        · rw [List.getElem?_eq_none (by rw [List.length_set]; omega)] at h1; cases h1
      · rw [List.getElem?_set_ne hk] at h1 h3
        exact ⟨k, l, h1, h2, h3⟩
    | [], q, _ => exact q.elim
    | [_], q, _ => exact q.elim
    | _ :: _ :: _ :: _, q, _ => exact q.elim⟩
def ifS (t : Tf) (g h : Sg) : Sg := fun ε => (exS ε (t ε)).bind fun b => if b = true then g ε else h ε
theorem sd_if {t : Tf} {g h : Sg} {as bs : List Stmt} (hc : TD X W c t) (ha : SDs X W as g) (hb : SDs X W bs h) : SD X W (.If c as bs pos) (ifS t g h) := fun F => ps_weak (ps_if hc (ha F) (hb F)) fun D σ H ⟨ε, S, q⟩ =>
  ⟨_, ε, S.e, (q.exp S).mono fun b q H' x => by
    cases b with
    | true => exact ⟨ε, S.ext x, q⟩
    | false => exact ⟨ε, S.ext x, q⟩⟩
/-- a list of one's own becomes data from here on -/
def shS (i : Nat) (g : Sg) : Sg := fun ε => match ε[i]? with
  | some (.o ds) => g (ε.set i (.d (.lst ds)))
  | _ => .bad
theorem sd_share {i : Nat} {sts : List Stmt} {g : Sg} (h : SDs X W sts g) : SDs X W sts (shS i g) := fun F => pss_weak (h F) fun D σ H ⟨ε, S, q⟩ => by
  unfold shS at q
  cases hl : ε[i]? with
  | none => rw [hl] at q; exact q.elim
  | some l =>
    rw [hl] at q
    cases l with
    | o ds => exact ⟨_, S.share hl, q⟩
    | u => exact q.elim
    | d _ => exact q.elim
    | i _ _ _ => exact q.elim
/-! ### loops -/
def afterB (r : Rs) (k : Sg) : Rs := match r with
  | .ok (.nx ε) => k ε
  | .ok (.ct ε) => k ε
  | .ok (.bk ε) => .ok (.nx ε)
  | r => r
def forGo (set : Sf) (body : Sg) : List Dt → Sg
  | [], ε => .ok (.nx ε)
  | x :: xs, ε => match set x ε with
    | none => .bad
    | some ε1 => afterB (body ε1) (forGo set body xs)
def forS (it : Fs) (set : Sf) (body : Sg) : Sg := fun ε => (exS ε (it ε)).bind fun xs => forGo set body xs ε
theorem sd_for {tg iter : Expr} {body : List Stmt} {js : List Nat} {it : Fs} {set : Sf} {g : Sg} (hp : PassesOwn (model X.prog X.w) X.A X.env X.xe) (hc : X.calm = true) (hi : IS X W tg iter it) (hg : GD X tg js set) (hb : SDs X W body g)
    (hs : ∀ x, foldedSetIterable iter X.env x = pure x := by intro _; rfl) : SD X W (.For tg iter body [] pos) (forS it set g) := by
  intro F
  -- the body serves every frame: the loop's is chosen at its start
  refine ⟨fun pins s σ H D I ⟨ε, S, q⟩ => ?_⟩
  have hL : ∀ (H1 : Hp), Ext H H1 → True := fun _ _ => trivial
  refine wpAny_mono ((ps_for (g := gD X js set) (tb := fun D' σ' H' => ∃ F', tS X F' W g D' σ' H') hp hc hi hg.run ⟨fun pins s σ' H' D' I' ⟨F', q'⟩ => (hb F').run pins s σ' H' D' I' q'⟩ hs).run pins s σ H D I ?_) (fun _ _ z => z) fun _ _ z => z
  refine ⟨_, ε, S.e, (q.exp S).mono fun ds q J H1 x io => ?_⟩
  have S1 := S.ext x
  refine ⟨fun i m σ2 H2 => m = ds.length - i ∧ i ≤ ds.length ∧ ∃ ε2, SOk X.K X.mg (F.loop H1 σ ε) σ2 H2 ε2 ∧ SOut X F W D (forGo set g (ds.drop i) ε2), ⟨ds.length, by simp, Nat.zero_le _, ε, S1.loop, by rw [List.drop_zero]; exact q⟩, ?_⟩
  rintro i m σ2 H2 ⟨rfl, hi, ε2, L, q⟩
  have k2 := S1.kept L
  have kk : Tr (prv F σ ε) (prv F σ ε) H1 H2 := ⟨k2.keep, k2.frz, k2.tup, fun _ _ _ _ n => n⟩
  by_cases hlt : i < ds.length
  · have hd : ds[i]? = some ds[i] := List.getElem?_eq_getElem hlt
    obtain ⟨g1, g2⟩ := io.go i H2 _ kk hd
    rw [take_one hd] at q
    refine .inr ⟨g1, fun σ3 H3 => i + 1 ≤ ds.length ∧ ∃ ε3, SOk X.K X.mg (F.loop H1 σ ε) σ3 H3 ε3 ∧ SOut X F W D (forGo set g (ds.drop (i + 1)) ε3), fun σ3 H3 z => ⟨ds.length - (i + 1), by omega, rfl, z⟩, fun y H3 hy => ?_⟩
    obtain ⟨rfl, ry⟩ := g2 y H3 hy
    unfold forGo at q
    cases h1 : set ds[i] ε2 with
    | none => rw [h1] at q; exact q.elim
    | some ε3 =>
      have q : SOut X F W D (afterB (g ε3) (forGo set g (ds.drop (i + 1)))) := by rw [h1] at q; exact q
      refine ⟨_, ε2, ds[i], ε3, L.e, Rep.tr k2 _ _ ry, h1, fun σ3 E3 sb => ⟨F.loop H1 σ ε, ε3, L.tgt hg.ok h1 E3 sb, ?_⟩⟩
      cases hr : g ε3 with
      | bad => rw [hr] at q; exact q
      | ex ce =>
        rw [hr] at q
        obtain ⟨c, ε4⟩ := ce
        obtain ⟨C, q1, q2⟩ := q
        exact ⟨C, q1, fun σ4 H4 L4 => q2 σ4 H4 (S1.back L4)⟩
      | ok r =>
        rw [hr] at q
        cases r with
        | nx ε4 => exact fun σ4 H4 L4 => ⟨hlt, ε4, L4, q⟩
        | ct ε4 => exact fun σ4 H4 L4 => ⟨hlt, ε4, L4, q⟩
        | bk ε4 => exact fun σ4 H4 L4 => q σ4 H4 (S1.back L4)
        | rt d => exact fun v H4 x4 r4 => q v H4 (S1.backX x4) r4
        | ro xs => exact fun p vs H4 x4 fr np hl r4 => q p vs H4 (S1.backX x4) (S1.backF fr) np hl r4
  · have ei : i = ds.length := by omega
    subst ei
    rw [List.drop_length] at q
    exact .inl ⟨io.stop _ H2 kk (Nat.le_refl _), q σ2 H2 (S1.back L)⟩
/-! while -/
def whT (t : Tf) (b k : Sg) : Sg := fun ε => (exS ε (t ε)).bind fun q => if q = true then afterB (b ε) k else .ok (.nx ε)
def whN (t : Tf) (b : Sg) : Nat → Sg
  | 0 => fun _ => .bad
  | n + 1 => whT t b (whN t b n)
theorem whT_of {t : Tf} {b k k' : Sg} {ε : Ev} (h : ∀ ε, k ε ≠ .bad → k' ε = k ε) (hr : whT t b k ε ≠ .bad) : whT t b k' ε = whT t b k ε := by
  cases hk : t ε with
  | bad => simp only [whT, hk, exS, Rz.bind]
  | ex c => simp only [whT, hk, exS, Rz.bind]
  | ok q =>
    cases q with
    | false => simp only [whT, hk, exS, Rz.bind, Bool.false_eq_true, if_false]
    | true =>
      simp only [whT, hk, exS, Rz.bind, if_true] at hr ⊢
      cases hb : b ε with
      | bad => rfl
      | ex c => rfl
      | ok q =>
        rw [hb] at hr
        cases q with
        | nx ε' => exact h ε' hr
        | ct ε' => exact h ε' hr
        | bk ε' => rfl
        | rt d => rfl
        | ro d => rfl
theorem whN_more (t : Tf) (b : Sg) : ∀ (n : Nat) (ε : Ev), whN t b n ε ≠ .bad → whN t b (n + 1) ε = whN t b n ε
  | 0, ε, hr => absurd rfl hr
  | n + 1, ε, hr => whT_of (fun ε' h => whN_more t b n ε' h) hr
theorem whN_le (t : Tf) (b : Sg) {n m : Nat} (hl : n ≤ m) {ε : Ev} (hr : whN t b n ε ≠ .bad) : whN t b m ε = whN t b n ε := by
  induction hl with
  | refl => rfl
  | step _ ih => rw [whN_more t b _ ε (by rw [ih]; exact hr), ih]
open Classical in
noncomputable def whS (t : Tf) (b : Sg) : Sg := fun ε => if h : ∃ n, whN t b n ε ≠ .bad then whN t b (choose h) ε else .bad
theorem whS_eq {t : Tf} {b : Sg} {n : Nat} {ε : Ev} (hr : whN t b n ε ≠ .bad) : whS t b ε = whN t b n ε := by
  have hx : ∃ n, whN t b n ε ≠ .bad := ⟨n, hr⟩
  unfold whS
  rw [dif_pos hx]
  have hc := Classical.choose_spec hx
  rcases Nat.le_total n (Classical.choose hx) with z | z
  · exact whN_le t b z hr
  · exact (whN_le t b z hc).symm
theorem whS_some {t : Tf} {b : Sg} {ε : Ev} (h : whS t b ε ≠ .bad) : ∃ n, whS t b ε = whN t b n ε := by
  by_cases hx : ∃ n, whN t b n ε ≠ .bad
  · exact ⟨_, by unfold whS; rw [dif_pos hx]⟩
  · exact absurd (by unfold whS; rw [dif_neg hx]) h
/-- the loop's own equation -/
theorem whS_step (t : Tf) (b : Sg) (ε : Ev) : whS t b ε = whT t b (whS t b) ε := by
  have key : ∀ n, whT t b (whN t b n) ε ≠ .bad → whT t b (whS t b) ε = whT t b (whN t b n) ε := fun n hn => whT_of (fun ε' h => whS_eq h) hn
  by_cases h : whS t b ε = .bad
  · rw [h]
    cases hk : t ε with
    | bad => simp only [whT, hk, exS, Rz.bind]
    | ex c => exact absurd (whS_eq (n := 1) (t := t) (b := b) (ε := ε) (by simp only [whN, whT, hk, exS, Rz.bind]; simp)) (by rw [h]; simp only [whN, whT, hk, exS, Rz.bind]; simp)
    | ok k =>
      cases k with
      | false => exact absurd (whS_eq (n := 1) (t := t) (b := b) (ε := ε) (by simp only [whN, whT, hk, exS, Rz.bind]; simp)) (by rw [h]; simp only [whN, whT, hk, exS, Rz.bind]; simp)
      | true =>
        have e1 : ∀ k, whT t b k ε = afterB (b ε) k := fun k => by simp only [whT, hk, exS, Rz.bind, if_true]
        rw [e1]
        have e2 : ∀ n, whN t b (n + 1) ε = afterB (b ε) (whN t b n) := fun n => e1 _
        have e3 : ∀ n, afterB (b ε) (whN t b n) = .bad := fun n => by
          by_cases z : whN t b (n + 1) ε = .bad
          · rw [← e2, z]
          · exact absurd ((whS_eq z).symm.trans h) z
        cases hb : b ε with
        | bad => rfl
        | ex c => have z := e3 0; rw [hb] at z; cases z
        | ok q =>
          have sub : ∀ ε', (∀ n, whN t b n ε' = .bad) → Rz.bad = whS t b ε' := fun ε' hs => by
            by_cases h' : whS t b ε' = .bad
            · exact h'.symm
            · obtain ⟨n, hn⟩ := whS_some h'
              rw [hn, hs n]
          cases q with
          | nx ε' => exact sub ε' fun n => by have z := e3 n; rw [hb] at z; exact z
          | ct ε' => exact sub ε' fun n => by have z := e3 n; rw [hb] at z; exact z
          | bk ε' => have z := e3 0; rw [hb] at z; cases z
          | rt d => have z := e3 0; rw [hb] at z; cases z
          | ro d => have z := e3 0; rw [hb] at z; cases z
  · obtain ⟨n, hn⟩ := whS_some h
    cases n with
    | zero => exact absurd hn h
    | succ n =>
      rw [hn]
      rw [hn] at h
      exact (key n h).symm
theorem sd_while {body : List Stmt} {t : Tf} {g : Sg} (hp : PassesOwn (model X.prog X.w) X.A X.env X.xe) (hc : TD X W c t) (hb : SDs X W body g) : SD X W (.While c body [] pos) (whS t g) := fun F => ps_weak (ps_while hp hc (hb F)) fun D σ H ⟨ε, S, q⟩ => by
  obtain ⟨n, hn⟩ : ∃ n, whS t g ε = whN t g n ε := whS_some fun z => by rw [z] at q; exact q
  rw [hn] at q
  refine ⟨fun m σ H => ∃ ε, SOk X.K X.mg F σ H ε ∧ SOut X F W D (whN t g m ε), ⟨n, ε, S, q⟩, ?_⟩
  rintro m σ2 H2 ⟨ε2, S2, q⟩
  cases m with
  | zero => exact q.elim
  | succ m =>
    have q : SOut X F W D ((exS ε2 (t ε2)).bind fun q => if q = true then afterB (g ε2) (whN t g m) else .ok (.nx ε2)) := q
    refine ⟨_, ε2, S2.e, (q.exp S2).mono fun k q H3 x => ?_⟩
    have S3 := S2.ext x
    cases k with
    | false => exact q σ2 H3 S3
    | true =>
      have q : SOut X F W D (afterB (g ε2) (whN t g m)) := q
      refine iteT ?_
      refine ⟨fun σ' H' => ∃ ε, SOk X.K X.mg F σ' H' ε ∧ SOut X F W D (whN t g m ε), fun σ' H' z => ⟨m, Nat.lt_succ_self _, z⟩, ε2, S3, ?_⟩
      cases hr : g ε2 with
      | bad => rw [hr] at q; exact q
      | ex ce => rw [hr] at q; exact q
      | ok r =>
        rw [hr] at q
        cases r with
        | nx ε4 => exact fun σ4 H4 L4 => ⟨ε4, L4, q⟩
        | ct ε4 => exact fun σ4 H4 L4 => ⟨ε4, L4, q⟩
        | bk ε4 => exact q
        | rt d => exact q
        | ro xs => exact q
end DL
end
section
set_option Elab.async false
set_option linter.all false
set_option maxRecDepth 100000
set_option autoImplicit false
namespace DL
open PySem PySem.Spec PyProof.Rows L2
variable {X : Cx} {W : WX} {e a b c : Expr} {es rest : List Expr} {f g h : Fn} {pos p : Pos}
/-! ### defs -/
/-- what a def hands back: data, or a new list -/
inductive Oc where
  | va (d : Dt) | ow (xs : List Dt)
abbrev Fd := List Dt → Rz Str Oc
def Oc.dt : Oc → Dt
  | .va d => d
  | .ow xs => .lst xs
def OOut (K : PySem.W.Frag) (mg : Mg) (P : Pv) (H : Hp) (Q : VK) (E : XK) : Rz Str Oc → Prop
  | .bad => False
  | .ex c => ∃ C, mg c = some (.ref C) ∧ ∀ H', Ext H H' → E (.ref C) none H'
  | .ok (.va d) => ∀ v H', Ext H H' → Rep K mg H' P d v → Q v H'
  | .ok (.ow xs) => ∀ p vs H', Ext H H' → Fresh H p → H' p = some (.lst vs) → Reps K mg H' (more P p) xs vs → Q (.ref p) H'
/-- a def's promise by its function on data -/
def spD (K : PySem.W.Frag) (mg : Mg) (n : Nat) (G : Fd) : Sp := fun vs H Q E => ∃ P ds, ds.length = n ∧ (∀ a, P a → ∃ o, H a = some o ∧ ∀ ps, o ≠ .tbl ps) ∧ Reps K mg H P ds vs ∧ OOut K mg P H Q E (G ds)
def startE (n : Nat) (ds : List Dt) : Ev := ds.map .d ++ List.replicate (n - ds.length) .u
def bodyR : Rs → Rz Str Oc
  | .bad => .bad
  | .ex (c, _) => .ex c
  | .ok (.nx _) => .ok (.va .non)
  | .ok (.rt d) => .ok (.va d)
  | .ok (.ro xs) => .ok (.ow xs)
  | .ok (.bk _) => .bad
  | .ok (.ct _) => .bad
def bodyF (n : Nat) (g : Sg) : Fd := fun ds => bodyR (g (startE n ds))
theorem sok_start {K : PySem.W.Frag} {mg : Mg} {N : List Str} {P : Pv} {H : Hp} {ds : List Dt} {vs : List V} (hp : ∀ a, P a → ∃ o, H a = some o ∧ ∀ ps, o ≠ .tbl ps) (r : Reps K mg H P ds vs) : SOk K mg ⟨H, P, no⟩ (L2.start N vs) H (startE N.length ds) := by
  have no_own : ∀ (i : Nat) (l : Lc), (startE N.length ds)[i]? = some l → ¬ l.isO := fun i l h o => by
    unfold startE at h
    rw [List.getElem?_append] at h
    split at h
    · rw [List.getElem?_map] at h
      cases q : ds[i]? with
      | none => rw [q] at h; cases h
      | some d => rw [q] at h; cases h; exact o
    · rw [List.getElem?_replicate] at h
      split at h
      · cases h; exact o
      · cases h
  have ow : ∀ a, ¬ ownA (L2.start N vs) (startE N.length ds) a := fun a ⟨i, l, h1, h2, _⟩ => no_own i l h1 h2
  have pp : ∀ a, prv ⟨H, P, no⟩ (L2.start N vs) (startE N.length ds) a → P a := fun a z => z.elim (fun z => z) fun z => (ow a z).elim
  refine ⟨⟨?_, fun a h => hp a (pp a h), fun i l h => ?_⟩, Xt.refl, hp, fun i l a h1 h2 _ => (no_own i l h1 h2).elim, fun i xs a h1 _ => (no_own i _ h1 trivial).elim, fun i j l l' a _ h1 h2 _ _ _ => (no_own i l h1 h2).elim⟩
  · unfold startE L2.start
    rw [List.length_append, List.length_append, List.length_map, List.length_map, List.length_replicate, List.length_replicate, r.length]
  · unfold startE at h
    rw [List.getElem?_append] at h
    split at h
    · rename_i hi
      rw [List.getElem?_map] at h
      cases q : ds[i]? with
      | none => rw [q] at h; cases h
      | some d =>
        rw [q] at h
        cases h
        obtain ⟨v, h1, h2⟩ := r.get q
        refine ⟨v, ?_, Rep.tr (Tr.less pp) _ _ h2⟩
        have hv : i < vs.length := (List.getElem?_eq_some_iff.mp h1).1
        unfold L2.start
        rw [List.getElem?_append_left (by simpa using hv), List.getElem?_map, h1]
        rfl
    · rw [List.getElem?_replicate] at h
      split at h
      · cases h; trivial
      · cases h
section
variable {P : Program} {w : World} {K : PySem.W.Frag} {mg : Str → Option Value} {base : Heap}
/-- the wish of a def's body -/
abbrev wE (E : XK) : WX := fun cls d _ H => E cls d H
theorem fn_D {x qual : Str} {st : Stmt} {fa : Addr} {fd : FuncData} {N ps : List Str} {k : Nat} {g : Sg} (F : Fun K x qual st fa fd) (S : FnScope N ps (defScope st))
    (hbody : ∀ (cdv : Value) (A : Around) (outer : List Env) (s : Shared) (H : Hp) (E : XK), Room k (A.deeper (envOfC qual (defScope st) s.heap.objs.size fa cdv)) →
      SDs (cxOf (L2.CX P w) P w K mg base N qual (defScope st) fa cdv A outer s H E) (wE E) (defBody st) g) : FnOk P w K mg base (L2.CX P w) (k + 1) fa fd ps (spD K mg ps.length (bodyF N.length g)) := by
  refine F.okX S (fun vs H Q E ⟨_, _, hn, _, r, _⟩ => by rw [← r.length]; exact hn) (fun cdv A outer s H vs Q E hr h => ?_)
  obtain ⟨P', ds, hl, hp, r, q⟩ := h
  refine ⟨_, hbody cdv A outer s H E hr ⟨H, P', no⟩, startE N.length ds, sok_start hp r, ?_⟩
  unfold bodyF at q
  cases hg : g (startE N.length ds) with
  | bad => rw [hg] at q; exact q
  | ex ce =>
    obtain ⟨c, ε⟩ := ce
    rw [hg] at q
    obtain ⟨C, h1, h2⟩ := q
    exact ⟨C, h1, fun σ H' S' => h2 H' S'.x⟩
  | ok re =>
    rw [hg] at q
    cases re with
    | nx ε => exact fun σ H' S' => q .non H' S'.x rfl
    | rt d => exact fun v H' x rv => q v H' x rv
    | ro xs => exact fun p vs H' x fr np hl rv => q p vs H' x (fr.resolve_right fun z => z) hl rv
    | bk ε => exact q.elim
    | ct ε => exact q.elim
end
/-! ### calls -/
def callF (n : Nat) (G : Fd) (fs : Fs) : Fn := fun ε => (fs ε).bind fun ds => if ds.length = n then (G ds).bind fun o => .ok o.dt else .bad
def callN (n : Nat) (G : Fd) (fs : Fs) : Fs := fun ε => (fs ε).bind fun ds => if ds.length = n then (G ds).bind fun o => match o with
  | .ow xs => .ok xs
  | .va _ => .bad else .bad
theorem OOut.toD {P : Pv} {σ : St} {H H1 : Hp} {Q : VK} {ε : Ev} {r : Rz Str Oc} (E : EOk X.K X.mg P σ H ε) (e : Ext H H1) (q : Out X W σ H (r.bind fun o => .ok o.dt) fun d => ∀ v H', Ext H H' → Rep X.K X.mg H' P d v → Q v H') : OOut X.K X.mg P H1 Q (WE W σ) r := by
  cases r with
  | bad => exact q
  | ex c => obtain ⟨C, h1, h2⟩ := q; exact ⟨C, h1, fun H' x => h2 H' (e.trans x)⟩
  | ok o =>
    cases o with
    | va d => exact fun v H' x rv => q v H' (e.trans x) rv
    | ow xs => exact fun p vs H' x fr hl rv => q (.ref p) H' (e.trans x) ⟨p, vs, rfl, hl, E.ne (e.fresh fr), Reps.tr (Tr.less fun a z => .inl z) _ _ rv⟩
theorem OOut.toN {P : Pv} {σ : St} {H H1 : Hp} {Q : VK} {r : Rz Str Oc} (e : Ext H H1) (q : Out X W σ H (r.bind fun o => match o with | .ow xs => .ok xs | .va _ => .bad) fun ds => ∀ p vs H', Ext H H' → Fresh H p → H' p = some (.lst vs) → Reps X.K X.mg H' (more P p) ds vs → Q (.ref p) H') : OOut X.K X.mg P H1 Q (WE W σ) r := by
  cases r with
  | bad => exact q
  | ex c => obtain ⟨C, h1, h2⟩ := q; exact ⟨C, h1, fun H' x => h2 H' (e.trans x)⟩
  | ok o =>
    cases o with
    | va d => exact q.elim
    | ow xs => exact fun p vs H' x fr hl rv => q p vs H' (e.trans x) (e.fresh fr) hl rv
section
variable {k : Nat} {fa C : Addr} {fd : FuncData} {ps : List Str} {x m : Str} {fs : Fs} {G : Fd} {n : Nat} {o : Expr} {apos : Pos}
theorem sp_of {P : Pv} {σ : St} {H H1 : Hp} {Q : VK} {ε : Ev} {ds : List Dt} {vs : List V} (E : EOk X.K X.mg P σ H ε) (e : Ext H H1) (r : Reps X.K X.mg H1 P ds vs) (q : Out X W σ H (if ds.length = n then (G ds).bind fun o => .ok o.dt else .bad) fun d => ∀ v H', Ext H H' → Rep X.K X.mg H' P d v → Q v H') :
    spD X.K X.mg n G vs H1 Q (WE W σ) := by
  by_cases z : ds.length = n
  · rw [if_pos z] at q
    exact ⟨P, ds, z, (E.ext e).tk, r, OOut.toD E e q⟩
  · rw [if_neg z] at q
    exact q.elim
theorem spN_of {P : Pv} {σ : St} {H H1 : Hp} {Q : VK} {ε : Ev} {ds : List Dt} {vs : List V} (E : EOk X.K X.mg P σ H ε) (e : Ext H H1) (r : Reps X.K X.mg H1 P ds vs) (q : Out X W σ H (if ds.length = n then (G ds).bind fun o => match o with | .ow xs => .ok xs | .va _ => .bad else .bad) fun ds => ∀ p vs H', Ext H H' → Fresh H p → H' p = some (.lst vs) → Reps X.K X.mg H' (more P p) ds vs → Q (.ref p) H') :
    spD X.K X.mg n G vs H1 Q (WE W σ) := by
  by_cases z : ds.length = n
  · rw [if_pos z] at q
    exact ⟨P, ds, z, (E.ext e).tk, r, OOut.toN e q⟩
  · rw [if_neg z] at q
    exact q.elim
theorem pd_call (Fk : FnOk X.prog X.w X.K X.mg X.base (L2.CX X.prog X.w) k fa fd ps (spD X.K X.mg n G)) (hr : Room k X.A) (hm : X.mg x = some (.ref fa)) (hk : PySem.W.keepIn X.K (.ref fa) = true) (hb : L2.Binds X.K fd ps []) (tk : Takes X W)
    (ha : AD X W (e :: es) fs) (hg : Gl X x := by rfl) (hdb : (x == ("__debug__" : Str)) = false := by decide) (he : starEach (e :: es) X.env = (false, eval e X.env) :: starEach es X.env := by rfl) (hpl : (backTo pos (starEach es X.env)).any (·.1) = false := by rfl) :
    PD X W (.Call (.Name x p) (e :: es) [] pos) (callF n G fs) := pe_weak (pe_callS Fk hr hg hm hk hb (fun σ => passAt tk σ) ha hdb he hpl) fun σ H Q ⟨P, ε, E, q⟩ =>
  ⟨P, ε, E, q.bind.mono fun ds q vs H1 e1 r => sp_of E e1 r q⟩
theorem pn_call (Fk : FnOk X.prog X.w X.K X.mg X.base (L2.CX X.prog X.w) k fa fd ps (spD X.K X.mg n G)) (hr : Room k X.A) (hm : X.mg x = some (.ref fa)) (hk : PySem.W.keepIn X.K (.ref fa) = true) (hb : L2.Binds X.K fd ps []) (tk : Takes X W)
    (ha : AD X W (e :: es) fs) (hg : Gl X x := by rfl) (hdb : (x == ("__debug__" : Str)) = false := by decide) (he : starEach (e :: es) X.env = (false, eval e X.env) :: starEach es X.env := by rfl) (hpl : (backTo pos (starEach es X.env)).any (·.1) = false := by rfl) :
    PN X W (.Call (.Name x p) (e :: es) [] pos) (callN n G fs) := pe_weak (pe_callS Fk hr hg hm hk hb (fun σ => passAt tk σ) ha hdb he hpl) fun σ H Q ⟨P, ε, E, q⟩ =>
  ⟨P, ε, E, q.bind.mono fun ds q vs H1 e1 r => spN_of E e1 r q⟩
/-! a module's constants -/
theorem pd_glob {x : Str} {d : Dt} {v : V} {u : Value} (hm : X.mg x = some u) (r : RelV v u) (hd : ∀ H P, Rep X.K X.mg H P d v) (hg : Gl X x := by rfl) (hdb : (x == ("__debug__" : Str)) = false := by decide) : PD X W (.Name x pos) (kc d) :=
  pe_weak (pe_glob hg hm r hdb) fun σ H Q ⟨P, ε, E, q⟩ => q v H Ext.refl (hd H P)
end
end DL
end
section
set_option Elab.async false
set_option linter.all false
set_option maxRecDepth 100000
set_option autoImplicit false
namespace DL
open PySem PySem.Spec PyProof.Rows L2
variable {X : Cx} {W : WX} {e a b c : Expr} {es rest : List Expr} {f g h : Fn} {pos p : Pos}
/-! ### minus -/
def negD : Dt → Option Dt
  | .int i => some (.int (-i))
  | _ => none
theorem dNeg (ha : PB X W a f) : PD X W (.UnaryOp .USub a pos) (un negD f) := pe_weak (pe_un un_neg ha) fun σ H Q ⟨P, ε, E, q⟩ =>
  ⟨P, ε, E, q.bind.mono fun d q v H1 e r => by
    obtain ⟨d', h1, q⟩ := q.ofO
    cases d with
    | int i => cases h1; exact ⟨i, r, q _ H1 e rfl⟩
    | _ => cases h1⟩
/-! ### slices -/
def cutG {α : Type} (xs : List α) (lo hi : Option Int) : List α := (xs.drop (HT.sIx xs.length 0 lo)).take (HT.sIx xs.length xs.length hi - HT.sIx xs.length 0 lo)
theorem Reps.cut {K : PySem.W.Frag} {mg : Mg} {H : Hp} {P : Pv} {ds : List Dt} {vs : List V} (r : Reps K mg H P ds vs) (lo hi : Option Int) : Reps K mg H P (cutG ds lo hi) (cutV vs lo hi) := by
  unfold cutG cutV
  rw [r.length]
  exact (r.drop _).take _
abbrev Pf := Ev → Rz Str (Option Int)
def tPo (X : Cx) (W : WX) (k : Pf) : TO := fun σ H Q => ∃ P ε, EOk X.K X.mg P σ H ε ∧ Out X W σ H (k ε) fun o => ∀ H', Ext H H' → Q o H'
def PoD (X : Cx) (W : WX) (e : Option Expr) (k : Pf) : Prop := PO X e (tPo X W k)
theorem po_weak {e : Option Expr} {t t' : TO} (h : PO X e t) (k : ∀ σ H Q, t' σ H Q → t σ H Q) : PO X e t' := by
  obtain ⟨r⟩ := h
  exact ⟨fun pins s σ H Q I q => r pins s σ H Q I (k σ H Q q)⟩
def noP : Pf := fun _ => .ok none
def soP (f : Fn) : Pf := fun ε => (f ε).bind fun d => match d with
  | .int i => .ok (some i)
  | _ => .bad
theorem po0 : PoD X W none noP := po_weak L2.po_none fun σ H Q ⟨P, ε, E, q⟩ => q H Ext.refl
theorem po1 (ha : PB X W e f) : PoD X W (some e) (soP f) := po_weak (L2.po_some ha) fun σ H Q ⟨P, ε, E, q⟩ =>
  ⟨P, ε, E, q.bind.mono fun d q v H1 x r => by
    cases d with
    | int i => exact ⟨i, r, q H1 x⟩
    | _ => exact q.elim⟩
def slD : Dt → Option Int → Option Int → Option Dt
  | .lst xs, lo, hi => some (.lst (cutG xs lo hi))
  | .frl xs, lo, hi => some (.lst (cutG xs lo hi))
  | .tup xs, lo, hi => if HT.sIx xs.length 0 lo = 0 ∧ HT.sIx xs.length xs.length hi = xs.length then none else some (.tup (cutG xs lo hi))
  | .str z, lo, hi => if z.length ≤ sizeLine then some (.str (cutS z lo hi)) else none
  | _, _, _ => none
def slF (f : Fn) (lo hi : Pf) : Fn := fun ε => (f ε).bind fun x => (lo ε).bind fun l => (hi ε).bind fun u => .ofO (slD x l u)
theorem dSl {lo hi : Option Expr} {l u : Pf} {p2 : Pos} (ha : PB X W e f) (hl : PoD X W lo l) (hu : PoD X W hi u) : PD X W (.Subscript e (.Slice lo hi none p2) pos) (slF f l u) :=
  pe_weak (pe_slice (sl_list.or (sl_tup.or sl_str)) ha hl hu) fun σ H Q ⟨P, ε, E, q⟩ =>
  ⟨P, ε, E, q.bind.mono fun d q v H1 e1 r => ⟨P, ε, E.ext e1, (q.bind.ext e1).mono fun lo q H2 e2 => ⟨P, ε, (E.ext e1).ext e2, (q.bind.ext (e1.trans e2)).mono fun hi q H3 e3 => by
    obtain ⟨d', h1, q⟩ := q.ofO
    have r3 := (r.ext e2).ext e3
    have e0 := (e1.trans e2).trans e3
    cases d with
    | lst xs =>
      cases h1
      obtain ⟨a, vs, rfl, h2, h3⟩ := r3
      exact .inl ⟨a, vs, rfl, .of h2, fun p hp => q _ _ (e0.trans (Ext.new hp)) ⟨p, _, rfl, upd_same, (((E.ext e1).ext e2).ext e3).ne (.of hp), (h3.cut lo hi).ext (Ext.new hp)⟩⟩
    | frl xs =>
      cases h1
      obtain ⟨a, vs, rfl, h2, h3⟩ := r3
      exact .inl ⟨a, vs, rfl, h2.sq, fun p hp => q _ _ (e0.trans (Ext.new hp)) ⟨p, _, rfl, upd_same, (((E.ext e1).ext e2).ext e3).ne (.of hp), (h3.cut lo hi).ext (Ext.new hp)⟩⟩
    | tup xs =>
      by_cases hz : HT.sIx xs.length 0 lo = 0 ∧ HT.sIx xs.length xs.length hi = xs.length
      · rw [slD, if_pos hz] at h1
        cases h1
      · rw [slD, if_neg hz] at h1
        cases h1
        obtain ⟨a, vs, rfl, h2, h3⟩ := r3
        exact .inr (.inl ⟨a, vs, rfl, h2, by rw [← h3.length]; exact hz, fun p hp => q _ _ (e0.trans (Ext.new hp)) ⟨p, _, rfl, .of upd_same, (h3.cut lo hi).ext (Ext.new hp)⟩⟩)
    | str z =>
      by_cases hz : z.length ≤ sizeLine
      · rw [slD, if_pos hz] at h1
        cases h1
        exact .inr (.inr ⟨z, r3, hz, q _ H3 e0 rfl⟩)
      · rw [slD, if_neg hz] at h1
        cases h1
    | non => cases h1
    | bl _ => cases h1
    | int _ => cases h1
    | ins _ _ _ => cases h1⟩⟩⟩
/-! ### sorted of whole numbers -/
def putI (x : Int) : List Int → List Int
  | [] => [x]
  | y :: r => if x ≤ y then x :: y :: r else y :: putI x r
def sortI : List Int → List Int
  | [] => []
  | x :: r => putI x (sortI r)
theorem putI_perm (x : Int) : ∀ r : List Int, (putI x r).Perm (x :: r)
  | [] => .refl _
  | y :: r => by
    unfold putI
    split
    · exact .refl _
    · exact ((putI_perm x r).cons y).trans (.swap x y r)
theorem sortI_perm : ∀ r : List Int, (sortI r).Perm r
  | [] => .refl _
  | x :: r => (putI_perm x (sortI r)).trans ((sortI_perm r).cons x)
theorem putI_up (x : Int) : ∀ r : List Int, r.Pairwise (· ≤ ·) → (putI x r).Pairwise (· ≤ ·)
  | [], _ => List.pairwise_singleton _ _
  | y :: r, h => by
    have h' := List.pairwise_cons.mp h
    unfold putI
    split
    · rename_i hxy
      refine List.pairwise_cons.mpr ⟨fun z hz => ?_, h⟩
      rcases List.mem_cons.mp hz with rfl | hz
      · exact hxy
      · exact Int.le_trans hxy (h'.1 z hz)
    · rename_i hxy
      refine List.pairwise_cons.mpr ⟨fun z hz => ?_, putI_up x r h'.2⟩
      rcases List.mem_cons.mp ((putI_perm x r).mem_iff.mp hz) with rfl | hz
      · omega
      · exact h'.1 z hz
theorem sortI_up : ∀ r : List Int, (sortI r).Pairwise (· ≤ ·)
  | [] => .nil
  | x :: r => putI_up x _ (sortI_up r)
theorem up_same : ∀ {xs ys : List Int}, xs.Perm ys → xs.Pairwise (· ≤ ·) → ys.Pairwise (· ≤ ·) → xs = ys
  | [], ys, h, _, _ => (List.Perm.nil_eq h)
  | x :: xs, [], h, _, _ => absurd h.symm.nil_eq (by simp)
  | x :: xs, y :: ys, h, h1, h2 => by
    have a1 := List.pairwise_cons.mp h1
    have a2 := List.pairwise_cons.mp h2
    have e : x = y := by
      have m1 : x ∈ y :: ys := h.mem_iff.mp List.mem_cons_self
      have m2 : y ∈ x :: xs := h.mem_iff.mpr List.mem_cons_self
      rcases List.mem_cons.mp m1 with e | m1
      · exact e
      · rcases List.mem_cons.mp m2 with e | m2
        · exact e.symm
        · have := a1.1 y m2
          have := a2.1 x m1
          omega
    subst e
    rw [up_same (List.perm_cons _ |>.mp h) a1.2 a2.2]
def sortD : Dt → Option (List Dt) := fun x => x.items.bind fun ds => (asI ds).bind fun ns => some ((sortI ns).map .int)
theorem sort_ok : UnN X (rSortedI X.K) sortD := fun x H Q P dx d tk r1 e q => by
  unfold sortD at e
  cases e1 : dx.items with
  | none => rw [e1] at e; cases e
  | some ds =>
    rw [e1, Option.bind_some] at e
    cases e2 : asI ds with
    | none => rw [e2] at e; cases e
    | some ns =>
      rw [e2] at e
      cases e
      rw [ints_some e2] at e1
      obtain ⟨a, vs, rfl, h3, h4⟩ := items_rep r1 e1
      rw [h4.ints] at h3
      exact ⟨a, ns, rfl, h3, fun ns' p h5 h6 hp => by
        rw [up_same (h5.trans (sortI_perm ns).symm) h6 (sortI_up ns)]
        exact q p _ _ (Ext.new hp) (.of hp) upd_same (Reps.ofInts _)⟩
theorem nSorted (hm : X.mg "sorted" = none) (ha : PB X W e f) (hg : Gl X "sorted" := by rfl) (he : starEach [e] X.env = [(false, eval e X.env)] := by rfl) : PN X W (.Call (.Name "sorted" p) [e] [] pos) (unN sortD f) :=
  pn_b1 cr_sortedI sort_ok (by decide +kernel) (by decide) (by decide) hm ha hg he
end DL
end
section
set_option Elab.async false
set_option linter.all false
set_option maxRecDepth 100000
set_option autoImplicit false
namespace DL
open PySem PySem.Spec PyProof.Rows L2
/-! ### a def of the text by its name -/
section
variable {P : Program} {w : World} {K : PySem.W.Frag} {mg : Str → Option Value} {base : Heap}
/-- the def named x, of n parameters, does G -/
structure Df (P : Program) (w : World) (K : PySem.W.Frag) (mg : Str → Option Value) (base : Heap) (lv : Nat) (x : Str) (n : Nat) (G : Fd) : Prop where
  ex : ∃ fa fd ps, FnOk P w K mg base (L2.CX P w) lv fa fd ps (spD K mg n G) ∧ mg x = some (.ref fa) ∧ PySem.W.keepIn K (.ref fa) = true ∧ L2.Binds K fd ps []
theorem fnD_ok {x qual : Str} {st : Stmt} {fa : Addr} {fd : FuncData} {N ps : List Str} {k : Nat} {g : Sg} (F : FunD K x qual (defArgs st) (defBody st) (defScope st) [] [] fa fd) (S : FnScope N ps (defScope st))
    (hbody : ∀ (cdv : Value) (A : Around) (outer : List Env) (s : Shared) (H : Hp) (E : XK), Room k (A.deeper (envOfC qual (defScope st) s.heap.objs.size fa cdv)) → Takes (cxOf (L2.CX P w) P w K mg base N qual (defScope st) fa cdv A outer s H E) (wE E) →
      SDs (cxOf (L2.CX P w) P w K mg base N qual (defScope st) fa cdv A outer s H E) (wE E) (defBody st) g) : FnOk P w K mg base (L2.CX P w) (k + 1) fa fd ps (spD K mg ps.length (bodyF N.length g)) := by
  refine F.ok S (fun vs H Q E ⟨_, _, hn, _, r, _⟩ => by rw [← r.length]; exact hn) (fun cdv A outer s H vs Q E hr h => ?_)
  obtain ⟨P', ds, hl, hp, r, q⟩ := h
  refine ⟨_, hbody cdv A outer s H E hr (takes_of rfl rfl rfl rfl) ⟨H, P', no⟩, startE N.length ds, sok_start hp r, ?_⟩
  unfold bodyF at q
  cases hg : g (startE N.length ds) with
  | bad => rw [hg] at q; exact q
  | ex ce =>
    obtain ⟨c, ε⟩ := ce
    rw [hg] at q
    obtain ⟨C, h1, h2⟩ := q
    exact ⟨C, h1, fun σ H' S' => h2 H' S'.x⟩
  | ok re =>
    rw [hg] at q
    cases re with
    | nx ε => exact fun σ H' S' => q .non H' S'.x rfl
    | rt d => exact fun v H' x rv => q v H' x rv
    | ro xs => exact fun p vs H' x fr np hl rv => q p vs H' x (fr.resolve_right fun z => z) hl rv
    | bk ε => exact q.elim
    | ct ε => exact q.elim
theorem df_mk {x qual : Str} {st : Stmt} {fa : Addr} {fd : FuncData} {N ps : List Str} {k n : Nat} {g : Sg} {G : Fd} (F : FunD K x qual (defArgs st) (defBody st) (defScope st) [] [] fa fd) (S : FnScope N ps (defScope st)) (hm : mg x = some (.ref fa))
    (hb : ∀ (kV doc pm : Value) (an : Option Addr) (cdv ct : Value) (us : List Value), us.length = ps.length → bindArgs (PySem.W.fnOf x qual (defArgs st) (defBody st) (defScope st) .none kV doc pm an cdv ct) ⟨us, []⟩ = pure (ps.zip us))
    (hbody : ∀ (cdv : Value) (A : Around) (outer : List Env) (s : Shared) (H : Hp) (E : XK), Room k (A.deeper (envOfC qual (defScope st) s.heap.objs.size fa cdv)) → Takes (cxOf (L2.CX P w) P w K mg base N qual (defScope st) fa cdv A outer s H E) (wE E) →
      SDs (cxOf (L2.CX P w) P w K mg base N qual (defScope st) fa cdv A outer s H E) (wE E) (defBody st) g) (hn : n = ps.length := by rfl) (hG : G = bodyF N.length g := by rfl) : Df P w K mg base (k + 1) x n G := by
  subst hn hG
  exact ⟨fa, fd, ps, fnD_ok F S hbody, hm, F.kp, F.bindsN hb⟩
end
section
variable {X : Cx} {W : WX} {e : Expr} {es : List Expr} {pos p : Pos} {k j n : Nat} {x : Str} {fs : Fs} {G : Fd}
theorem dCall (Fk : Df X.prog X.w X.K X.mg X.base j x n G) (hr : Room k X.A) (hj : j ≤ k) (tk : Takes X W) (ha : AD X W (e :: es) fs) (hg : Gl X x := by rfl) (hdb : (x == ("__debug__" : Str)) = false := by decide) (he : starEach (e :: es) X.env = (false, eval e X.env) :: starEach es X.env := by rfl) (hpl : (backTo pos (starEach es X.env)).any (·.1) = false := by rfl) :
    PD X W (.Call (.Name x p) (e :: es) [] pos) (callF n G fs) := by
  obtain ⟨fa, fd, ps, h1, h2, h3, h4⟩ := Fk.ex
  exact pd_call h1 (hr.mono hj) h2 h3 h4 tk ha hg hdb he hpl
theorem nCall (Fk : Df X.prog X.w X.K X.mg X.base j x n G) (hr : Room k X.A) (hj : j ≤ k) (tk : Takes X W) (ha : AD X W (e :: es) fs) (hg : Gl X x := by rfl) (hdb : (x == ("__debug__" : Str)) = false := by decide) (he : starEach (e :: es) X.env = (false, eval e X.env) :: starEach es X.env := by rfl) (hpl : (backTo pos (starEach es X.env)).any (·.1) = false := by rfl) :
    PN X W (.Call (.Name x p) (e :: es) [] pos) (callN n G fs) := by
  obtain ⟨fa, fd, ps, h1, h2, h3, h4⟩ := Fk.ex
  exact pn_call h1 (hr.mono hj) h2 h3 h4 tk ha hg hdb he hpl
end
section
variable {X : Cx} {W : WX} {a b c : Expr} {f g h : Fn} {pos p : Pos} {k : Nat}
theorem tEq (hr : Room k X.A) (ha : PB X W a f) (hb : PB X W b g) : TD X W (.Compare a [.Eq] [b] pos) (tst (bin eqD f g)) := td_cmp (op_eqD hr.units) eq_ok ha hb (nomark _)
theorem tNe (hr : Room k X.A) (ha : PB X W a f) (hb : PB X W b g) : TD X W (.Compare a [.NotEq] [b] pos) (tst (bin neD f g)) := td_cmp (op_neD hr.units) ne_ok ha hb (nomark _)
theorem tLt (ha : PB X W a f) (hb : PB X W b g) : TD X W (.Compare a [.Lt] [b] pos) (tst (bin ltD f g)) := td_cmp op_lt cmp_ok ha hb (nomark _)
theorem tLe (ha : PB X W a f) (hb : PB X W b g) : TD X W (.Compare a [.LtE] [b] pos) (tst (bin leD f g)) := td_cmp op_le cmp_ok ha hb (nomark _)
theorem tGt (ha : PB X W a f) (hb : PB X W b g) : TD X W (.Compare a [.Gt] [b] pos) (tst (bin gtD f g)) := td_cmp op_gt cmp_ok ha hb (nomark _)
theorem tGe (ha : PB X W a f) (hb : PB X W b g) : TD X W (.Compare a [.GtE] [b] pos) (tst (bin geD f g)) := td_cmp op_ge cmp_ok ha hb (nomark _)
theorem tIsN (ha : PB X W a f) (hb : PB X W b g) : TD X W (.Compare a [.Is] [b] pos) (tst (bin isND f g)) := td_cmp op_isN isN_ok ha hb (nomark _)
theorem tNotN (ha : PB X W a f) (hb : PB X W b g) : TD X W (.Compare a [.IsNot] [b] pos) (tst (bin notND f g)) := td_cmp op_notN notN_ok ha hb (nomark _)
end
/-! ### a law's end -/
/-- a law's own promise: of a script of at most 63 whole numbers, True -/
def spLaw (K : PySem.W.Frag) : Sp := fun vs H Q _ => ∃ (a : Addr) (ns : List Int), vs = [.ref a] ∧ SqL K H a (ns.map V.int) ∧ ns.length ≤ 63 ∧ ∀ H', Q (.bl true) H'
theorem law_ok {P : Program} {w : World} {K : PySem.W.Frag} {mg : Str → Option Value} {base : Heap} {k : Nat} {fa : Addr} {fd : FuncData} {x : Str} {G : Fd} (F : FnOk P w K mg base (L2.CX P w) k fa fd [x] (spD K mg 1 G))
    (hG : ∀ ns : List Int, ns.length ≤ 63 → G [.frl (ns.map .int)] = .ok (.va (.bl true))) : FnOk P w K mg base CX0 k fa fd [x] (spLaw K) := by
  have key : ∀ vs H Q E, spLaw K vs H Q E → spD K mg 1 G vs H Q E0 := fun vs H Q E ⟨a, ns, e, hs, hl, q⟩ => by
    subst e
    refine ⟨no, [.frl (ns.map .int)], rfl, fun _ z => z.elim, ⟨_, _, rfl, ⟨a, _, rfl, SqF.of hs, Reps.ofInts ns⟩, rfl⟩, ?_⟩
    rw [hG ns hl]
    exact fun v H' _ r => by rw [show v = .bl true from r]; exact q H'
  refine ⟨fun vs H Q E h => F.len vs H Q E0 (key vs H Q E h), fun A outer s H args us vs Q E hr e0 hb hv hs => codeAny_mono (F.run A outer s H args us vs Q E0 hr e0 hb hv (key vs H Q E hs)) fun r s' hq => ?_⟩
  cases r with
  | error e =>
    obtain ⟨_, _, _, _, _, _, _, _, _, _, _, _, z⟩ := hq
    exact z.elim
  | ok fl => cases fl <;> exact hq
end DL
end
section
set_option Elab.async false
set_option linter.all false
set_option maxRecDepth 100000
set_option autoImplicit false
namespace DL
noncomputable def g_box_around : Sg := (seqS (stS 1 (un tupD (lstF (lcF (rngF (kc (.int 3))) [3] (setN 3) yes (un minD (lstF (lcF (iterF (gb 0)) [2] (setN 2) yes (bin ixD (gb 2) (gb 3))))))))) (rtS (tupF (consF (gv 1) (consF (un tupD (lstF (lcF (rngF (kc (.int 3))) [3] (setN 3) yes (un maxD (lstF (lcF (iterF (gb 0)) [2] (setN 2) yes (bin ixD (gb 2) (gb 3)))))))) nilF)))))
noncomputable def F_box_around : Fd := bodyF 4 g_box_around
noncomputable def g_bounds : Sg := (rtS (callF 1 F_box_around (consF (lstF (unN listD (slF (gb 0) (soP (kc (.int 1))) noP))) nilF)))
noncomputable def F_bounds : Fd := bodyF 1 g_bounds
noncomputable def g_l_cell : Sg := (seqS (ifS (tst (bin eqD (gb 0) (lstF (lsF nilF)))) (rtS (bin mulD (gb 1) (kc (.int 7919)))) (fun ε => .ok (.nx ε))) (rtS (bin addD (bin ixD (gb 0) (bin modD (gb 1) (un lenD (gb 0)))) (bin mulD (bin divD (gb 1) (un lenD (gb 0))) (kc (.int 104729))))))
noncomputable def F_l_cell : Fd := bodyF 2 g_l_cell
noncomputable def g_l_drawn : Sg := (seqS (stS 2 (bin modD (bin addD (bin mulD (gb 0) (kc (.int 6364136223846793005))) (bin mulD (bin addD (gb 1) (kc (.int 1))) (kc (.int 1442695040888963407)))) (kc (.int 340282366920938463463374607431768211507)))) (rtS (bin modD (bin mulD (gb 2) (gb 2)) (kc (.int 340282366920938463463374607431768211297)))))
noncomputable def F_l_drawn : Fd := bodyF 3 g_l_drawn
noncomputable def g_l_point : Sg := (seqS (stS 2 (callF 2 F_l_drawn (consF (gv 0) (consF (gv 1) nilF)))) (seqS (stS 3 (bin ixD (lstF (lsF (consF (kc (.int 3)) (consF (kc (.int 7)) (consF (kc (.int 13)) (consF (kc (.int 2001)) nilF)))))) (bin modD (gb 2) (kc (.int 4))))) (seqS (stS 4 (un tupD (lstF (lcF (rngF (kc (.int 3))) [5] (setN 5) yes (bin subD (bin modD (bin divD (gb 2) (bin mulD (kc (.int 8)) (bin addD (bin mulD (gb 5) (kc (.int 37))) (kc (.int 1))))) (gb 3)) (bin divD (gb 3) (kc (.int 2)))))))) (seqS (ifS (tst (bin eqD (bin modD (bin divD (gb 2) (kc (.int 4))) (kc (.int 16))) (kc (.int 3)))) (rtS (un tupD (lstF (lcF (iterF (gb 4)) [6] (setN 6) yes (bin mulD (gb 6) (bin addD (kc (.int 1)) (bin modD (gb 0) (bin shlD (kc (.int 1)) (kc (.int 60)))))))))) (fun ε => .ok (.nx ε))) (rtS (gv 4))))))
noncomputable def F_l_point : Fd := bodyF 7 g_l_point
noncomputable def g_law_k11 : Sg := (seqS (stS 1 (lstF (lcF (rngF (bin max2D (kc (.int 1)) (bin min2D (kc (.int 12)) (un lenD (gb 0))))) [2] (setN 2) yes (callF 2 F_l_point (consF (callF 2 F_l_cell (consF (gv 0) (consF (gv 2) nilF))) (consF (gv 2) nilF)))))) (seqS (stS 3 (lstF (unN listD (gb 1)))) (seqS (stS 4 (un tupD (lstF (lcF (rngF (kc (.int 3))) [2] (setN 2) yes (bin ixD (lstF (unN sortD (lstF (lcF (iterF (gb 1)) [5] (setN 5) yes (bin ixD (gb 5) (gb 2)))))) (kc (.int 0))))))) (seqS (stS 6 (un tupD (lstF (lcF (rngF (kc (.int 3))) [2] (setN 2) yes (bin ixD (lstF (unN sortD (lstF (lcF (iterF (gb 1)) [5] (setN 5) yes (bin ixD (gb 5) (gb 2)))))) (un negD (kc (.int 1)))))))) (seqS (ifS (orT (tst (bin neD (callF 1 F_box_around (consF (gv 1) nilF)) (tupF (consF (gv 4) (consF (gv 6) nilF))))) (orT (tst (bin neD (gb 1) (gb 3))) (tst (bin neD (callF 1 F_box_around (consF (slF (gb 1) noP (soP (kc (.int 1)))) nilF)) (tupF (consF (bin ixD (gb 1) (kc (.int 0))) (consF (bin ixD (gb 1) (kc (.int 0))) nilF))))))) (rtS (kc (.bl false))) (fun ε => .ok (.nx ε))) (seqS (stO 7 (lcF (rngF (kc (.int 3))) [2] (setN 2) yes (callF 2 F_l_point (consF (callF 2 F_l_cell (consF (gv 0) (consF (gv 2) nilF))) (consF (bin addD (gb 2) (kc (.int 20))) nilF))))) (shS 7 (seqS (stS 8 (callF 1 F_box_around (consF (gv 7) nilF))) (rtS (andV (bin eqD (callF 1 F_bounds (consF (bin addD (tupF (consF (kc (.str "triangle")) nilF)) (un tupD (gb 7))) nilF)) (gb 8)) (bin eqD (callF 1 F_bounds (consF (tupF (consF (kc (.str "box")) (consF (gv 4) (consF (gv 6) nilF)))) nilF)) (tupF (consF (gv 4) (consF (gv 6) nilF))))))))))))))
noncomputable def F_law_k11 : Fd := bodyF 9 g_law_k11
end DL
end
section
set_option Elab.async false
set_option linter.all false
set_option maxRecDepth 100000
set_option autoImplicit false
namespace Lw
open PySem PySem.Spec PyProof.Rows L2 DL
def top (i : Nat) : Stmt := PySem.Challenge.pw_firsthit_k11_boxes_around.main.body.getD i (.Pass ⟨0, 0, 0, 0⟩)
abbrev s_box_around : Stmt := (top 1)
abbrev s_bounds : Stmt := (top 3)
abbrev s_l_cell : Stmt := (top 5)
abbrev s_l_drawn : Stmt := (top 6)
abbrev s_l_point : Stmt := (top 7)
abbrev s_law : Stmt := (top 8)
structure Tx (K : PySem.W.Frag) (mg : Mg) : Prop where
  f_len : mg "len" = none
  f_list : mg "list" = none
  f_max : mg "max" = none
  f_min : mg "min" = none
  f_range : mg "range" = none
  f_sorted : mg "sorted" = none
  f_tuple : mg "tuple" = none
  g_box_around : mg "box_around" = some (.ref (He.ga K "box_around"))
  d_box_around : ∃ fd, FunD K "box_around" "box_around" (defArgs s_box_around) (defBody s_box_around) (defScope s_box_around) [] [] (He.ga K "box_around") fd
  g_bounds : mg "bounds" = some (.ref (He.ga K "bounds"))
  d_bounds : ∃ fd, FunD K "bounds" "bounds" (defArgs s_bounds) (defBody s_bounds) (defScope s_bounds) [] [] (He.ga K "bounds") fd
  g_l_cell : mg "_law_cell" = some (.ref (He.ga K "_law_cell"))
  d_l_cell : ∃ fd, FunD K "_law_cell" "_law_cell" (defArgs s_l_cell) (defBody s_l_cell) (defScope s_l_cell) [] [] (He.ga K "_law_cell") fd
  g_l_drawn : mg "_law_drawn" = some (.ref (He.ga K "_law_drawn"))
  d_l_drawn : ∃ fd, FunD K "_law_drawn" "_law_drawn" (defArgs s_l_drawn) (defBody s_l_drawn) (defScope s_l_drawn) [] [] (He.ga K "_law_drawn") fd
  g_l_point : mg "_law_point" = some (.ref (He.ga K "_law_point"))
  d_l_point : ∃ fd, FunD K "_law_point" "_law_point" (defArgs s_l_point) (defBody s_l_point) (defScope s_l_point) [] [] (He.ga K "_law_point") fd
  g_law : mg "law" = some (.ref (He.ga K "law"))
  d_law : ∃ fd, FunD K "law" "law" (defArgs s_law) (defBody s_law) (defScope s_law) [] [] (He.ga K "law") fd
section
variable {P : Program} {w : World} {K : PySem.W.Frag} {mg : Str → Option Value} {base : Heap}
theorem sc_box_around : FnScope ["points", "low", "point", "k"] ["points"] (defScope s_box_around) := ⟨rfl, rfl, rfl, by decide +kernel, rfl, by decide +kernel, by decide +kernel⟩
theorem df_box_around (T : Tx K mg) : Df P w K mg base 1 "box_around" 1 F_box_around := by
  obtain ⟨fd, Fn⟩ := T.d_box_around
  refine df_mk Fn sc_box_around T.g_box_around (fun _ _ _ _ _ _ us hl => match us, hl with | [_], _ => rfl) fun cdv A outer s H E hr tk => ?_
  exact (sd_cons (sd_set (i := 1) sc_box_around.nd (dTuple T.f_tuple (pb_of (pd_new (pn_lc (own := [("k", 3)]) (js := [3]) rfl sc_box_around.nd (itR T.f_range (pb_of pd_int)) (blkOk_by (by rfl)) (fun _ _ _ _ _ => (gdN (i := 3) sc_box_around.nd rfl (by first | exact Or.inl rfl | exact Or.inr rfl))) (fun _ _ _ _ _ => tds_nil) (fun _ _ _ _ _ => (dMin T.f_min (pb_of (pd_new (pn_lc (own := [("point", 2)]) (js := [2]) rfl sc_box_around.nd (itB (pbv 0)) (blkOk_by (by rfl)) (fun _ _ _ _ _ => (gdN (i := 2) sc_box_around.nd rfl (by first | exact Or.inl rfl | exact Or.inr rfl))) (fun _ _ _ _ _ => tds_nil) (fun _ _ _ _ _ => (dIx (pbv 2) (pbv 3))))))))))))) (sd_one (sd_ret (pd_tup (ad_cons (pdv 1) (ad_cons (dTuple T.f_tuple (pb_of (pd_new (pn_lc (own := [("k", 3)]) (js := [3]) rfl sc_box_around.nd (itR T.f_range (pb_of pd_int)) (blkOk_by (by rfl)) (fun _ _ _ _ _ => (gdN (i := 3) sc_box_around.nd rfl (by first | exact Or.inl rfl | exact Or.inr rfl))) (fun _ _ _ _ _ => tds_nil) (fun _ _ _ _ _ => (dMax T.f_max (pb_of (pd_new (pn_lc (own := [("point", 2)]) (js := [2]) rfl sc_box_around.nd (itB (pbv 0)) (blkOk_by (by rfl)) (fun _ _ _ _ _ => (gdN (i := 2) sc_box_around.nd rfl (by first | exact Or.inl rfl | exact Or.inr rfl))) (fun _ _ _ _ _ => tds_nil) (fun _ _ _ _ _ => (dIx (pbv 2) (pbv 3)))))))))))) ad_nil))))))
theorem sc_bounds : FnScope ["shape"] ["shape"] (defScope s_bounds) := ⟨rfl, rfl, rfl, by decide +kernel, rfl, by decide +kernel, by decide +kernel⟩
theorem df_bounds (T : Tx K mg) : Df P w K mg base 2 "bounds" 1 F_bounds := by
  obtain ⟨fd, Fn⟩ := T.d_bounds
  refine df_mk Fn sc_bounds T.g_bounds (fun _ _ _ _ _ _ us hl => match us, hl with | [_], _ => rfl) fun cdv A outer s H E hr tk => ?_
  exact (sd_one (sd_ret (dCall (df_box_around T) hr (by decide) tk (ad_cons (pd_new (nList T.f_list (pb_of (dSl (pbv 0) (po1 (pb_of pd_int)) po0)))) ad_nil))))
theorem sc_l_cell : FnScope ["_law_script", "_law_k"] ["_law_script", "_law_k"] (defScope s_l_cell) := ⟨rfl, rfl, rfl, by decide +kernel, rfl, by decide +kernel, by decide +kernel⟩
theorem df_l_cell (T : Tx K mg) : Df P w K mg base 1 "_law_cell" 2 F_l_cell := by
  obtain ⟨fd, Fn⟩ := T.d_l_cell
  refine df_mk Fn sc_l_cell T.g_l_cell (fun _ _ _ _ _ _ us hl => match us, hl with | [_, _], _ => rfl) fun cdv A outer s H E hr tk => ?_
  exact (sd_cons (sd_if (tEq hr (pbv 0) (pb_of (pd_new (pn_lst ad_nil)))) (sd_one (sd_ret (dMul (pbv 1) (pb_of pd_int)))) sd_nil) (sd_one (sd_ret (dAdd (pb_of (dIx (pbv 0) (pb_of (dMod (pbv 1) (pb_of (dLen T.f_len (pbv 0))))))) (pb_of (dMul (pb_of (dDiv (pbv 1) (pb_of (dLen T.f_len (pbv 0))))) (pb_of pd_int)))))))
theorem sc_l_drawn : FnScope ["_law_cell_here", "_law_k", "_law_more"] ["_law_cell_here", "_law_k"] (defScope s_l_drawn) := ⟨rfl, rfl, rfl, by decide +kernel, rfl, by decide +kernel, by decide +kernel⟩
theorem df_l_drawn (T : Tx K mg) : Df P w K mg base 1 "_law_drawn" 2 F_l_drawn := by
  obtain ⟨fd, Fn⟩ := T.d_l_drawn
  refine df_mk Fn sc_l_drawn T.g_l_drawn (fun _ _ _ _ _ _ us hl => match us, hl with | [_, _], _ => rfl) fun cdv A outer s H E hr tk => ?_
  exact (sd_cons (sd_set (i := 2) sc_l_drawn.nd (dMod (pb_of (dAdd (pb_of (dMul (pbv 0) (pb_of pd_int))) (pb_of (dMul (pb_of (dAdd (pbv 1) (pb_of pd_int))) (pb_of pd_int))))) (pb_of pd_int))) (sd_one (sd_ret (dMod (pb_of (dMul (pbv 2) (pbv 2))) (pb_of pd_int)))))
theorem sc_l_point : FnScope ["_law_cell_here", "_law_k", "_law_more", "_law_wide", "_law_point_here", "_law_j", "_law_one"] ["_law_cell_here", "_law_k"] (defScope s_l_point) := ⟨rfl, rfl, rfl, by decide +kernel, rfl, by decide +kernel, by decide +kernel⟩
theorem df_l_point (T : Tx K mg) : Df P w K mg base 2 "_law_point" 2 F_l_point := by
  obtain ⟨fd, Fn⟩ := T.d_l_point
  refine df_mk Fn sc_l_point T.g_l_point (fun _ _ _ _ _ _ us hl => match us, hl with | [_, _], _ => rfl) fun cdv A outer s H E hr tk => ?_
  exact (sd_cons (sd_set (i := 2) sc_l_point.nd (dCall (df_l_drawn T) hr (by decide) tk (ad_cons (pdv 0) (ad_cons (pdv 1) ad_nil)))) (sd_cons (sd_set (i := 3) sc_l_point.nd (dIx (pb_of (pd_new (pn_lst (ad_cons pd_int (ad_cons pd_int (ad_cons pd_int (ad_cons pd_int ad_nil))))))) (pb_of (dMod (pbv 2) (pb_of pd_int))))) (sd_cons (sd_set (i := 4) sc_l_point.nd (dTuple T.f_tuple (pb_of (pd_new (pn_lc (own := [("_law_j", 5)]) (js := [5]) rfl sc_l_point.nd (itR T.f_range (pb_of pd_int)) (blkOk_by (by rfl)) (fun _ _ _ _ _ => (gdN (i := 5) sc_l_point.nd rfl (by first | exact Or.inl rfl | exact Or.inr rfl))) (fun _ _ _ _ _ => tds_nil) (fun _ _ _ _ _ => (dSub (pb_of (dMod (pb_of (dDiv (pbv 2) (pb_of (dMul (pb_of pd_int) (pb_of (dAdd (pb_of (dMul (pbv 5) (pb_of pd_int))) (pb_of pd_int))))))) (pbv 3))) (pb_of (dDiv (pbv 3) (pb_of pd_int)))))))))) (sd_cons (sd_if (tEq hr (pb_of (dMod (pb_of (dDiv (pbv 2) (pb_of pd_int))) (pb_of pd_int))) (pb_of pd_int)) (sd_one (sd_ret (dTuple T.f_tuple (pb_of (pd_new (pn_lc (own := [("_law_one", 6)]) (js := [6]) rfl sc_l_point.nd (itB (pbv 4)) (blkOk_by (by rfl)) (fun _ _ _ _ _ => (gdN (i := 6) sc_l_point.nd rfl (by first | exact Or.inl rfl | exact Or.inr rfl))) (fun _ _ _ _ _ => tds_nil) (fun _ _ _ _ _ => (dMul (pbv 6) (pb_of (dAdd (pb_of pd_int) (pb_of (dMod (pbv 0) (pb_of (dShl (pb_of pd_int) (pb_of pd_int))))))))))))))) sd_nil) (sd_one (sd_ret (pdv 4)))))))
theorem sc_law : FnScope ["_law_script", "_law_points", "_law_k", "_law_kept", "_law_low", "_law_point_here", "_law_high", "_law_three", "_law_due"] ["_law_script"] (defScope s_law) := ⟨rfl, rfl, rfl, by decide +kernel, rfl, by decide +kernel, by decide +kernel⟩
theorem law_df (T : Tx K mg) {fd : FuncData} (Fn : FunD K "law" "law" (defArgs s_law) (defBody s_law) (defScope s_law) [] [] (He.ga K "law") fd) : FnOk P w K mg base (L2.CX P w) 3 (He.ga K "law") fd ["_law_script"] (spD K mg 1 F_law_k11) := by
  refine fnD_ok Fn sc_law fun cdv A outer s H E hr tk => ?_
  exact (sd_cons (sd_set (i := 1) sc_law.nd (pd_new (pn_lc (own := [("_law_k", 2)]) (js := [2]) rfl sc_law.nd (itR T.f_range (pb_of (dMax2 T.f_max (pb_of pd_int) (pb_of (dMin2 T.f_min (pb_of pd_int) (pb_of (dLen T.f_len (pbv 0)))))))) (blkOk_by (by rfl)) (fun _ _ _ _ _ => (gdN (i := 2) sc_law.nd rfl (by first | exact Or.inl rfl | exact Or.inr rfl))) (fun _ _ _ _ _ => tds_nil) (fun _ _ _ _ _ => (dCall (df_l_point T) hr (by decide) L2.takes0 (ad_cons (dCall (df_l_cell T) hr (by decide) L2.takes0 (ad_cons (pdv 0) (ad_cons (pdv 2) ad_nil))) (ad_cons (pdv 2) ad_nil))))))) (sd_cons (sd_set (i := 3) sc_law.nd (pd_new (nList T.f_list (pbv 1)))) (sd_cons (sd_set (i := 4) sc_law.nd (dTuple T.f_tuple (pb_of (pd_new (pn_lc (own := [("_law_k", 2)]) (js := [2]) rfl sc_law.nd (itR T.f_range (pb_of pd_int)) (blkOk_by (by rfl)) (fun _ _ _ _ _ => (gdN (i := 2) sc_law.nd rfl (by first | exact Or.inl rfl | exact Or.inr rfl))) (fun _ _ _ _ _ => tds_nil) (fun _ _ _ _ _ => (dIx (pb_of (pd_new (nSorted T.f_sorted (pb_of (pd_new (pn_lc (own := [("_law_point_here", 5)]) (js := [5]) rfl sc_law.nd (itB (pbv 1)) (blkOk_by (by rfl)) (fun _ _ _ _ _ => (gdN (i := 5) sc_law.nd rfl (by first | exact Or.inl rfl | exact Or.inr rfl))) (fun _ _ _ _ _ => tds_nil) (fun _ _ _ _ _ => (dIx (pbv 5) (pbv 2))))))))) (pb_of pd_int)))))))) (sd_cons (sd_set (i := 6) sc_law.nd (dTuple T.f_tuple (pb_of (pd_new (pn_lc (own := [("_law_k", 2)]) (js := [2]) rfl sc_law.nd (itR T.f_range (pb_of pd_int)) (blkOk_by (by rfl)) (fun _ _ _ _ _ => (gdN (i := 2) sc_law.nd rfl (by first | exact Or.inl rfl | exact Or.inr rfl))) (fun _ _ _ _ _ => tds_nil) (fun _ _ _ _ _ => (dIx (pb_of (pd_new (nSorted T.f_sorted (pb_of (pd_new (pn_lc (own := [("_law_point_here", 5)]) (js := [5]) rfl sc_law.nd (itB (pbv 1)) (blkOk_by (by rfl)) (fun _ _ _ _ _ => (gdN (i := 5) sc_law.nd rfl (by first | exact Or.inl rfl | exact Or.inr rfl))) (fun _ _ _ _ _ => tds_nil) (fun _ _ _ _ _ => (dIx (pbv 5) (pbv 2))))))))) (pb_of (dNeg (pb_of pd_int)))))))))) (sd_cons (sd_if (td_of (tw_or (tNe hr (pb_of (dCall (df_box_around T) hr (by decide) tk (ad_cons (pdv 1) ad_nil))) (pb_of (pd_tup (ad_cons (pdv 4) (ad_cons (pdv 6) ad_nil))))) (tw_or (tNe hr (pbv 1) (pbv 3)) (tw_or1 (tNe hr (pb_of (dCall (df_box_around T) hr (by decide) tk (ad_cons (dSl (pbv 1) po0 (po1 (pb_of pd_int))) ad_nil))) (pb_of (pd_tup (ad_cons (dIx (pbv 1) (pb_of pd_int)) (ad_cons (dIx (pbv 1) (pb_of pd_int)) ad_nil))))))))) (sd_one (sd_ret pd_bl)) sd_nil) (sd_cons (sd_setLc (i := 7) (own := [("_law_k", 2)]) (js := [2]) rfl sc_law.nd rfl rfl (sw_true rfl rfl rfl (by rfl)) (itR T.f_range (pb_of pd_int)) (blkOk_by (by rfl)) (fun _ _ _ _ _ => (gdN (i := 2) sc_law.nd rfl (by first | exact Or.inl rfl | exact Or.inr rfl))) (fun _ _ _ _ _ => tds_nil) (fun _ _ _ _ _ => (dCall (df_l_point T) hr (by decide) L2.takes0 (ad_cons (dCall (df_l_cell T) hr (by decide) L2.takes0 (ad_cons (pdv 0) (ad_cons (pdv 2) ad_nil))) (ad_cons (dAdd (pbv 2) (pb_of pd_int)) ad_nil))))) (sd_share (i := 7) (sd_cons (sd_set (i := 8) sc_law.nd (dCall (df_box_around T) hr (by decide) tk (ad_cons (pdv 7) ad_nil))) (sd_one (sd_ret (pd_and (dEq hr (pb_of (dCall (df_bounds T) hr (by decide) tk (ad_cons (dAdd (pb_of (pd_tup (ad_cons pd_str ad_nil))) (pb_of (dTuple T.f_tuple (pbv 7)))) ad_nil))) (pbv 8)) (pd_one (dEq hr (pb_of (dCall (df_bounds T) hr (by decide) tk (ad_cons (pd_tup (ad_cons pd_str (ad_cons (pdv 4) (ad_cons (pdv 6) ad_nil)))) ad_nil))) (pb_of (pd_tup (ad_cons (pdv 4) (ad_cons (pdv 6) ad_nil)))))))))))))))))
end
def h_box_around : He.DefD := ⟨("box_around", none), "box_around", "box_around", defArgs s_box_around, defBody s_box_around, defScope s_box_around, [], []⟩
def h_bounds : He.DefD := ⟨("bounds", none), "bounds", "bounds", defArgs s_bounds, defBody s_bounds, defScope s_bounds, [], []⟩
def h_l_cell : He.DefD := ⟨("_law_cell", none), "_law_cell", "_law_cell", defArgs s_l_cell, defBody s_l_cell, defScope s_l_cell, [], []⟩
def h_l_drawn : He.DefD := ⟨("_law_drawn", none), "_law_drawn", "_law_drawn", defArgs s_l_drawn, defBody s_l_drawn, defScope s_l_drawn, [], []⟩
def h_l_point : He.DefD := ⟨("_law_point", none), "_law_point", "_law_point", defArgs s_l_point, defBody s_l_point, defScope s_l_point, [], []⟩
def h_law : He.DefD := ⟨("law", none), "law", "law", defArgs s_law, defBody s_law, defScope s_law, [], []⟩
def fn : List He.DefD := [h_box_around, h_bounds, h_l_cell, h_l_drawn, h_l_point, h_law]
def fa : List He.Fa := [.free "len", .free "list", .free "max", .free "min", .free "range", .free "sorted", .free "tuple", .glo "box_around", .glo "bounds", .glo "_law_cell", .glo "_law_drawn", .glo "_law_point", .glo "law"]
theorem tx_of {K : PySem.W.Frag} {h : Heap} {mg : Str → Option Value} (X : K.In h) (G : h.Ns mainGlobals mg) (c : He.SaysD fa fn K) : Tx K mg where
  f_len := He.free_ok X G (c.fact 0)
  f_list := He.free_ok X G (c.fact 1)
  f_max := He.free_ok X G (c.fact 2)
  f_min := He.free_ok X G (c.fact 3)
  f_range := He.free_ok X G (c.fact 4)
  f_sorted := He.free_ok X G (c.fact 5)
  f_tuple := He.free_ok X G (c.fact 6)
  g_box_around := He.glo_ok X G (c.fact 7)
  d_box_around := c.def_ 0 (d := h_box_around) rfl
  g_bounds := He.glo_ok X G (c.fact 8)
  d_bounds := c.def_ 1 (d := h_bounds) rfl
  g_l_cell := He.glo_ok X G (c.fact 9)
  d_l_cell := c.def_ 2 (d := h_l_cell) rfl
  g_l_drawn := He.glo_ok X G (c.fact 10)
  d_l_drawn := c.def_ 3 (d := h_l_drawn) rfl
  g_l_point := He.glo_ok X G (c.fact 11)
  d_l_point := c.def_ 4 (d := h_l_point) rfl
  g_law := He.glo_ok X G (c.fact 12)
  d_law := c.def_ 5 (d := h_law) rfl
end Lw
end
section
set_option Elab.async false
set_option linter.all false
set_option maxRecDepth 100000
set_option autoImplicit false
namespace DL
open PySem PySem.Spec PyProof.Rows L2
/-! ### what the functions on data do: equations -/
theorem env_set0 (l : Lc) (r : Ev) (x : Lc) : List.set (l :: r) 0 x = x :: r := rfl
theorem env_setS (l : Lc) (r : Ev) (i : Nat) (x : Lc) : List.set (l :: r) (i + 1) x = l :: List.set r i x := rfl
/-! arithmetic under bounds -/
def Bd (n : Nat) (x : Int) : Prop := x.natAbs < 2 ^ n
theorem Bd.mono {n m : Nat} {x : Int} (h : Bd n x) (l : n ≤ m) : Bd m x := Nat.lt_of_lt_of_le h (Nat.pow_le_pow_right (by decide) l)
theorem Bd.add {n : Nat} {x y : Int} (h : Bd n x) (k : Bd n y) : Bd (n + 1) (x + y) := by
  unfold Bd at *
  have : (x + y).natAbs ≤ x.natAbs + y.natAbs := Int.natAbs_add_le x y
  rw [Nat.pow_succ]
  omega
theorem Bd.neg {n : Nat} {x : Int} (h : Bd n x) : Bd n (-x) := by
  unfold Bd at *
  rw [Int.natAbs_neg]
  exact h
theorem Bd.sub {n : Nat} {x y : Int} (h : Bd n x) (k : Bd n y) : Bd (n + 1) (x - y) := by
  rw [Int.sub_eq_add_neg]
  exact h.add k.neg
theorem Bd.mul {n m : Nat} {x y : Int} (h : Bd n x) (k : Bd m y) : Bd (n + m) (x * y) := wide_lt h k
theorem Bd.of_le {n : Nat} {x y : Int} (h0 : 0 ≤ x) (hl : x ≤ y) (h : Bd n y) : Bd n x := wide_le h0 hl h
theorem mul_bd {n m : Nat} {i j : Int} (h : Bd n i) (k : Bd m j) (hn : 0 < n) (hm : 0 < m) (hs : n + m ≤ 1000000) : mulD (.int i) (.int j) = some (.int (i * j)) := by
  exact if_pos (wide_mul h k hn hm hs).ok
theorem mul_right {i j : Int} (h : -(2 ^ 64) < j ∧ j < 2 ^ 64) : mulD (.int i) (.int j) = some (.int (i * j)) := by
  exact if_pos (CMul.ok (.inr h))
theorem mul_left {i j : Int} (h : -(2 ^ 64) < i ∧ i < 2 ^ 64) : mulD (.int i) (.int j) = some (.int (i * j)) := by
  exact if_pos (CMul.ok (.inl h))
theorem mod_pos {i j : Int} (h : 0 < j) : modD (.int i) (.int j) = some (.int (i % j)) := by
  rw [← Int.fmod_eq_emod_of_nonneg i (by omega)]
  exact if_pos (by omega)
theorem div_pos {i j : Int} (h : 0 < j) (hb : Bd 9000 j) : divD (.int i) (.int j) = some (.int (i / j)) := by
  rw [← Int.fdiv_eq_ediv_of_nonneg i (by omega)]
  exact if_pos ⟨by omega, Nat.lt_of_lt_of_le (PySem.Flt.log2_lt_of (by decide) hb) (Nat.le_refl _)⟩
theorem div_sm {i j : Int} (h : 0 < j ∧ j < 4611686018427387904) : divD (.int i) (.int j) = some (.int (i / j)) := div_pos h.1 (Bd.mono (n := 62) (show j.natAbs < 2 ^ 62 by omega) (by decide))
theorem bd_lit {n : Nat} {x : Int} (h : x.natAbs < 2 ^ n) : Bd n x := h
/-! ### equality -/
/-- == on data -/
def eqq (d e : Dt) : Bool := ((py d).bind fun x => (py e).map fun y => PyData.eqv x y).getD false
def eqqs (d e : List Dt) : Bool := ((pys d).bind fun x => (pys e).map fun y => PyData.eqvAll x y).getD false
theorem eqq_int (i j : Int) : eqq (.int i) (.int j) = decide (i = j) := by
  show (i == j) = decide (i = j)
  by_cases h : i = j <;> simp [h]
theorem eqq_str (i j : Str) : eqq (.str i) (.str j) = (i == j) := rfl
theorem eqq_bl (i j : Bool) : eqq (.bl i) (.bl j) = (i == j) := rfl
theorem eqq_non : eqq .non .non = true := rfl
theorem eqq_nonI (i : Int) : eqq .non (.int i) = false := rfl
theorem eqq_Inon (i : Int) : eqq (.int i) .non = false := rfl
theorem eqq_nonT (xs : List Dt) : eqq .non (.tup xs) = false := by
  unfold eqq
  rw [py, py]
  cases pys xs <;> rfl
theorem eqq_Tnon (xs : List Dt) : eqq (.tup xs) .non = false := by
  unfold eqq
  rw [py, py]
  cases pys xs <;> rfl
theorem eqq_TS (xs : List Dt) (s : Str) : eqq (.tup xs) (.str s) = false := by
  unfold eqq
  rw [py, py]
  cases pys xs <;> rfl
theorem eqq_tup (xs ys : List Dt) : eqq (.tup xs) (.tup ys) = eqqs xs ys := by
  unfold eqq eqqs
  rw [py, py]
  cases pys xs <;> cases pys ys <;> rfl
theorem eqq_lst (xs ys : List Dt) : eqq (.lst xs) (.lst ys) = eqqs xs ys := by
  unfold eqq eqqs
  rw [py, py]
  cases pys xs <;> cases pys ys <;> rfl
theorem eqq_frl (xs ys : List Dt) : eqq (.frl xs) (.lst ys) = eqqs xs ys := by
  unfold eqq eqqs
  rw [py, py]
  cases pys xs <;> cases pys ys <;> rfl
theorem eqqs_nil : eqqs [] [] = true := rfl
theorem eqqs_cons (x y : Dt) (xs ys : List Dt) : eqqs (x :: xs) (y :: ys) = (eqq x y && eqqs xs ys) := by
  unfold eqqs eqq
  rw [pys, pys]
  cases py x <;> cases py y <;> cases pys xs <;> cases pys ys <;> simp [PyData.eqvAll]
theorem eqqs_nc (y : Dt) (ys : List Dt) : eqqs [] (y :: ys) = false := by
  unfold eqqs
  rw [pys, pys]
  cases py y <;> cases pys ys <;> rfl
theorem eqqs_cn (y : Dt) (ys : List Dt) : eqqs (y :: ys) [] = false := by
  unfold eqqs
  rw [pys, pys]
  cases py y <;> cases pys ys <;> rfl
mutual
/-- comparable, n deep at most -/
def okq : Nat → Dt → Bool
  | _, .non => true
  | _, .bl _ => true
  | _, .int _ => true
  | _, .str x => PyData.strOk x
  | n + 1, .tup xs => okqs n xs
  | n + 1, .lst xs => okqs n xs
  | n + 1, .frl xs => okqs n xs
  | _, _ => false
def okqs : Nat → List Dt → Bool
  | _, [] => true
  | n, x :: xs => okq n x && okqs n xs
end
mutual
theorem okq_py : ∀ (d : Dt) (n : Nat), okq n d = true → ∃ x, py d = some x ∧ x.canLay0 = true ∧ x.depth ≤ n
  | .non, n, h => ⟨_, rfl, rfl, Nat.zero_le _⟩
  | .bl _, n, h => ⟨_, rfl, rfl, Nat.zero_le _⟩
  | .int _, n, h => ⟨_, rfl, rfl, Nat.zero_le _⟩
  | .str x, n, h => ⟨_, rfl, by cases n <;> exact h, Nat.zero_le _⟩
  | .tup xs, n, h => by
    cases n with
    | zero => cases h
    | succ n =>
      obtain ⟨ys, h1, h2, h3⟩ := okqs_py xs n h
      exact ⟨.tuple ys, by rw [py, h1]; rfl, h2, Nat.succ_le_succ h3⟩
  | .lst xs, n, h => by
    cases n with
    | zero => cases h
    | succ n =>
      obtain ⟨ys, h1, h2, h3⟩ := okqs_py xs n h
      exact ⟨.list ys, by rw [py, h1]; rfl, h2, Nat.succ_le_succ h3⟩
  | .frl xs, n, h => by
    cases n with
    | zero => cases h
    | succ n =>
      obtain ⟨ys, h1, h2, h3⟩ := okqs_py xs n h
      exact ⟨.list ys, by rw [py, h1]; rfl, h2, Nat.succ_le_succ h3⟩
  | .ins _ _ _, n, h => by cases n <;> cases h
theorem okqs_py : ∀ (ds : List Dt) (n : Nat), okqs n ds = true → ∃ xs, pys ds = some xs ∧ PyData.canLayAll0 xs = true ∧ PyData.depthAll xs ≤ n
  | [], n, h => ⟨[], rfl, rfl, Nat.zero_le _⟩
  | d :: ds, n, h => by
    rw [okqs, Bool.and_eq_true] at h
    obtain ⟨x, h1, h2, h3⟩ := okq_py d n h.1
    obtain ⟨xs, h4, h5, h6⟩ := okqs_py ds n h.2
    refine ⟨x :: xs, by rw [pys, h1, h4]; rfl, ?_, ?_⟩
    · rw [PyData.canLayAll0, h2, h5]; rfl
    · rw [PyData.depthAll]; exact Nat.max_le.mpr ⟨h3, h6⟩
end
theorem eqB_of {n : Nat} {x y : Dt} (h1 : okq n x = true) (h2 : okq n y = true) (hn : n ≤ 64) : eqB x y = some (eqq x y) := by
  obtain ⟨a, a1, a2, a3⟩ := okq_py x n h1
  obtain ⟨b, b1, b2, b3⟩ := okq_py y n h2
  have sa : SeqAt.shaped a = true := by
    unfold SeqAt.shaped
    rw [a2, decide_eq_true (Nat.le_trans a3 hn)]; rfl
  have sb : SeqAt.shaped b = true := by
    unfold SeqAt.shaped
    rw [b2, decide_eq_true (Nat.le_trans b3 hn)]; rfl
  unfold eqB eqq
  rw [a1, b1]
  exact if_pos ⟨sa, sb⟩
theorem eqD_of {n : Nat} {x y : Dt} (h1 : okq n x = true) (h2 : okq n y = true) (hn : n ≤ 64) : eqD x y = some (.bl (eqq x y)) := by
  unfold eqD
  rw [eqB_of h1 h2 hn]; rfl
theorem neD_of {n : Nat} {x y : Dt} (h1 : okq n x = true) (h2 : okq n y = true) (hn : n ≤ 64) : neD x y = some (.bl (!eqq x y)) := by
  unfold neD
  rw [eqB_of h1 h2 hn]; rfl
theorem eqD_int (i j : Int) : eqD (.int i) (.int j) = some (.bl (decide (i = j))) := by rw [eqD_of (n := 0) rfl rfl (by decide), eqq_int]
theorem neD_int (i j : Int) : neD (.int i) (.int j) = some (.bl (!decide (i = j))) := by rw [neD_of (n := 0) rfl rfl (by decide), eqq_int]
/-! ### comprehensions -/
theorem lcGo_map {α : Type} {set : Sf} {test : Tf} {elt : Fn} {ε : Ev} {l : List α} {en f : α → Dt} (h : ∀ a ∈ l, ∃ ε1, set (en a) ε = some ε1 ∧ test ε1 = .ok true ∧ elt ε1 = .ok (f a)) : lcGo set test elt ε (l.map en) = some (l.map f) := by
  induction l with
  | nil => rfl
  | cons a l ih =>
    obtain ⟨ε1, h1, h2, h3⟩ := h a List.mem_cons_self
    rw [List.map_cons, lcGo, h1, Option.bind_some, h2, show (Rz.ok true : Rz Str Bool).val = some true from rfl, Option.bind_some, if_pos rfl, h3, show (Rz.ok (f a) : Rz Str Dt).val = some (f a) from rfl, Option.bind_some, ih fun b hb => h b (List.mem_cons_of_mem _ hb)]
    rfl
theorem lcGo_mapN {α : Type} {i : Nat} {elt : Fn} {ε : Ev} {l : List α} {en f : α → Dt} (h : ∀ a ∈ l, elt (ε.set i (.d (en a))) = .ok (f a)) : lcGo (setN i) yes elt ε (l.map en) = some (l.map f) :=
  lcGo_map fun a ha => ⟨_, rfl, rfl, h a ha⟩
/-- a comprehension over a list that is the image of plain things -/
theorem lcF_map {α : Type} {it : Fs} {own : List Nat} {i : Nat} {elt : Fn} {ε : Ev} {l : List α} {en f : α → Dt} (hi : it ε = .ok (l.map en)) (hl : l.length < 16777216) (h : ∀ a ∈ l, elt ((wipeE ε own).set i (.d (en a))) = .ok (f a)) : lcF it own (setN i) yes elt ε = .ok (l.map f) := by
  unfold lcF
  rw [hi, Rz.bind_ok, if_pos (by rw [List.length_map, sizeLine_eq]; exact hl), lcGo_mapN h]
  rfl
/-- .. over range(n) -/
theorem lcF_rng {it : Fs} {own : List Nat} {i : Nat} {elt : Fn} {ε : Ev} {n : Nat} {f : Nat → Dt} (hi : it ε = .ok (upTo 0 n)) (hl : n < 16777216) (h : ∀ k, k < n → elt ((wipeE ε own).set i (.d (.int k))) = .ok (f k)) : lcF it own (setN i) yes elt ε = .ok ((List.range n).map f) := by
  refine lcF_map (l := List.range n) (en := fun k => .int (0 + (k : Int))) hi (by rw [List.length_range]; exact hl) fun k hk => ?_
  rw [Int.zero_add]
  exact h k (List.mem_range.mp hk)
theorem rng_ok {j : Int} (h0 : 0 ≤ j) (h1 : j < 2 ^ 62) : rngD (.int j) = some (upTo 0 j.toNat) := if_pos ⟨by omega, h1⟩
/-! ### equations of the readings -/
section
variable {ε : Ev} {α β : Type} {f g : Fn} {r : Re}
theorem q_ofO (a : α) : (Rz.ofO (some a) : Rz Str α) = .ok a := rfl
theorem q_ofN : (Rz.ofO (none : Option α) : Rz Str α) = .bad := rfl
theorem q_bad (f : α → Rz Str β) : (Rz.bad : Rz Str α).bind f = .bad := rfl
theorem q_ex (c : Str) (f : α → Rz Str β) : (Rz.ex c : Rz Str α).bind f = .ex c := rfl
theorem q_exS (a : α) : exS ε (.ok a : Rz Str α) = .ok a := rfl
theorem q_exX (c : Str) : exS ε (.ex c : Rz Str α) = .ex (c, ε) := rfl
theorem q_exB (x : Str × Ev) (f : α → Rz (Str × Ev) β) : (Rz.ex x : Rz (Str × Ev) α).bind f = .ex x := rfl
theorem q_okB (a : α) (f : α → Rz (Str × Ev) β) : (Rz.ok a : Rz (Str × Ev) α).bind f = f a := rfl
theorem q_nx (g : Sg) : seqR (.ok (.nx ε)) g = g ε := rfl
theorem q_rt (d : Dt) (g : Sg) : seqR (.ok (.rt d)) g = .ok (.rt d) := rfl
theorem q_ro (d : List Dt) (g : Sg) : seqR (.ok (.ro d)) g = .ok (.ro d) := rfl
theorem q_bk (g : Sg) : seqR (.ok (.bk ε)) g = .ok (.bk ε) := rfl
theorem q_ct (g : Sg) : seqR (.ok (.ct ε)) g = .ok (.ct ε) := rfl
theorem q_sx (x : Str × Ev) (g : Sg) : seqR (.ex x) g = .ex x := rfl
theorem q_anx (g : Sg) : afterB (.ok (.nx ε)) g = g ε := rfl
theorem q_act (g : Sg) : afterB (.ok (.ct ε)) g = g ε := rfl
theorem q_abk (g : Sg) : afterB (.ok (.bk ε)) g = .ok (.nx ε) := rfl
theorem q_art (d : Dt) (g : Sg) : afterB (.ok (.rt d)) g = .ok (.rt d) := rfl
theorem q_bnx : bodyR (.ok (.nx ε)) = .ok (.va .non) := rfl
theorem q_brt (d : Dt) : bodyR (.ok (.rt d)) = .ok (.va d) := rfl
theorem q_bro (d : List Dt) : bodyR (.ok (.ro d)) = .ok (.ow d) := rfl
theorem q_bex (c : Str) : bodyR (.ex (c, ε)) = .ex c := rfl
theorem q_va (d : Dt) : Oc.dt (.va d) = d := rfl
theorem q_ow (d : List Dt) : Oc.dt (.ow d) = .lst d := rfl
theorem q_gv {i : Nat} {d : Dt} (h : ε[i]? = some (.d d)) : gv i ε = .ok d := by unfold gv; rw [h]
theorem q_gb {i : Nat} {d : Dt} (h : ε[i]? = some (.d d)) : gb i ε = .ok d := by unfold gb; rw [h]
theorem q_gbo {i : Nat} {xs : List Dt} (h : ε[i]? = some (.o xs)) : gb i ε = .ok (.lst xs) := by unfold gb; rw [h]
theorem q_boo (b : Bool) : Dt.boo (.bl b) = .ok b := rfl
theorem q_call {n : Nat} {G : Fd} {fs : Fs} {ds : List Dt} {o : Oc} (h1 : fs ε = .ok ds) (h2 : ds.length = n) (h3 : G ds = .ok o) : callF n G fs ε = .ok o.dt := by
  unfold callF
  rw [h1, Rz.bind_ok, if_pos h2, h3]; rfl
theorem q_sh {i : Nat} {xs : List Dt} {g : Sg} (h : ε[i]? = some (.o xs)) : shS i g ε = g (ε.set i (.d (.lst xs))) := by unfold shS; rw [h]
end
theorem add_int (i j : Int) : addD (.int i) (.int j) = some (.int (i + j)) := rfl
theorem sub_int (i j : Int) : subD (.int i) (.int j) = some (.int (i - j)) := rfl
theorem lt_int (i j : Int) : ltD (.int i) (.int j) = some (.bl (decide (i < j))) := rfl
theorem le_int (i j : Int) : leD (.int i) (.int j) = some (.bl (decide (i ≤ j))) := rfl
theorem gt_int (i j : Int) : gtD (.int i) (.int j) = some (.bl (decide (j < i))) := rfl
theorem ge_int (i j : Int) : geD (.int i) (.int j) = some (.bl (decide (j ≤ i))) := rfl
theorem neg_int (i : Int) : negD (.int i) = some (.int (-i)) := rfl
/-! ### one step at a time -/
section
variable {ε ε' : Ev} {i : Nat} {f : Fn} {fs : Fs} {g a b : Sg} {t : Tf} {d : Dt} {ds : List Dt} {set : Sf}
theorem s_st (h : f ε = .ok d) : seqS (stS i f) g ε = g (ε.set i (.d d)) := by
  unfold seqS stS
  rw [h]; rfl
theorem s_sto (h : fs ε = .ok ds) : seqS (stO i fs) g ε = g (ε.set i (.o ds)) := by
  unfold seqS stO
  rw [h]; rfl
theorem s_as (h : f ε = .ok d) (k : set d ε = some ε') : seqS (asS f set) g ε = g ε' := by
  unfold seqS asS
  rw [h, q_exS, Rz.bind_ok, k]; rfl
theorem s_ifT (h : t ε = .ok true) : seqS (ifS t a b) g ε = seqR (a ε) g := by
  unfold seqS ifS
  rw [h]; rfl
theorem s_ifF (h : t ε = .ok false) : seqS (ifS t a (fun ε => .ok (.nx ε))) g ε = g ε := by
  unfold seqS ifS
  rw [h]; rfl
theorem s_ifE (h : t ε = .ok false) : seqS (ifS t a b) g ε = seqR (b ε) g := by
  unfold seqS ifS
  rw [h]; rfl
theorem i_T (h : t ε = .ok true) : ifS t a b ε = a ε := by
  unfold ifS
  rw [h]; rfl
theorem i_F (h : t ε = .ok false) : ifS t a b ε = b ε := by
  unfold ifS
  rw [h]; rfl
theorem s_rt (h : f ε = .ok d) : rtS f ε = .ok (.rt d) := by
  unfold rtS
  rw [h]; rfl
theorem b_rt {n : Nat} {us : List Dt} {g : Sg} (h : g (startE n us) = .ok (.rt d)) : bodyF n g us = .ok (.va d) := by
  unfold bodyF
  rw [h]; rfl
theorem c_1 {n : Nat} {G : Fd} {o : Oc} {ds : List Dt} (h1 : fs ε = .ok ds) (h2 : ds.length = n) (h3 : G ds = .ok o) (h4 : o.dt = d) : callF n G fs ε = .ok d := by
  rw [q_call h1 h2 h3, h4]
variable {h : Fn} {o : O2} {u : Dt → Option Dt} {un' : Dt → Option (List Dt)} {x y z : Dt}
theorem e_bin (h1 : f ε = .ok x) (h2 : h ε = .ok y) (h3 : o x y = some z) : bin o f h ε = .ok z := by
  unfold bin
  rw [h1, Rz.bind_ok, h2, Rz.bind_ok, h3]; rfl
theorem e_un (h1 : f ε = .ok x) (h3 : u x = some z) : un u f ε = .ok z := by
  unfold un
  rw [h1, Rz.bind_ok, h3]; rfl
theorem e_unN (h1 : f ε = .ok x) (h3 : un' x = some ds) : unN un' f ε = .ok ds := by
  unfold unN
  rw [h1, Rz.bind_ok, h3]; rfl
theorem e_lst (h1 : fs ε = .ok ds) : lstF fs ε = .ok (.lst ds) := by
  unfold lstF
  rw [h1]; rfl
theorem e_tup (h1 : fs ε = .ok ds) (h2 : ds.length ≤ 16777216) : tupF fs ε = .ok (.tup ds) := by
  unfold tupF
  rw [h1]
  first | rfl | exact if_pos (by rw [sizeLine_eq]; exact h2)
theorem e_cons (h1 : f ε = .ok x) (h2 : fs ε = .ok ds) : consF f fs ε = .ok (x :: ds) := by
  unfold consF
  rw [h1, Rz.bind_ok, h2]; rfl
theorem e_tst {b : Bool} (h1 : f ε = .ok (.bl b)) : tst f ε = .ok b := by
  unfold tst
  rw [h1]; rfl
end
end DL
end
section
set_option Elab.async false
set_option linter.all false
set_option maxRecDepth 100000
set_option maxHeartbeats 4000000
set_option autoImplicit false
namespace DL
open PySem
/-! ### the law's numbers -/
def M1 : Int := 340282366920938463463374607431768211507
def M2 : Int := 340282366920938463463374607431768211297
def drawn (c k : Int) : Int := (c * 6364136223846793005 + (k + 1) * 1442695040888963407) % M1 * ((c * 6364136223846793005 + (k + 1) * 1442695040888963407) % M1) % M2
theorem drawn_bd (c k : Int) : 0 ≤ drawn c k ∧ drawn c k < M2 := ⟨Int.emod_nonneg _ (by decide), Int.emod_lt_of_pos _ (by decide)⟩
theorem F_l_drawn_eq (c k : Int) : F_l_drawn [.int c, .int k] = .ok (.va (.int (drawn c k))) := by
  have h1 : mulD (.int c) (.int 6364136223846793005) = some (.int (c * 6364136223846793005)) := mul_right (by decide)
  have h2 : mulD (.int (k + 1)) (.int 1442695040888963407) = some (.int ((k + 1) * 1442695040888963407)) := mul_right (by decide)
  have h3 : Bd 129 ((c * 6364136223846793005 + (k + 1) * 1442695040888963407) % 340282366920938463463374607431768211507) := by
    unfold Bd
    generalize c * 6364136223846793005 + (k + 1) * 1442695040888963407 = z
    omega
  have h4 := mul_bd h3 h3 (by decide) (by decide) (by decide)
  have h5 : ∀ i : Int, modD (.int i) (.int 340282366920938463463374607431768211507) = some (.int (i % 340282366920938463463374607431768211507)) := fun i => mod_pos (by decide)
  have h6 : ∀ i : Int, modD (.int i) (.int 340282366920938463463374607431768211297) = some (.int (i % 340282366920938463463374607431768211297)) := fun i => mod_pos (by decide)
  simp only [F_l_drawn, g_l_drawn, bodyF, startE, seqS, stS, stO, rtS, roS, roV, asS, ifS, xpS, bin, un, unN, lstF, lsF, consF, nilF, tupF, kc, gv, gb, tst, andT, orT, notT, andV, orV, notV, ifV, callF, callN, iterF, rngF, walked, slF, noP, soP, setN, setT, setCons, setNil, wipeE, yes, forS, prS, Rz.bind_ok, q_ofO, q_ofN, q_bad, q_ex, q_exS, q_exX, q_exB, q_okB, q_nx, q_rt, q_ro, q_bk, q_ct, q_sx, q_anx, q_act, q_abk, q_art, q_bnx, q_brt, q_bro, q_bex, q_va, q_ow, q_boo, add_int, sub_int, lt_int, le_int, gt_int, ge_int, neg_int, List.map_cons, List.map_nil, List.length_cons, List.length_nil, List.nil_append, List.cons_append, List.replicate, List.getElem?_cons_zero, List.getElem?_cons_succ, env_set0, env_setS, Option.bind_some, Option.map_some, if_true, Bool.false_eq_true, if_false, Nat.reduceAdd, Nat.reduceSub, sizeLine_eq, Nat.reduceLeDiff, Nat.zero_le, h1, h2, h5, h4, h6]
  rfl
/-- a cell of the script -/
def cell (ns : List Int) (k : Nat) : Int := if ns = [] then k * 7919 else ns[k % ns.length]?.getD 0 + (k / ns.length : Nat) * 104729
theorem F_l_cell_eq (ns : List Int) (hn : ns.length ≤ 63) (k : Nat) (hk : k < 1000) : F_l_cell [.frl (ns.map .int), .int k] = .ok (.va (.int (cell ns k))) := by
  have e1 : eqD (.frl (ns.map .int)) (.lst []) = some (.bl (decide (ns = []))) := by
    have ok : ∀ l : List Int, okqs 0 (l.map Dt.int) = true := fun l => by
      induction l with
      | nil => rfl
      | cons a l ih => rw [List.map_cons, okqs, ih]; rfl
    rw [eqD_of (n := 1) (show okq 1 (.frl (ns.map .int)) = true from ok ns) rfl (by decide), eqq_frl]
    cases ns with
    | nil => rfl
    | cons a l => rw [List.map_cons, eqqs_cn]; rfl
  by_cases h : ns = []
  · subst h
    have h1 : mulD (.int (k : Int)) (.int 7919) = some (.int ((k : Int) * 7919)) := mul_right (by decide)
    simp only [F_l_cell, g_l_cell, bodyF, startE, seqS, stS, stO, rtS, roS, roV, asS, ifS, xpS, bin, un, unN, lstF, lsF, consF, nilF, tupF, kc, gv, gb, tst, andT, orT, notT, andV, orV, notV, ifV, callF, callN, iterF, rngF, walked, slF, noP, soP, setN, setT, setCons, setNil, wipeE, yes, forS, prS, Rz.bind_ok, q_ofO, q_ofN, q_bad, q_ex, q_exS, q_exX, q_exB, q_okB, q_nx, q_rt, q_ro, q_bk, q_ct, q_sx, q_anx, q_act, q_abk, q_art, q_bnx, q_brt, q_bro, q_bex, q_va, q_ow, q_boo, add_int, sub_int, lt_int, le_int, gt_int, ge_int, neg_int, List.map_cons, List.map_nil, List.length_cons, List.length_nil, List.nil_append, List.cons_append, List.replicate, List.getElem?_cons_zero, List.getElem?_cons_succ, env_set0, env_setS, Option.bind_some, Option.map_some, if_true, Bool.false_eq_true, if_false, Nat.reduceAdd, Nat.reduceSub, sizeLine_eq, Nat.reduceLeDiff, Nat.zero_le, e1, decide_true, h1]
    rfl
  · have l0 : 0 < ns.length := List.length_pos_iff.mpr h
    have h1 : modD (.int (k : Int)) (.int (ns.map Dt.int).length) = some (.int ((k % ns.length : Nat) : Int)) := by
      rw [List.length_map, mod_pos (by omega)]; rfl
    have h2 : divD (.int (k : Int)) (.int (ns.map Dt.int).length) = some (.int ((k / ns.length : Nat) : Int)) := by
      rw [List.length_map, div_pos (by omega) (Bd.mono (n := 6) (show ((ns.length : Int)).natAbs < 2 ^ 6 by omega) (by decide))]; rfl
    have h3 : mulD (.int ((k / ns.length : Nat) : Int)) (.int 104729) = some (.int ((k / ns.length : Nat) * 104729)) := mul_right (by decide)
    have h4 : ixD (.frl (ns.map .int)) (.int ((k % ns.length : Nat) : Int)) = some (.int (ns[k % ns.length]?.getD 0)) := by
      have hlt : k % ns.length < ns.length := Nat.mod_lt _ l0
      exact L2.atI_nat (by rw [List.getElem?_map, List.getElem?_eq_getElem hlt]; rfl)
    simp only [F_l_cell, g_l_cell, bodyF, startE, seqS, stS, stO, rtS, roS, roV, asS, ifS, xpS, bin, un, unN, lstF, lsF, consF, nilF, tupF, kc, gv, gb, tst, andT, orT, notT, andV, orV, notV, ifV, callF, callN, iterF, rngF, walked, slF, noP, soP, setN, setT, setCons, setNil, wipeE, yes, forS, prS, Rz.bind_ok, q_ofO, q_ofN, q_bad, q_ex, q_exS, q_exX, q_exB, q_okB, q_nx, q_rt, q_ro, q_bk, q_ct, q_sx, q_anx, q_act, q_abk, q_art, q_bnx, q_brt, q_bro, q_bex, q_va, q_ow, q_boo, add_int, sub_int, lt_int, le_int, gt_int, ge_int, neg_int, List.map_cons, List.map_nil, List.length_cons, List.length_nil, List.nil_append, List.cons_append, List.replicate, List.getElem?_cons_zero, List.getElem?_cons_succ, env_set0, env_setS, Option.bind_some, Option.map_some, if_true, Bool.false_eq_true, if_false, Nat.reduceAdd, Nat.reduceSub, sizeLine_eq, Nat.reduceLeDiff, Nat.zero_le, e1, decide_eq_false h, lenD, h1, h2, h3, h4]
    rw [cell, if_neg h]
end DL
end
section
set_option Elab.async false
set_option linter.all false
set_option maxRecDepth 100000
set_option maxHeartbeats 4000000
set_option autoImplicit false
namespace DL
open PySem
/-! ### points -/
abbrev P3 := Int × Int × Int
def co : Nat → P3 → Int
  | 0, p => p.1
  | 1, p => p.2.1
  | _, p => p.2.2
def en (p : P3) : Dt := .tup [.int p.1, .int p.2.1, .int p.2.2]
theorem en_ix (p : P3) (k : Nat) (h : k < 3) : ixD (en p) (.int k) = some (.int (co k p)) := by
  match k, h with
  | 0, _ => rfl
  | 1, _ => rfl
  | 2, _ => rfl
theorem en_okq (p : P3) : okq 1 (en p) = true := rfl
theorem ens_okq (ps : List P3) : okqs 1 (ps.map en) = true := by
  induction ps with
  | nil => rfl
  | cons a l ih => rw [List.map_cons, okqs, ih, en_okq]; rfl
theorem eqq_en (p q : P3) : eqq (en p) (en q) = decide (p = q) := by
  unfold en
  rw [eqq_tup, eqqs_cons, eqqs_cons, eqqs_cons, eqqs_nil, eqq_int, eqq_int, eqq_int]
  obtain ⟨a, b, c⟩ := p
  obtain ⟨d, e, f⟩ := q
  simp only [Prod.mk.injEq]
  by_cases h1 : a = d <;> by_cases h2 : b = e <;> by_cases h3 : c = f <;> simp [h1, h2, h3]
theorem eqqs_ens (ps qs : List P3) : eqqs (ps.map en) (qs.map en) = decide (ps = qs) := by
  induction ps generalizing qs with
  | nil => cases qs with
    | nil => rfl
    | cons b m => rw [List.map_cons, List.map_nil, eqqs_nc]; rfl
  | cons a l ih => cases qs with
    | nil => rw [List.map_cons, List.map_nil, eqqs_cn]; rfl
    | cons b m =>
      rw [List.map_cons, List.map_cons, eqqs_cons, ih, eqq_en]
      simp only [List.cons.injEq]
      by_cases h1 : a = b <;> by_cases h2 : l = m <;> simp [h1, h2]
def loP (ps : List P3) : P3 := (minL (ps.map (co 0)), minL (ps.map (co 1)), minL (ps.map (co 2)))
def hiP (ps : List P3) : P3 := (maxL (ps.map (co 0)), maxL (ps.map (co 1)), maxL (ps.map (co 2)))
theorem minD_ints {ns : List Int} (h : ns ≠ []) : minD (.lst (ns.map .int)) = some (.int (minL ns)) := by
  show (asI (ns.map .int)).bind _ = _
  rw [ints_map, Option.bind_some, if_neg h]
theorem maxD_ints {ns : List Int} (h : ns ≠ []) : maxD (.lst (ns.map .int)) = some (.int (maxL ns)) := by
  show (asI (ns.map .int)).bind _ = _
  rw [ints_map, Option.bind_some, if_neg h]
theorem range3 {α : Type} (f : Nat → α) : (List.range 3).map f = [f 0, f 1, f 2] := rfl
theorem tupD_lst (xs : List Dt) : tupD (.lst xs) = some (.tup xs) := rfl
theorem F_box_around_eq {ps : List P3} (h0 : ps ≠ []) (hl : ps.length < 16777216) : F_box_around [.lst (ps.map en)] = .ok (.va (.tup [en (loP ps), en (hiP ps)])) := by
  have hne : ∀ k, ps.map (co k) ≠ [] := fun k => by
    cases ps with
    | nil => exact absurd rfl h0
    | cons a l => rw [List.map_cons]; exact List.cons_ne_nil _ _
  have inner : ∀ (ε : Ev) (k : Nat), k < 3 → ε[0]? = some (.d (.lst (ps.map en))) → (ε[3]? = some (.d (.int k))) → 4 ≤ ε.length → lcF (iterF (gb 0)) [2] (setN 2) yes (bin ixD (gb 2) (gb 3)) ε = .ok ((ps.map (co k)).map .int) := fun ε k hk e0 e3 hε => by
    rw [List.map_map]
    refine lcF_map (l := ps) (en := en) ?_ hl fun p hp => ?_
    · unfold iterF
      rw [q_gb e0]
      rfl
    · have g2 : gb 2 (List.set (wipeE ε [2]) 2 (.d (en p))) = .ok (en p) := q_gb (by
        show (List.set (List.set ε 2 Lc.u) 2 _)[2]? = _
        rw [List.getElem?_set_self (by rw [List.length_set]; omega)])
      have g3 : gb 3 (List.set (wipeE ε [2]) 2 (.d (en p))) = .ok (.int k) := q_gb (by
        show (List.set (List.set ε 2 Lc.u) 2 _)[3]? = _
        rw [List.getElem?_set_ne (by decide), List.getElem?_set_ne (by decide), e3])
      unfold bin
      rw [g2, Rz.bind_ok, g3, Rz.bind_ok, en_ix p k hk]
      rfl
  have lo : ∀ ε : Ev, ε[0]? = some (.d (.lst (ps.map en))) → 4 ≤ ε.length → lcF (rngF (kc (.int 3))) [3] (setN 3) yes (un minD (lstF (lcF (iterF (gb 0)) [2] (setN 2) yes (bin ixD (gb 2) (gb 3))))) ε = .ok [.int (minL (ps.map (co 0))), .int (minL (ps.map (co 1))), .int (minL (ps.map (co 2)))] := fun ε e0 hε => by
    rw [← range3 fun k => Dt.int (minL (ps.map (co k)))]
    refine lcF_rng (n := 3) rfl (by decide) fun k hk => ?_
    unfold un lstF
    rw [inner _ k hk (by
        show (List.set (List.set ε 3 Lc.u) 3 _)[0]? = _
        rw [List.getElem?_set_ne (by decide), List.getElem?_set_ne (by decide), e0]) (by
        show (List.set (List.set ε 3 Lc.u) 3 _)[3]? = _
        rw [List.getElem?_set_self (by rw [List.length_set]; omega)]) (by
        show 4 ≤ (List.set (List.set ε 3 Lc.u) 3 _).length
        rw [List.length_set, List.length_set]; omega)]
    rw [Rz.bind_ok, Rz.bind_ok, minD_ints (hne k)]
    rfl
  have hi : ∀ ε : Ev, ε[0]? = some (.d (.lst (ps.map en))) → 4 ≤ ε.length → lcF (rngF (kc (.int 3))) [3] (setN 3) yes (un maxD (lstF (lcF (iterF (gb 0)) [2] (setN 2) yes (bin ixD (gb 2) (gb 3))))) ε = .ok [.int (maxL (ps.map (co 0))), .int (maxL (ps.map (co 1))), .int (maxL (ps.map (co 2)))] := fun ε e0 hε => by
    rw [← range3 fun k => Dt.int (maxL (ps.map (co k)))]
    refine lcF_rng (n := 3) rfl (by decide) fun k hk => ?_
    unfold un lstF
    rw [inner _ k hk (by
        show (List.set (List.set ε 3 Lc.u) 3 _)[0]? = _
        rw [List.getElem?_set_ne (by decide), List.getElem?_set_ne (by decide), e0]) (by
        show (List.set (List.set ε 3 Lc.u) 3 _)[3]? = _
        rw [List.getElem?_set_self (by rw [List.length_set]; omega)]) (by
        show 4 ≤ (List.set (List.set ε 3 Lc.u) 3 _).length
        rw [List.length_set, List.length_set]; omega)]
    rw [Rz.bind_ok, Rz.bind_ok, maxD_ints (hne k)]
    rfl
  simp only [F_box_around, g_box_around, bodyF, startE, seqS, stS, un, lstF, List.map_cons, List.map_nil, List.cons_append, List.nil_append, List.length_cons, List.length_nil, Nat.reduceAdd, Nat.reduceSub, List.replicate]
  rw [lo [.d (.lst (ps.map en)), .u, .u, .u] rfl (Nat.le_refl 4)]
  simp only [Rz.bind_ok, tupD_lst, q_ofO, q_exS, q_okB, q_nx, env_set0, env_setS, rtS, tupF, consF, nilF, un, lstF]
  rw [hi [.d (.lst (ps.map en)), _, .u, .u] rfl (Nat.le_refl 4)]
  simp only [Rz.bind_ok, tupD_lst, q_ofO, q_exS, q_okB, gv, List.getElem?_cons_zero, List.getElem?_cons_succ, q_brt]
  rfl
theorem F_bounds_eq {s : Str} {ps : List P3} (h0 : ps ≠ []) (hl : ps.length < 16777216) : F_bounds [.tup (.str s :: ps.map en)] = .ok (.va (.tup [en (loP ps), en (hiP ps)])) := by
  have h1 : slD (.tup (.str s :: ps.map en)) (some 1) none = some (.tup (ps.map en)) := by
    have e1 : HT.sIx (Dt.str s :: ps.map en).length 0 (some 1) = 1 := by
      simp only [List.length_cons, List.length_map]
      cases ps with
      | nil => exact absurd rfl h0
      | cons a l => simp only [List.length_cons]; unfold HT.sIx; simp
    have e2 : HT.sIx (Dt.str s :: ps.map en).length (Dt.str s :: ps.map en).length none = (Dt.str s :: ps.map en).length := rfl
    show (if HT.sIx (Dt.str s :: ps.map en).length 0 (some 1) = 0 ∧ HT.sIx (Dt.str s :: ps.map en).length (Dt.str s :: ps.map en).length none = (Dt.str s :: ps.map en).length then none else some (Dt.tup (cutG (Dt.str s :: ps.map en) (some 1) none))) = _
    rw [if_neg (by rw [e1]; omega)]
    unfold cutG
    rw [e1, e2, List.drop_one, List.tail_cons, List.length_cons, Nat.add_sub_cancel, List.take_length]
  simp only [F_bounds, g_bounds, bodyF, startE, seqS, stS, stO, rtS, roS, roV, asS, ifS, xpS, bin, un, unN, lstF, lsF, consF, nilF, tupF, kc, gv, gb, tst, andT, orT, notT, andV, orV, notV, ifV, callF, callN, iterF, rngF, walked, slF, noP, soP, setN, setT, setCons, setNil, wipeE, yes, forS, prS, Rz.bind_ok, q_ofO, q_ofN, q_bad, q_ex, q_exS, q_exX, q_exB, q_okB, q_nx, q_rt, q_ro, q_bk, q_ct, q_sx, q_anx, q_act, q_abk, q_art, q_bnx, q_brt, q_bro, q_bex, q_va, q_ow, q_boo, add_int, sub_int, lt_int, le_int, gt_int, ge_int, neg_int, List.map_cons, List.map_nil, List.length_cons, List.length_nil, List.nil_append, List.cons_append, List.replicate, List.getElem?_cons_zero, List.getElem?_cons_succ, env_set0, env_setS, Option.bind_some, Option.map_some, if_true, Bool.false_eq_true, if_false, Nat.reduceAdd, Nat.reduceSub, sizeLine_eq, Nat.reduceLeDiff, Nat.zero_le, h1]
  have h2 : listD (.tup (ps.map en)) = some (ps.map en) := rfl
  simp only [bodyF, startE, seqS, stS, stO, rtS, roS, roV, asS, ifS, xpS, bin, un, unN, lstF, lsF, consF, nilF, tupF, kc, gv, gb, tst, andT, orT, notT, andV, orV, notV, ifV, callF, callN, iterF, rngF, walked, slF, noP, soP, setN, setT, setCons, setNil, wipeE, yes, forS, prS, Rz.bind_ok, q_ofO, q_ofN, q_bad, q_ex, q_exS, q_exX, q_exB, q_okB, q_nx, q_rt, q_ro, q_bk, q_ct, q_sx, q_anx, q_act, q_abk, q_art, q_bnx, q_brt, q_bro, q_bex, q_va, q_ow, q_boo, add_int, sub_int, lt_int, le_int, gt_int, ge_int, neg_int, List.map_cons, List.map_nil, List.length_cons, List.length_nil, List.nil_append, List.cons_append, List.replicate, List.getElem?_cons_zero, List.getElem?_cons_succ, env_set0, env_setS, Option.bind_some, Option.map_some, if_true, Bool.false_eq_true, if_false, Nat.reduceAdd, Nat.reduceSub, sizeLine_eq, Nat.reduceLeDiff, Nat.zero_le, h2, F_box_around_eq h0 hl]
/-! ### a point of the law -/
def wideOf (m : Int) : Int := if m % 4 = 0 then 3 else if m % 4 = 1 then 7 else if m % 4 = 2 then 13 else 2001
def ptRaw (m : Int) (j : Nat) : Int := m / (8 * ((j : Int) * 37 + 1)) % wideOf m - wideOf m / 2
def ptCo (c m : Int) (j : Nat) : Int := if m / 4 % 16 = 3 then ptRaw m j * (1 + c % 1152921504606846976) else ptRaw m j
def lpt (c k : Int) : P3 := (ptCo c (drawn c k) 0, ptCo c (drawn c k) 1, ptCo c (drawn c k) 2)
theorem wide_pos (m : Int) : 3 ≤ wideOf m ∧ wideOf m ≤ 2001 := by
  unfold wideOf; split; · decide
  split; · decide
  split <;> decide
theorem wide_ix (m : Int) : ixD (.lst [.int 3, .int 7, .int 13, .int 2001]) (.int (m % 4)) = some (.int (wideOf m)) := by
  have : m % 4 = 0 ∨ m % 4 = 1 ∨ m % 4 = 2 ∨ m % 4 = 3 := by omega
  rcases this with h | h | h | h <;> simp only [wideOf, h] <;> rfl
theorem ptRaw_bd (m : Int) (j : Nat) : Bd 11 (ptRaw m j) := by
  have h := wide_pos m
  have h1 := Int.emod_nonneg (m / (8 * ((j : Int) * 37 + 1))) (show wideOf m ≠ 0 by omega)
  have h2 := Int.emod_lt_of_pos (m / (8 * ((j : Int) * 37 + 1))) (show 0 < wideOf m by omega)
  unfold Bd ptRaw
  omega
theorem F_l_point_eq (c k : Int) : F_l_point [.int c, .int k] = .ok (.va (en (lpt c k))) := by
  have h1 : ∀ m : Int, modD (.int m) (.int 4) = some (.int (m % 4)) := fun m => mod_pos (by decide)
  have h2 : ∀ m : Int, divD (.int m) (.int 4) = some (.int (m / 4)) := fun m => div_sm (by decide)
  have h3 : ∀ m : Int, modD (.int m) (.int 16) = some (.int (m % 16)) := fun m => mod_pos (by decide)
  have h4 : shlD (.int 1) (.int 60) = some (.int 1152921504606846976) := rfl
  have h5 : ∀ m : Int, modD (.int m) (.int 1152921504606846976) = some (.int (m % 1152921504606846976)) := fun m => mod_pos (by decide)
  have h6 : ∀ w : Int, divD (.int w) (.int 2) = some (.int (w / 2)) := fun w => div_sm (by decide)
  have hw := wide_pos (drawn c k)
  have h7 : ∀ x : Int, modD (.int x) (.int (wideOf (drawn c k))) = some (.int (x % wideOf (drawn c k))) := fun x => mod_pos (by omega)
  have raw : ∀ x v, lcF (rngF (kc (.int 3))) [5] (setN 5) yes (bin subD (bin modD (bin divD (gb 2) (bin mulD (kc (.int 8)) (bin addD (bin mulD (gb 5) (kc (.int 37))) (kc (.int 1))))) (gb 3)) (bin divD (gb 3) (kc (.int 2)))) [.d (.int c), .d (.int k), .d (.int (drawn c k)), .d (.int (wideOf (drawn c k))), x, v, .u] = .ok ((List.range 3).map fun j => .int (ptRaw (drawn c k) j)) := fun x v => by
    refine lcF_rng (n := 3) rfl (by decide) fun j hj => ?_
    have e1 : mulD (.int (j : Int)) (.int 37) = some (.int ((j : Int) * 37)) := mul_right (by decide)
    have e2 : mulD (.int 8) (.int ((j : Int) * 37 + 1)) = some (.int (8 * ((j : Int) * 37 + 1))) := mul_left (by decide)
    have e3 : divD (.int (drawn c k)) (.int (8 * ((j : Int) * 37 + 1))) = some (.int (drawn c k / (8 * ((j : Int) * 37 + 1)))) := div_pos (by omega) (Bd.mono (n := 20) (show Int.natAbs _ < 2 ^ 20 by omega) (by decide))
    simp only [bodyF, startE, seqS, stS, stO, rtS, roS, roV, asS, ifS, xpS, bin, un, unN, lstF, lsF, consF, nilF, tupF, kc, gv, gb, tst, andT, orT, notT, andV, orV, notV, ifV, callF, callN, iterF, rngF, walked, slF, noP, soP, setN, setT, setCons, setNil, wipeE, yes, forS, prS, Rz.bind_ok, q_ofO, q_ofN, q_bad, q_ex, q_exS, q_exX, q_exB, q_okB, q_nx, q_rt, q_ro, q_bk, q_ct, q_sx, q_anx, q_act, q_abk, q_art, q_bnx, q_brt, q_bro, q_bex, q_va, q_ow, q_boo, add_int, sub_int, lt_int, le_int, gt_int, ge_int, neg_int, List.map_cons, List.map_nil, List.length_cons, List.length_nil, List.nil_append, List.cons_append, List.replicate, List.getElem?_cons_zero, List.getElem?_cons_succ, env_set0, env_setS, Option.bind_some, Option.map_some, if_true, Bool.false_eq_true, if_false, Nat.reduceAdd, Nat.reduceSub, sizeLine_eq, Nat.reduceLeDiff, Nat.zero_le, List.foldl, e1, e2, e3, h7, h6]
    rfl
  have e0 : (List.range 3).map (fun j => Dt.int (ptRaw (drawn c k) j)) = [ptRaw (drawn c k) 0, ptRaw (drawn c k) 1, ptRaw (drawn c k) 2].map Dt.int := rfl
  simp only [F_l_point, g_l_point, bodyF, startE, seqS, stS, stO, rtS, roS, roV, asS, ifS, xpS, bin, un, unN, lstF, lsF, consF, nilF, tupF, kc, gv, gb, tst, andT, orT, notT, andV, orV, notV, ifV, callF, callN, iterF, rngF, walked, slF, noP, soP, setN, setT, setCons, setNil, wipeE, yes, forS, prS, Rz.bind_ok, q_ofO, q_ofN, q_bad, q_ex, q_exS, q_exX, q_exB, q_okB, q_nx, q_rt, q_ro, q_bk, q_ct, q_sx, q_anx, q_act, q_abk, q_art, q_bnx, q_brt, q_bro, q_bex, q_va, q_ow, q_boo, add_int, sub_int, lt_int, le_int, gt_int, ge_int, neg_int, List.map_cons, List.map_nil, List.length_cons, List.length_nil, List.nil_append, List.cons_append, List.replicate, List.getElem?_cons_zero, List.getElem?_cons_succ, env_set0, env_setS, Option.bind_some, Option.map_some, if_true, Bool.false_eq_true, if_false, Nat.reduceAdd, Nat.reduceSub, sizeLine_eq, Nat.reduceLeDiff, Nat.zero_le, F_l_drawn_eq, h1, wide_ix]
  rw [raw .u .u]
  simp only [bodyF, startE, seqS, stS, stO, rtS, roS, roV, asS, ifS, xpS, bin, un, unN, lstF, lsF, consF, nilF, tupF, kc, gv, gb, tst, andT, orT, notT, andV, orV, notV, ifV, callF, callN, iterF, rngF, walked, slF, noP, soP, setN, setT, setCons, setNil, wipeE, yes, forS, prS, Rz.bind_ok, q_ofO, q_ofN, q_bad, q_ex, q_exS, q_exX, q_exB, q_okB, q_nx, q_rt, q_ro, q_bk, q_ct, q_sx, q_anx, q_act, q_abk, q_art, q_bnx, q_brt, q_bro, q_bex, q_va, q_ow, q_boo, add_int, sub_int, lt_int, le_int, gt_int, ge_int, neg_int, List.map_cons, List.map_nil, List.length_cons, List.length_nil, List.nil_append, List.cons_append, List.replicate, List.getElem?_cons_zero, List.getElem?_cons_succ, env_set0, env_setS, Option.bind_some, Option.map_some, if_true, Bool.false_eq_true, if_false, Nat.reduceAdd, Nat.reduceSub, sizeLine_eq, Nat.reduceLeDiff, Nat.zero_le, tupD_lst, h2, h3, eqD_int]
  by_cases h : drawn c k / 4 % 16 = 3
  · simp only [decide_eq_true h, bodyF, startE, seqS, stS, stO, rtS, roS, roV, asS, ifS, xpS, bin, un, unN, lstF, lsF, consF, nilF, tupF, kc, gv, gb, tst, andT, orT, notT, andV, orV, notV, ifV, callF, callN, iterF, rngF, walked, slF, noP, soP, setN, setT, setCons, setNil, wipeE, yes, forS, prS, Rz.bind_ok, q_ofO, q_ofN, q_bad, q_ex, q_exS, q_exX, q_exB, q_okB, q_nx, q_rt, q_ro, q_bk, q_ct, q_sx, q_anx, q_act, q_abk, q_art, q_bnx, q_brt, q_bro, q_bex, q_va, q_ow, q_boo, add_int, sub_int, lt_int, le_int, gt_int, ge_int, neg_int, List.map_cons, List.map_nil, List.length_cons, List.length_nil, List.nil_append, List.cons_append, List.replicate, List.getElem?_cons_zero, List.getElem?_cons_succ, env_set0, env_setS, Option.bind_some, Option.map_some, if_true, Bool.false_eq_true, if_false, Nat.reduceAdd, Nat.reduceSub, sizeLine_eq, Nat.reduceLeDiff, Nat.zero_le]
    rw [lcF_map (l := [ptRaw (drawn c k) 0, ptRaw (drawn c k) 1, ptRaw (drawn c k) 2]) (en := Dt.int) (f := fun x => .int (x * (1 + c % 1152921504606846976))) rfl (by show 3 < 16777216; decide) fun x hx => by
      have b1 : Bd 11 x := by
        rcases List.mem_cons.mp hx with rfl | hx
        · exact ptRaw_bd _ _
        rcases List.mem_cons.mp hx with rfl | hx
        · exact ptRaw_bd _ _
        rcases List.mem_cons.mp hx with rfl | hx
        · exact ptRaw_bd _ _
        · cases hx
      have b2 : Bd 61 (1 + c % 1152921504606846976) := by unfold Bd; omega
      have b3 := mul_bd b1 b2 (by decide) (by decide) (by decide)
      simp only [bodyF, startE, seqS, stS, stO, rtS, roS, roV, asS, ifS, xpS, bin, un, unN, lstF, lsF, consF, nilF, tupF, kc, gv, gb, tst, andT, orT, notT, andV, orV, notV, ifV, callF, callN, iterF, rngF, walked, slF, noP, soP, setN, setT, setCons, setNil, wipeE, yes, forS, prS, Rz.bind_ok, q_ofO, q_ofN, q_bad, q_ex, q_exS, q_exX, q_exB, q_okB, q_nx, q_rt, q_ro, q_bk, q_ct, q_sx, q_anx, q_act, q_abk, q_art, q_bnx, q_brt, q_bro, q_bex, q_va, q_ow, q_boo, add_int, sub_int, lt_int, le_int, gt_int, ge_int, neg_int, List.map_cons, List.map_nil, List.length_cons, List.length_nil, List.nil_append, List.cons_append, List.replicate, List.getElem?_cons_zero, List.getElem?_cons_succ, env_set0, env_setS, Option.bind_some, Option.map_some, if_true, Bool.false_eq_true, if_false, Nat.reduceAdd, Nat.reduceSub, sizeLine_eq, Nat.reduceLeDiff, Nat.zero_le, List.foldl, h4, h5, b3]]
    simp only [bodyF, startE, seqS, stS, stO, rtS, roS, roV, asS, ifS, xpS, bin, un, unN, lstF, lsF, consF, nilF, tupF, kc, gv, gb, tst, andT, orT, notT, andV, orV, notV, ifV, callF, callN, iterF, rngF, walked, slF, noP, soP, setN, setT, setCons, setNil, wipeE, yes, forS, prS, Rz.bind_ok, q_ofO, q_ofN, q_bad, q_ex, q_exS, q_exX, q_exB, q_okB, q_nx, q_rt, q_ro, q_bk, q_ct, q_sx, q_anx, q_act, q_abk, q_art, q_bnx, q_brt, q_bro, q_bex, q_va, q_ow, q_boo, add_int, sub_int, lt_int, le_int, gt_int, ge_int, neg_int, List.map_cons, List.map_nil, List.length_cons, List.length_nil, List.nil_append, List.cons_append, List.replicate, List.getElem?_cons_zero, List.getElem?_cons_succ, env_set0, env_setS, Option.bind_some, Option.map_some, if_true, Bool.false_eq_true, if_false, Nat.reduceAdd, Nat.reduceSub, sizeLine_eq, Nat.reduceLeDiff, Nat.zero_le, tupD_lst, lpt, en, ptCo, if_pos h]
  · simp only [decide_eq_false h, bodyF, startE, seqS, stS, stO, rtS, roS, roV, asS, ifS, xpS, bin, un, unN, lstF, lsF, consF, nilF, tupF, kc, gv, gb, tst, andT, orT, notT, andV, orV, notV, ifV, callF, callN, iterF, rngF, walked, slF, noP, soP, setN, setT, setCons, setNil, wipeE, yes, forS, prS, Rz.bind_ok, q_ofO, q_ofN, q_bad, q_ex, q_exS, q_exX, q_exB, q_okB, q_nx, q_rt, q_ro, q_bk, q_ct, q_sx, q_anx, q_act, q_abk, q_art, q_bnx, q_brt, q_bro, q_bex, q_va, q_ow, q_boo, add_int, sub_int, lt_int, le_int, gt_int, ge_int, neg_int, List.map_cons, List.map_nil, List.length_cons, List.length_nil, List.nil_append, List.cons_append, List.replicate, List.getElem?_cons_zero, List.getElem?_cons_succ, env_set0, env_setS, Option.bind_some, Option.map_some, if_true, Bool.false_eq_true, if_false, Nat.reduceAdd, Nat.reduceSub, sizeLine_eq, Nat.reduceLeDiff, Nat.zero_le, lpt, en, ptCo, if_neg h]
    rfl

/-! ### the law -/
theorem sort_lo {ns : List Int} (h : ns ≠ []) : ixD (.lst ((sortI ns).map .int)) (.int 0) = some (.int (minL ns)) := by
  have hp := sortI_perm ns
  have hu := sortI_up ns
  cases e : sortI ns with
  | nil => rw [e] at hp; exact absurd hp.nil_eq.symm h
  | cons a l =>
    rw [e] at hp hu
    rw [minL_of (m := a) (hp.mem_iff.mp List.mem_cons_self) fun y hy => by
      rcases List.mem_cons.mp (hp.mem_iff.mpr hy) with rfl | hm
      · exact Int.le_refl _
      · exact (List.pairwise_cons.mp hu).1 y hm]
    exact L2.atI_nat (j := 0) rfl
theorem sort_hi {ns : List Int} (h : ns ≠ []) : ixD (.lst ((sortI ns).map .int)) (.int (-1)) = some (.int (maxL ns)) := by
  have hp := sortI_perm ns
  have hu := sortI_up ns
  have hn : sortI ns ≠ [] := fun e => by rw [e] at hp; exact absurd hp.nil_eq.symm h
  obtain ⟨l, a, e⟩ : ∃ l a, sortI ns = l ++ [a] := ⟨_, _, (List.dropLast_concat_getLast hn).symm⟩
  rw [e] at hp hu ⊢
  rw [maxL_of (m := a) (hp.mem_iff.mp (by simp)) fun y hy => by
    rcases List.mem_append.mp (hp.mem_iff.mpr hy) with hm | hm
    · exact (List.pairwise_append.mp hu).2.2 y hm a (by simp)
    · rw [List.mem_singleton.mp hm]; exact Int.le_refl _]
  rw [List.map_append]
  exact L2.atI_last _ _
/-- the sorted coordinates, one end of them -/
theorem law_row {ps : List P3} (hl : ps.length < 16777216) {x4 x5 x6 x7 x8 x0 x3 : Lc} {i : Int} {m : List Int → Int} (hm : ∀ k, ixD (.lst ((sortI (ps.map (co k))).map .int)) (.int i) = some (.int (m (ps.map (co k))))) {ix : Fn} (hx : ∀ ε, ix ε = .ok (.int i)) :
    lcF (rngF (kc (.int 3))) [2] (setN 2) yes (bin ixD (lstF (unN sortD (lstF (lcF (iterF (gb 1)) [5] (setN 5) yes (bin ixD (gb 5) (gb 2)))))) ix) [x0, .d (.lst (ps.map en)), .u, x3, x4, x5, x6, x7, x8] = .ok [.int (m (ps.map (co 0))), .int (m (ps.map (co 1))), .int (m (ps.map (co 2)))] := by
  rw [← range3 fun k => Dt.int (m (ps.map (co k)))]
  refine lcF_rng (n := 3) rfl (by decide) fun k hk => ?_
  have h1 : lcF (iterF (gb 1)) [5] (setN 5) yes (bin ixD (gb 5) (gb 2)) ((wipeE [x0, .d (.lst (ps.map en)), .u, x3, x4, x5, x6, x7, x8] [2]).set 2 (.d (.int k))) = .ok ((ps.map (co k)).map .int) := by
    rw [List.map_map]
    refine lcF_map (l := ps) (en := en) rfl hl fun p hp => ?_
    simp only [bodyF, startE, seqS, stS, stO, rtS, roS, roV, asS, ifS, xpS, bin, un, unN, lstF, lsF, consF, nilF, tupF, kc, gv, gb, tst, andT, orT, notT, andV, orV, notV, ifV, callF, callN, iterF, rngF, walked, slF, noP, soP, setN, setT, setCons, setNil, wipeE, yes, forS, prS, Rz.bind_ok, q_ofO, q_ofN, q_bad, q_ex, q_exS, q_exX, q_exB, q_okB, q_nx, q_rt, q_ro, q_bk, q_ct, q_sx, q_anx, q_act, q_abk, q_art, q_bnx, q_brt, q_bro, q_bex, q_va, q_ow, q_boo, add_int, sub_int, lt_int, le_int, gt_int, ge_int, neg_int, List.map_cons, List.map_nil, List.length_cons, List.length_nil, List.nil_append, List.cons_append, List.replicate, List.getElem?_cons_zero, List.getElem?_cons_succ, env_set0, env_setS, Option.bind_some, Option.map_some, if_true, Bool.false_eq_true, if_false, Nat.reduceAdd, Nat.reduceSub, sizeLine_eq, Nat.reduceLeDiff, Nat.zero_le, en_ix p k hk]
    rfl
  refine e_bin (e_lst (e_unN (e_lst h1) (ds := (sortI (ps.map (co k))).map .int) ?_)) (hx _) (hm k)
  show (asI ((ps.map (co k)).map .int)).bind _ = _
  rw [ints_map]; rfl
theorem law_true (ns : List Int) (hn : ns.length ≤ 63) : F_law_k11 [.frl (ns.map .int)] = .ok (.va (.bl true)) := by
  have lb : lenD (.frl (ns.map .int)) = some (.int ns.length) := by
    show some (Dt.int (ns.map Dt.int).length) = _
    rw [List.length_map]
  obtain ⟨n, hn1, hn2, hmm⟩ : ∃ n : Nat, 1 ≤ n ∧ n ≤ 12 ∧ (bin max2D (kc (.int 1)) (bin min2D (kc (.int 12)) (un lenD (gb 0)))) (startE 9 [.frl (ns.map .int)]) = .ok (.int n) := by
    simp only [bodyF, startE, seqS, stS, stO, rtS, roS, roV, asS, ifS, xpS, bin, un, unN, lstF, lsF, consF, nilF, tupF, kc, gv, gb, tst, andT, orT, notT, andV, orV, notV, ifV, callF, callN, iterF, rngF, walked, slF, noP, soP, setN, setT, setCons, setNil, wipeE, yes, forS, prS, Rz.bind_ok, q_ofO, q_ofN, q_bad, q_ex, q_exS, q_exX, q_exB, q_okB, q_nx, q_rt, q_ro, q_bk, q_ct, q_sx, q_anx, q_act, q_abk, q_art, q_bnx, q_brt, q_bro, q_bex, q_va, q_ow, q_boo, add_int, sub_int, lt_int, le_int, gt_int, ge_int, neg_int, List.map_cons, List.map_nil, List.length_cons, List.length_nil, List.nil_append, List.cons_append, List.replicate, List.getElem?_cons_zero, List.getElem?_cons_succ, env_set0, env_setS, Option.bind_some, Option.map_some, if_true, Bool.false_eq_true, if_false, Nat.reduceAdd, Nat.reduceSub, sizeLine_eq, Nat.reduceLeDiff, Nat.zero_le, lb, min2D, max2D]
    by_cases h : (ns.length : Int) < 12
    · rw [if_pos h]
      by_cases h2 : (ns.length : Int) > 1
      · exact ⟨ns.length, by omega, by omega, by rw [if_pos h2]⟩
      · exact ⟨1, by omega, by omega, by rw [if_neg h2]; rfl⟩
    · exact ⟨12, by omega, by omega, by rw [if_neg h]; rfl⟩
  obtain ⟨pts, hp⟩ : ∃ pts : List P3, pts = (List.range n).map fun k => lpt (cell ns k) k := ⟨_, rfl⟩
  have hlen : pts.length = n := by rw [hp, List.length_map, List.length_range]
  have hne : pts ≠ [] := fun e => by rw [e] at hlen; simp at hlen; omega
  have hl : pts.length < 16777216 := by omega
  have hc : ∀ k, pts.map (co k) ≠ [] := fun k => by
    cases pts with
    | nil => exact absurd rfl hne
    | cons a l => rw [List.map_cons]; exact List.cons_ne_nil _ _
  have p1 : ∀ (ε : Ev) (k : Nat), k < 1000 → ε[0]? = some (.d (.frl (ns.map .int))) → ε[2]? = some (.d (.int k)) → callF 2 F_l_cell (consF (gv 0) (consF (gv 2) nilF)) ε = .ok (.int (cell ns k)) := fun ε k hk e0 e2 =>
    c_1 (ds := [.frl (ns.map .int), .int k]) (e_cons (q_gv e0) (e_cons (q_gv e2) rfl)) rfl (F_l_cell_eq ns hn k hk) rfl
  have a1 : lcF (rngF (bin max2D (kc (.int 1)) (bin min2D (kc (.int 12)) (un lenD (gb 0))))) [2] (setN 2) yes (callF 2 F_l_point (consF (callF 2 F_l_cell (consF (gv 0) (consF (gv 2) nilF))) (consF (gv 2) nilF))) (startE 9 [.frl (ns.map .int)]) = .ok (pts.map en) := by
    rw [hp, List.map_map]
    refine lcF_rng (n := n) ?_ (by omega) fun k hk => ?_
    · unfold rngF
      rw [hmm, Rz.bind_ok, rng_ok (by omega) (by omega)]; rfl
    · refine c_1 (ds := [.int (cell ns k), .int k]) (e_cons (p1 _ k (by omega) rfl rfl) (e_cons (q_gv rfl) rfl)) rfl (F_l_point_eq _ _) rfl
  obtain ⟨q, hq⟩ : ∃ q : List P3, q = (List.range 3).map fun k => lpt (cell ns k) (k + 20) := ⟨_, rfl⟩
  have a7 : ∀ x3 x4 x5 x6 x7 x8 x1, lcF (rngF (kc (.int 3))) [2] (setN 2) yes (callF 2 F_l_point (consF (callF 2 F_l_cell (consF (gv 0) (consF (gv 2) nilF))) (consF (bin addD (gb 2) (kc (.int 20))) nilF))) [.d (.frl (ns.map .int)), x1, .u, x3, x4, x5, x6, x7, x8] = .ok (q.map en) := by
    intro x3 x4 x5 x6 x7 x8 x1
    rw [hq, List.map_map]
    refine lcF_rng (n := 3) rfl (by omega) fun k hk => ?_
    refine c_1 (ds := [.int (cell ns k), .int (k + 20)]) (e_cons (p1 _ k (by omega) rfl rfl) (e_cons (e_bin (q_gb rfl) rfl rfl) rfl)) rfl (F_l_point_eq _ _) rfl
  have ok2 : okq 2 (.tup [en (loP pts), en (hiP pts)]) = true := rfl
  have okl : okq 2 (.lst (pts.map en)) = true := ens_okq pts
  have hb := F_box_around_eq hne hl
  have eqt : ∀ a b c d : P3, eqq (.tup [en a, en b]) (.tup [en c, en d]) = (decide (a = c) && decide (b = d)) := fun a b c d => by
    rw [eqq_tup, eqqs_cons, eqqs_cons, eqqs_nil, eqq_en, eqq_en, Bool.and_true]
  have self : eqq (.tup [en (loP pts), en (hiP pts)]) (.tup [en (loP pts), en (hiP pts)]) = true := by rw [eqt]; simp
  obtain ⟨p0, ps, hps⟩ : ∃ p0 ps, pts = p0 :: ps := by
    cases pts with
    | nil => exact absurd rfl hne
    | cons a l => exact ⟨a, l, rfl⟩
  have one : F_box_around [.lst [en p0]] = .ok (.va (.tup [en p0, en p0])) := F_box_around_eq (ps := [p0]) (by simp) (by show 1 < _; decide)
  have cut1 : slD (.lst (pts.map en)) none (some 1) = some (.lst [en p0]) := by
    rw [hps]
    show some (Dt.lst (cutG _ _ _)) = _
    unfold cutG
    have z0 : HT.sIx ((p0 :: ps).map en).length 0 none = 0 := rfl
    have z1 : HT.sIx ((p0 :: ps).map en).length ((p0 :: ps).map en).length (some 1) = 1 := by
      simp only [List.length_map, List.length_cons]; unfold HT.sIx; simp
    rw [z0, z1]; rfl
  have ix0 : ixD (.lst (pts.map en)) (.int 0) = some (en p0) := by rw [hps]; exact L2.atI_nat (j := 0) rfl
  have qne : q ≠ [] := by rw [hq]; simp
  have ql : q.length < 16777216 := by rw [hq]; show 3 < _; decide
  have hbq := F_box_around_eq qne ql
  have self3 : eqq (.tup [en (loP q), en (hiP q)]) (.tup [en (loP q), en (hiP q)]) = true := by rw [eqt]; simp
  have bx : F_bounds [.tup [.str "box", en (loP pts), en (hiP pts)]] = .ok (.va (.tup [en (loP pts), en (hiP pts)])) := by
    refine (F_bounds_eq (ps := [loP pts, hiP pts]) (by simp) (by show 2 < _; decide)).trans ?_
    have h0 : ∀ k, minL ([loP pts, hiP pts].map (co k)) = minL (pts.map (co k)) ∧ maxL ([loP pts, hiP pts].map (co k)) = maxL (pts.map (co k)) := fun k => by
      have e1 : co k (loP pts) = minL (pts.map (co k)) := by
        unfold loP
        match k with
        | 0 => rfl
        | 1 => rfl
        | k + 2 => rfl
      have e2 : co k (hiP pts) = maxL (pts.map (co k)) := by
        unfold hiP
        match k with
        | 0 => rfl
        | 1 => rfl
        | k + 2 => rfl
      have m1 := minL_mem (hc k)
      have m2 := maxL_mem (hc k)
      have m3 : minL (pts.map (co k)) ≤ maxL (pts.map (co k)) := m1.2 _ m2.1
      rw [List.map_cons, List.map_cons, List.map_nil, e1, e2]
      exact ⟨minL_of (by simp) (by simp; exact m3), maxL_of (by simp) (by simp; exact m3)⟩
    have hlo : loP [loP pts, hiP pts] = loP pts := by
      show (_, _, _) = (_, _, _)
      rw [(h0 0).1, (h0 1).1, (h0 2).1]
    have hhi : hiP [loP pts, hiP pts] = hiP pts := by
      show (_, _, _) = (_, _, _)
      rw [(h0 0).2, (h0 1).2, (h0 2).2]
    rw [hlo, hhi]
  have tri : F_bounds [.tup (.str "triangle" :: q.map en)] = .ok (.va (.tup [en (loP q), en (hiP q)])) := F_bounds_eq qne ql
  refine b_rt ?_
  unfold g_law_k11
  rw [s_st (d := .lst (pts.map en)) (by unfold lstF; rw [a1]; rfl)]
  rw [s_st (d := .lst (pts.map en)) rfl]
  refine (s_st (ε := [.d (.frl (ns.map .int)), .d (.lst (pts.map en)), .u, .d (.lst (pts.map en)), .u, .u, .u, .u, .u]) (d := en (loP pts)) (e_un (e_lst (law_row (i := 0) (m := minL) (ix := kc (.int 0)) hl (fun k => sort_lo (hc k)) fun _ => rfl)) rfl)).trans ?_
  refine (s_st (ε := [.d (.frl (ns.map .int)), .d (.lst (pts.map en)), .u, .d (.lst (pts.map en)), .d (en (loP pts)), .u, .u, .u, .u]) (d := en (hiP pts)) (e_un (e_lst (law_row (i := -1) (m := maxL) (ix := un negD (kc (.int 1))) hl (fun k => sort_hi (hc k)) fun _ => rfl)) rfl)).trans ?_
  rw [s_ifF (by
    simp only [startE, bodyF, startE, seqS, stS, stO, rtS, roS, roV, asS, ifS, xpS, bin, un, unN, lstF, lsF, consF, nilF, tupF, kc, gv, gb, tst, andT, orT, notT, andV, orV, notV, ifV, callF, callN, iterF, rngF, walked, slF, noP, soP, setN, setT, setCons, setNil, wipeE, yes, forS, prS, Rz.bind_ok, q_ofO, q_ofN, q_bad, q_ex, q_exS, q_exX, q_exB, q_okB, q_nx, q_rt, q_ro, q_bk, q_ct, q_sx, q_anx, q_act, q_abk, q_art, q_bnx, q_brt, q_bro, q_bex, q_va, q_ow, q_boo, add_int, sub_int, lt_int, le_int, gt_int, ge_int, neg_int, List.map_cons, List.map_nil, List.length_cons, List.length_nil, List.nil_append, List.cons_append, List.replicate, List.getElem?_cons_zero, List.getElem?_cons_succ, env_set0, env_setS, Option.bind_some, Option.map_some, if_true, Bool.false_eq_true, if_false, Nat.reduceAdd, Nat.reduceSub, sizeLine_eq, Nat.reduceLeDiff, Nat.zero_le, hb, cut1, one, ix0, neD_of ok2 ok2 (by decide), neD_of okl okl (by decide), self, eqq_lst, eqqs_ens, eqq_tup, eqqs_cons, eqqs_nil, eqq_en, decide_true, Bool.and_true, Bool.not_true]
    have k1 : neD (.tup [en p0, en p0]) (.tup [en p0, en p0]) = some (.bl false) := by rw [neD_of (n := 2) rfl rfl (by decide), eqt]; simp
    simp only [bodyF, startE, seqS, stS, stO, rtS, roS, roV, asS, ifS, xpS, bin, un, unN, lstF, lsF, consF, nilF, tupF, kc, gv, gb, tst, andT, orT, notT, andV, orV, notV, ifV, callF, callN, iterF, rngF, walked, slF, noP, soP, setN, setT, setCons, setNil, wipeE, yes, forS, prS, Rz.bind_ok, q_ofO, q_ofN, q_bad, q_ex, q_exS, q_exX, q_exB, q_okB, q_nx, q_rt, q_ro, q_bk, q_ct, q_sx, q_anx, q_act, q_abk, q_art, q_bnx, q_brt, q_bro, q_bex, q_va, q_ow, q_boo, add_int, sub_int, lt_int, le_int, gt_int, ge_int, neg_int, List.map_cons, List.map_nil, List.length_cons, List.length_nil, List.nil_append, List.cons_append, List.replicate, List.getElem?_cons_zero, List.getElem?_cons_succ, env_set0, env_setS, Option.bind_some, Option.map_some, if_true, Bool.false_eq_true, if_false, Nat.reduceAdd, Nat.reduceSub, sizeLine_eq, Nat.reduceLeDiff, Nat.zero_le, k1])]
  refine (s_sto (a7 _ _ _ _ _ _ _)).trans ?_
  refine (q_sh (xs := q.map en) rfl).trans ?_
  refine (s_st (d := .tup [en (loP q), en (hiP q)]) (c_1 (ds := [.lst (q.map en)]) rfl rfl hbq rfl)).trans ?_
  refine s_rt ?_
  have k2 : addD (.tup [.str "triangle"]) (.tup (q.map en)) = some (.tup (.str "triangle" :: q.map en)) := if_pos ⟨by simp, by simp [qne], by rw [sizeLine_eq, List.length_map]; show 1 + q.length ≤ _; omega⟩
  have k3 : tupD (.lst (q.map en)) = some (.tup (q.map en)) := rfl
  have k4 : eqD (.tup [en (loP q), en (hiP q)]) (.tup [en (loP q), en (hiP q)]) = some (.bl true) := by rw [eqD_of (n := 2) rfl rfl (by decide), self3]
  have k5 : eqD (.tup [en (loP pts), en (hiP pts)]) (.tup [en (loP pts), en (hiP pts)]) = some (.bl true) := by rw [eqD_of (n := 2) rfl rfl (by decide), self]
  simp only [startE, bodyF, startE, seqS, stS, stO, rtS, roS, roV, asS, ifS, xpS, bin, un, unN, lstF, lsF, consF, nilF, tupF, kc, gv, gb, tst, andT, orT, notT, andV, orV, notV, ifV, callF, callN, iterF, rngF, walked, slF, noP, soP, setN, setT, setCons, setNil, wipeE, yes, forS, prS, Rz.bind_ok, q_ofO, q_ofN, q_bad, q_ex, q_exS, q_exX, q_exB, q_okB, q_nx, q_rt, q_ro, q_bk, q_ct, q_sx, q_anx, q_act, q_abk, q_art, q_bnx, q_brt, q_bro, q_bex, q_va, q_ow, q_boo, add_int, sub_int, lt_int, le_int, gt_int, ge_int, neg_int, List.map_cons, List.map_nil, List.length_cons, List.length_nil, List.nil_append, List.cons_append, List.replicate, List.getElem?_cons_zero, List.getElem?_cons_succ, env_set0, env_setS, Option.bind_some, Option.map_some, if_true, Bool.false_eq_true, if_false, Nat.reduceAdd, Nat.reduceSub, sizeLine_eq, Nat.reduceLeDiff, Nat.zero_le, k2, k3, tri, bx, k4, k5]
end DL
end
set_option maxHeartbeats 0
namespace Lw
open PySem PySem.Spec PyProof.Rows L2 DL
abbrev R : PySem.W.OpenRow := PySem.W.OpenLaw.row PySem.Challenge.rw_firsthit_k11_boxes_around
abbrev hk : PySem.W.Hook := He.hookD 4 fa fn
def ob (s : PySem.W.SharedT) : He.AlD := He.obsDG 4 fa fn (HandSHeadRun.getT s)
theorem ob_eq (s : PySem.W.SharedT) : ob s = hk.obs s.abs := He.obsDG_eq (HandSHeadRun.getT_eq s)
theorem run (w : World) : HandSHeadRun.RunEq R (PySem.W.view R.prog [8]) hk ob 6000 ["box_around", "bounds", "_law_cell", "_law_drawn", "_law_point"] w := by
  intro os
  kernel_rfl
theorem facts {P : Program} {w : World} {K : PySem.W.Frag} {h : Heap} {mg : Str → Option Value} {f : Addr} (X : K.In h) (G : h.Ns mainGlobals mg) (hfa : mg ("law" : Str) = some (.ref f)) (c : He.SaysD fa fn K) :
    ∃ fd : FuncData, (∀ (s : Shared) (v : Value), BindsTo s fd ⟨[v], []⟩ [("_law_script", v)]) ∧ ∀ base : Heap, K.In base → base.Ns mainGlobals mg → FnOk P w K mg base CX0 3 f fd ["_law_script"] (spLaw K) := by
  have T := tx_of X G c
  obtain ⟨fd, F⟩ := T.d_law
  have e := hfa.symm.trans T.g_law
  cases e
  have b := FunD.bindsA (ps := ["_law_script"]) F fun _ _ _ _ _ _ us hl => match us, hl with | [_], _ => rfl
  exact ⟨fd, fun s v => b s [v] rfl, fun base _ _ => law_ok (law_df T F) law_true⟩
end Lw
open PySem PySem.W PySem.Calls PyProof.Rows
theorem PySem.Challenge.cw_firsthit_k11_boxes_around_holds : PySem.Challenge.rw_firsthit_k11_boxes_around.Holds := by
  w_on; o_law
  refine HandSHeadRun.head_any (r := OpenLaw.row PySem.Challenge.rw_firsthit_k11_boxes_around) (q := view (OpenLaw.row PySem.Challenge.rw_firsthit_k11_boxes_around).prog [8]) (H := Lw.hk) (ob := Lw.ob) (M := 6000) (loose := ["box_around", "bounds", "_law_cell", "_law_drawn", "_law_point"]) (d := HandSHeadRun.topDef (OpenLaw.row PySem.Challenge.rw_firsthit_k11_boxes_around).prog 8) (kwd := []) Lw.ob_eq
    (by kernel_rfl) (fun s => by kernel_rfl) Lw.run (by kernel_rfl) (by kernel_rfl) (by kernel_rfl) (by rfl) (by first | assumption | decide +kernel) (by decide +kernel) ⟨rfl, rfl, rfl, rfl, rfl, by decide +kernel⟩ ?hw ?hc
  case hw => w_witness2
  case hc =>
    refine L2.walk_ofE (l := PySem.Challenge.rw_firsthit_k11_boxes_around) (n := 63) (k := 3) (x := "_law_script") (CX := L2.CX0) rfl (by decide) (by kernel_rfl) ⟨rfl, by decide, by decide⟩ ?F (fun _ _ _ _ z => z)
    intro w mg fa h Y G hmg0
    obtain ⟨K, KX, c⟩ := Y
    have hmg : mg ("law" : PySem.Str) = some (.ref fa) := by
      have e : (HandSHeadRun.topDef (OpenLaw.row PySem.Challenge.rw_firsthit_k11_boxes_around).prog 8).name = ("law" : PySem.Str) := by kernel_rfl
      rw [← e]
      exact hmg0
    obtain ⟨fd, hb, hF⟩ := Lw.facts (P := (PySem.Challenge.rw_firsthit_k11_boxes_around).prog) (w := w) KX G hmg c
    exact ⟨K, fd, DL.spLaw K, KX, hb, fun H a ns hl _ hS => ⟨a, ns, rfl, hS, hl, fun _ => rfl⟩, hF⟩
