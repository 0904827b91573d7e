import PyProof.Rows.All
import HandS.Lambda
import Wide.All
import OpenK.AllK
import Wide.FinOn
import HandS.ForMost
import HandS.ForExc
import HandS.Wide
import KE.KDictKeyed
import HandS.SortInts
import HandS.More
import HandS.Defaults
import HandS.Style
import HandS.IsInst
import HandS.ExcOwn
import HandS.HeadHook2
import HandS.HeadWalk
import HandS.HeadHook4
import HandS.NestedK
import HandS.Iter
import KE.KDictWalk
import HandS.Deep
import KE.DataFind
import HandS.HotCalls
import HandS.ExcIs
import KE.KStateDown
import HandS.Head0
import HandS.Head1
import HandS.Head2
import HandS.HeadEnd
import HandS.HeadHook1
import HandS.HeadHook3
import PySem.Challenge.RW_firsthit_k22_whole_place_in_boxes
section
set_option Elab.async false
set_option linter.all false
set_option autoImplicit false
namespace DL
/-- the tables of code objects that are kept an eye on, each with the name that its code objects bear -/
class TbC where
  T : List (PySem.Addr × PySem.Str)
  /-- the world (for the hashes of a dict's keys) -/
  w : PySem.World
end DL
end
section
set_option Elab.async false
set_option linter.all false
set_option maxRecDepth 100000
set_option autoImplicit false
/-! DL: a layer of plain data over the layer of readings: an expression is a function of the slots' data. -/
namespace DL
open PySem PySem.Spec PyProof.Rows L2
variable [TbC]

abbrev St := L2.St
/-! ### data -/
inductive Dt where
  | non | bl (b : Bool) | int (i : Int) | str (x : Str)
  | tup (xs : List Dt) | lst (xs : List Dt) | frl (xs : List Dt)
  | ins (c : Str) (ks : List Str) (xs : List Dt)
  /-- a function made of a lambda: its object, its code object, its name, what it captured -/
  | fn (f c : Addr) (q : Str) (vs : List V) (xs : List Dt)
/-- what a slot holds: nothing that is known, data, a list of one's own, an instance of one's own -/
inductive Lc where
  | u | d (x : Dt) | o (xs : List Dt) | i (c : Str) (ks : List Str) (xs : List Dt)
  /-- a dict of one's own, from tuples to whole numbers; mf: while it is walked -/
  | m (xs : List (Dt × Int)) | mf (xs : List (Dt × Int))
abbrev Ev := List Lc
/-- an outcome: not served, an exception, a value -/
inductive Rz (ε α : Type) where
  | bad | ex (e : ε) | ok (a : α)
def Rz.bind {ε α β : Type} (x : Rz ε α) (f : α → Rz ε β) : Rz ε β := match x with
  | .bad => .bad | .ex e => .ex e | .ok a => f a
def Rz.ofO {ε α : Type} : Option α → Rz ε α
  | none => .bad | some a => .ok a
abbrev Fn := Ev → Rz Str Dt
theorem Rz.bind_ok {ε α β : Type} (a : α) (f : α → Rz ε β) : (Rz.ok a).bind f = f a := rfl

/-! ### heaps -/
abbrev Mg := Str → Option Value
abbrev Pv := Addr → Prop
/-- all but the tables of code objects, and but what is in M, stays -/
structure Xt (M : Pv) (H H' : Hp) : Prop where
  keep : ∀ b o, H b = some o → (∀ ps, o ≠ .tbl ps) → ¬ M b → H' b = some o
  tabS : ∀ b q, (b, q) ∈ TbC.T → LamX.TabS H b q → LamX.TabS H' b q
instance {M : Pv} {H H' : Hp} : CoeFun (Xt M H H') fun _ => ∀ b o, H b = some o → (∀ ps, o ≠ .tbl ps) → ¬ M b → H' b = some o := ⟨Xt.keep⟩
abbrev no : Pv := fun _ => False
abbrev Ext (H H' : Hp) : Prop := Xt no H H'
section
variable {M : Pv} {H H1 H2 : Hp} {p : Addr} {o : HO}
theorem Xt.refl : Xt M H H := ⟨fun _ _ h _ _ => h, fun _ _ _ h => h⟩
theorem Xt.trans (a : Xt M H H1) (b : Xt M H1 H2) : Xt M H H2 := ⟨fun c u h n m => b.keep c u (a.keep c u h n m) n m, fun P q m h => b.tabS P q m (a.tabS P q m h)⟩
theorem Ext.refl : Ext H H := Xt.refl
/-- nothing but perhaps a table stands there -/
def Fresh (H : Hp) (p : Addr) : Prop := ∀ u, H p = some u → ∃ ps, u = .tbl ps
theorem Fresh.of (h : H p = none) : Fresh H p := fun u e => nomatch (show none = some u from h.symm.trans e)
theorem Fresh.ne (h : Fresh H p) {b : Addr} {u : HO} (q : H b = some u) (n : ∀ ps, u ≠ .tbl ps) : b ≠ p := fun e => by
  rw [e] at q
  obtain ⟨ps, z⟩ := h u q
  exact n ps z
/-- all stays, but what stands at p -/
theorem Xt.upd (hp : ∀ u, H p = some u → (∀ ps, u ≠ .tbl ps) ∧ (∀ c q, u ≠ LamX.CodeO c q) ∧ M p) : Xt M H (upd H p o) := by
  have ne : ∀ b u, H b = some u → ¬ ((∀ ps, u ≠ .tbl ps) ∧ (∀ c q, u ≠ LamX.CodeO c q) ∧ M p) → b ≠ p := fun b u e n z => by
    rw [z] at e
    exact n (hp u e)
  refine ⟨fun b u h n m => ?_, fun P q _ h => ?_⟩
  · rw [upd_ne (fun e => ?_)]
    · exact h
    · rw [e] at h m
      exact m (hp u h).2.2
  · obtain ⟨ps, h1, h2, h3⟩ := h
    refine ⟨ps, by rw [upd_ne (ne P _ h1 fun z => z.1 ps rfl)]; exact h1, h2, fun pos cv hc => ?_⟩
    obtain ⟨c, e1, e2⟩ := h3 pos cv hc
    exact ⟨c, e1, by rw [upd_ne (ne c _ e2 fun z => z.2.1 c q rfl)]; exact e2⟩
theorem Ext.new (hp : H p = none) : Ext H (L2.upd H p o) := Xt.upd fun u e => nomatch (show none = some u from Eq.trans (Eq.symm hp) e)
theorem Xt.tabs (a : Xt M H H1) (t : LamX.Tabs TbC.T H) : LamX.Tabs TbC.T H1 := fun p hp => a.tabS p.1 p.2 hp (t p hp)
/-- a dict, by its entries: keys, their tuples, whole numbers -/
def dcV (w : World) (a : Addr) (ys : List (NestedKey × Addr × Int)) : Heap → Prop := fun h => ∃ (o : Obj) (es : Array DictEntry) (ep : Nat) (vs : List (NestedKey × Addr × Value)), h.get? a = some o ∧ o.ExactDict ∧ o.data = .dict es ep ∧
  es.toList = vs.map (fun y => (⟨y.1.hash w, .ref y.2.1, y.2.2⟩ : DictEntry)) ∧ Paired (fun (y : NestedKey × Addr × Int) (v : NestedKey × Addr × Value) => y.1 = v.1 ∧ y.2.1 = v.2.1 ∧ RelV (.int y.2.2) v.2.2) ys vs ∧ (ys.map (·.1)).Nodup ∧ ys.length ≤ sizeLine ∧ (a == sysModules) = false
def dcO (w : World) (a : Addr) (ys : List (NestedKey × Addr × Int)) : HO := .ext (dcV w a ys)
theorem dcO_ne_code {w : World} {a c : Addr} {q : Str} {ys : List (NestedKey × Addr × Int)} : dcO w a ys ≠ LamX.CodeO c q := fun z => by
  have e : dcV w a ys = fun h => ∃ (oc : Obj) (vs : Array Value) (t : Tok), h.get? c = some oc ∧ oc.data = .fields vs ∧ vs[1]? = some (.str q t) := HO.ext.inj z
  let ob : Obj := { cls := .none, data := .fields #[.none, .str q default] }
  have all : ∀ b o, (⟨Array.replicate (c + 1) ob, {}⟩ : Heap).get? b = some o → o = ob := fun b o h => by
    unfold Heap.get? at h
    by_cases hb : b < c + 1
    · rw [Array.getElem?_replicate, if_pos hb] at h
      exact (Option.some.inj h).symm
    · rw [Array.getElem?_replicate, if_neg hb] at h
      cases h
  have hc : (⟨Array.replicate (c + 1) ob, {}⟩ : Heap).get? c = some ob := by
    unfold Heap.get?
    rw [Array.getElem?_replicate, if_pos (Nat.lt_succ_self c)]
  have k : dcV w a ys (⟨Array.replicate (c + 1) ob, {}⟩ : Heap) := by
    rw [e]
    exact ⟨ob, _, default, hc, rfl, rfl⟩
  obtain ⟨o, es, ep, vs, h1, _, h3, _⟩ := k
  rw [all a o h1] at h3
  cases h3
/-- what may be one's own: a list, an instance, a dict -/
def OwnK (H : Hp) (p : Addr) : Prop := (∃ xs, H p = some (.lst xs)) ∨ (∃ C dx fs, H p = some (.ins C dx fs)) ∨ ∃ w a ys, H p = some (dcO w a ys)
theorem OwnK.not {H : Hp} {p : Addr} (k : OwnK H p) {u : HO} (e : H p = some u) : (∀ ps, u ≠ .tbl ps) ∧ (∀ c q, u ≠ LamX.CodeO c q) ∧ (∀ o v, u ≠ .frz o v) ∧ ∀ xs, u ≠ .tup xs := by
  rcases k with ⟨xs, h⟩ | ⟨C, dx, fs, h⟩ | ⟨w, a, ys, h⟩ <;> (rw [h] at e; cases e)
  · exact ⟨fun _ z => (nomatch z), fun _ _ z => (nomatch z), fun _ _ z => (nomatch z), fun _ z => (nomatch z)⟩
  · exact ⟨fun _ z => (nomatch z), fun _ _ z => (nomatch z), fun _ _ z => (nomatch z), fun _ z => (nomatch z)⟩
  · exact ⟨fun _ z => (nomatch z), fun _ _ => dcO_ne_code, fun _ _ z => (nomatch z), fun _ z => (nomatch z)⟩
/-- what is one's own, or new since, is changed -/
theorem Xt.put (a : Xt M H H1) (hp : Fresh H p ∨ M p) (k : OwnK H1 p) : Xt M H (L2.upd H1 p o) := by
  have b : Xt (fun b => b = p) H1 (L2.upd H1 p o) := Xt.upd fun u e => ⟨(k.not e).1, (k.not e).2.1, rfl⟩
  refine ⟨fun c u h n m => b.keep c u (a.keep c u h n m) n fun e => ?_, fun P q m h => b.tabS P q m (a.tabS P q m h)⟩
  rcases hp with z | z
  · exact z.ne h n e
  · exact m (by rw [e]; exact z)
theorem Xt.putL (a : Xt M H H1) (hp : Fresh H p ∨ M p) {xs ys : List V} (h1 : H1 p = some (.lst xs)) : Xt M H (L2.upd H1 p (.lst ys)) := a.put hp (.inl ⟨_, h1⟩)
/-- a frame within a frame -/
theorem Xt.join {M' : Pv} (a : Xt M H H1) (b : Xt M' H1 H2) (h : ∀ c u, H c = some u → (∀ ps, u ≠ .tbl ps) → ¬ M c → ¬ M' c) : Xt M H H2 :=
  ⟨fun c u e n m => b.keep c u (a.keep c u e n m) n (h c u e n m), fun P q m h => b.tabS P q m (a.tabS P q m h)⟩
theorem Ext.to (a : Ext H H1) : Xt M H H1 := ⟨fun c u h n _ => a.keep c u h n fun z => z, a.tabS⟩
theorem Xt.fresh (a : Xt M H H1) (hp : Fresh H1 p) (hm : ¬ M p) : Fresh H p := fun u q => by
  by_cases n : ∃ ps, u = .tbl ps
  · exact n
  · exact absurd (hp u (a.keep p u q (fun ps z => n ⟨ps, z⟩) hm)) n
theorem Ext.fresh (a : Ext H H1) (hp : Fresh H1 p) : Fresh H p := Xt.fresh a hp fun z => z
theorem Ext.at_ (a : Ext H H1) {b : Addr} {u : HO} (h : H b = some u) (n : ∀ ps, u ≠ .tbl ps) : H1 b = some u := a.keep b u h n fun z => z
end
theorem nt_lst {xs : List V} : ∀ ps, HO.lst xs ≠ .tbl ps := fun _ z => nomatch z
theorem nt_tup {xs : List V} : ∀ ps, HO.tup xs ≠ .tbl ps := fun _ z => nomatch z
theorem nt_frz {a : Obj} {u : HO} : ∀ ps, HO.frz a u ≠ .tbl ps := fun _ z => nomatch z
theorem nt_ins {C dx : Addr} {fs : List (Str × V)} : ∀ ps, HO.ins C dx fs ≠ .tbl ps := fun _ z => nomatch z
theorem Ext.rdT {H H1 : Hp} (a : Ext H H1) {b : Addr} {xs : List V} (h : Rd H b (.tup xs)) : Rd H1 b (.tup xs) := by
  rcases h with h | ⟨o, h⟩
  · exact .inl (a.at_ h nt_tup)
  · exact .inr ⟨o, a.at_ h nt_frz⟩
theorem Ext.rdL {H H1 : Hp} (a : Ext H H1) {b : Addr} {xs : List V} (h : Rd H b (.lst xs)) : Rd H1 b (.lst xs) := by
  rcases h with h | ⟨o, h⟩
  · exact .inl (a.at_ h nt_lst)
  · exact .inr ⟨o, a.at_ h nt_frz⟩
theorem Ext.sqT {K : PySem.W.Frag} {H H1 : Hp} (a : Ext H H1) {b : Addr} {xs : List V} (h : SqT K H b xs) : SqT K H1 b xs := by
  rcases h with h | h
  · exact .inl (a.rdT h)
  · exact .inr h
theorem Ext.sqL {K : PySem.W.Frag} {H H1 : Hp} (a : Ext H H1) {b : Addr} {xs : List V} (h : SqL K H b xs) : SqL K H1 b xs := by
  rcases h with h | h
  · exact .inl (a.rdL h)
  · exact .inr h

/-! ### how data is borne -/
/-- a list that is not written here: another's, frozen, or of the written part -/
def SqF (K : PySem.W.Frag) (H : Hp) (P : Pv) (a : Addr) (xs : List V) : Prop := (H a = some (.lst xs) ∧ ¬ P a) ∨ (∃ o, H a = some (.frz o (.lst xs))) ∨
  ∃ (o : Obj) (its : Array Value) (n : Nat), K.lookup a = some o ∧ o.cls = .type "list" ∧ o.dict = none ∧ o.data = .seq its n ∧ its.size ≤ sizeLine ∧ Vals xs its.toList
theorem SqF.sq {K : PySem.W.Frag} {H : Hp} {P : Pv} {a : Addr} {xs : List V} (h : SqF K H P a xs) : SqL K H a xs := by
  rcases h with h | h | h
  · exact .inl (.inl h.1)
  · exact .inl (.inr h)
  · exact .inr h
theorem SqF.of {K : PySem.W.Frag} {H : Hp} {a : Addr} {xs : List V} (h : SqL K H a xs) : SqF K H no a xs := by
  rcases h with (h | h) | h
  · exact .inl ⟨h, fun z => z⟩
  · exact .inr (.inl h)
  · exact .inr (.inr h)
mutual
def Rep (K : PySem.W.Frag) (mg : Mg) (H : Hp) (P : Pv) : Dt → V → Prop
  | .non, v => v = .non
  | .bl b, v => v = .bl b
  | .int i, v => v = .int i
  | .str x, v => v = .str x
  | .tup ds, v => ∃ a vs, v = .ref a ∧ SqT K H a vs ∧ Reps K mg H P ds vs
  | .lst ds, v => ∃ a vs, v = .ref a ∧ H a = some (.lst vs) ∧ ¬ P a ∧ Reps K mg H P ds vs
  | .frl ds, v => ∃ a vs, v = .ref a ∧ SqF K H P a vs ∧ Reps K mg H P ds vs
  | .ins c ks ds, v => ∃ a C dx vs, v = .ref a ∧ mg c = some (.ref C) ∧ H a = some (.ins C dx (ks.zip vs)) ∧ ¬ P a ∧ ks.length = vs.length ∧ Reps K mg H P ds vs
  | .fn f c q ws ds, v => v = .ref f ∧ H c = some (LamX.CodeO c q) ∧ Reps K mg H P ds ws
def Reps (K : PySem.W.Frag) (mg : Mg) (H : Hp) (P : Pv) : List Dt → List V → Prop
  | [], vs => vs = []
  | d :: ds, vs => ∃ v r, vs = v :: r ∧ Rep K mg H P d v ∧ Reps K mg H P ds r
end
/-- the same, but the thing itself may be a private one -/
def RepB (K : PySem.W.Frag) (mg : Mg) (H : Hp) (P : Pv) (d : Dt) (v : V) : Prop := match d with
  | .lst ds => ∃ a vs, v = .ref a ∧ H a = some (.lst vs) ∧ Reps K mg H P ds vs
  | .ins c ks ds => ∃ a C dx vs, v = .ref a ∧ mg c = some (.ref C) ∧ H a = some (.ins C dx (ks.zip vs)) ∧ ks.length = vs.length ∧ Reps K mg H P ds vs
  | d => Rep K mg H P d v
section
variable {K : PySem.W.Frag} {mg : Mg} {H H' : Hp} {P P' : Pv}
/-- from one heap to another: what is not private stays -/
structure Tr (P P' : Pv) (H H' : Hp) : Prop where
  keep : ∀ b o, H b = some o → (∀ ps, o ≠ .tbl ps) → ¬ P b → H' b = some o
  frz : ∀ b o u, H b = some (.frz o u) → (∀ w a ys, u ≠ dcO w a ys) → H' b = some (.frz o u)
  tup : ∀ b xs, H b = some (.tup xs) → H' b = some (.tup xs)
  pv : ∀ b o, H b = some o → (∀ ps, o ≠ .tbl ps) → ¬ P b → ¬ P' b
  cd : ∀ b c q, H b = some (LamX.CodeO c q) → H' b = some (LamX.CodeO c q)
theorem Tr.sqT (t : Tr P P' H H') {a : Addr} {xs : List V} (h : SqT K H a xs) : SqT K H' a xs := by
  rcases h with (h | ⟨o, h⟩) | h
  · exact .inl (.inl (t.tup _ _ h))
  · exact .inl (.inr ⟨o, t.frz _ _ _ h fun _ _ _ z => nomatch z⟩)
  · exact .inr h
theorem Tr.sqF (t : Tr P P' H H') {a : Addr} {xs : List V} (h : SqF K H P a xs) : SqF K H' P' a xs := by
  rcases h with ⟨h, n⟩ | ⟨o, h⟩ | h
  · exact .inl ⟨t.keep _ _ h nt_lst n, t.pv _ _ h nt_lst n⟩
  · exact .inr (.inl ⟨o, t.frz _ _ _ h fun _ _ _ z => nomatch z⟩)
  · exact .inr (.inr h)
mutual
theorem Rep.tr (t : Tr P P' H H') : ∀ (d : Dt) (v : V), Rep K mg H P d v → Rep K mg H' P' d v
  | .non, _, h => h
  | .bl _, _, h => h
  | .int _, _, h => h
  | .str _, _, h => h
  | .tup ds, _, ⟨a, vs, e, h1, h2⟩ => ⟨a, vs, e, t.sqT h1, Reps.tr t ds vs h2⟩
  | .lst ds, _, ⟨a, vs, e, h1, n, h2⟩ => ⟨a, vs, e, t.keep _ _ h1 nt_lst n, t.pv _ _ h1 nt_lst n, Reps.tr t ds vs h2⟩
  | .frl ds, _, ⟨a, vs, e, h1, h2⟩ => ⟨a, vs, e, t.sqF h1, Reps.tr t ds vs h2⟩
  | .ins c ks ds, _, ⟨a, C, dx, vs, e, h1, h2, n, l, h3⟩ => ⟨a, C, dx, vs, e, h1, t.keep _ _ h2 nt_ins n, t.pv _ _ h2 nt_ins n, l, Reps.tr t ds vs h3⟩
  | .fn f c q ws ds, _, ⟨e, h1, h2⟩ => ⟨e, t.cd _ _ _ h1, Reps.tr t ds ws h2⟩
theorem Reps.tr (t : Tr P P' H H') : ∀ (ds : List Dt) (vs : List V), Reps K mg H P ds vs → Reps K mg H' P' ds vs
  | [], _, h => h
  | d :: ds, _, ⟨v, r, e, h1, h2⟩ => ⟨v, r, e, Rep.tr t d v h1, Reps.tr t ds r h2⟩
end
theorem Tr.of (e : Ext H H') : Tr P P H H' := ⟨fun b o h n _ => e b o h n fun z => z, fun _ _ _ h _ => e.at_ h nt_frz, fun _ _ h => e.at_ h nt_tup, fun _ _ _ _ n => n, fun _ _ _ h => e.at_ h LamX.codeO_ne⟩
/-- fewer private things -/
theorem Tr.less (h : ∀ a, P' a → P a) : Tr P P' H H := ⟨fun _ _ h _ _ => h, fun _ _ _ h _ => h, fun _ _ h => h, fun _ _ _ _ n z => n (h _ z), fun _ _ _ h => h⟩
/-- one more, new -/
def more (P : Pv) (p : Addr) : Pv := fun a => P a ∨ a = p
theorem Tr.more {p : Addr} (h : Fresh H p) : Tr P (more P p) H H := ⟨fun _ _ h _ _ => h, fun _ _ _ h _ => h, fun _ _ h => h, fun b o q t n z => z.elim n fun e => h.ne q t e, fun _ _ _ h => h⟩
/-- a private thing is written -/
theorem Tr.write {p : Addr} {o : HO} (hp : P p) (hn : OwnK H p) : Tr P P H (upd H p o) := by
  have key : ∀ b u, H b = some u → (b = p → False) → upd H p o b = some u := fun b u h n => by
    rw [upd_ne n]; exact h
  have at_ : ∀ {b u}, H b = some u → b = p → H p = some u := fun h e => by rw [← e]; exact h
  exact ⟨fun b u h _ n => key b u h fun e => n (by rw [e]; exact hp), fun b u w h _ => key b _ h fun e => (hn.not (at_ h e)).2.2.1 _ _ rfl, fun b xs h => key b _ h fun e => (hn.not (at_ h e)).2.2.2 _ rfl, fun _ _ _ _ n => n,
    fun b c q h => key b _ h fun e => (hn.not (at_ h e)).2.1 _ _ rfl⟩
theorem Rep.ext (e : Ext H H') {d : Dt} {v : V} (h : Rep K mg H P d v) : Rep K mg H' P d v := Rep.tr (Tr.of e) d v h
theorem Reps.ext (e : Ext H H') {ds : List Dt} {vs : List V} (h : Reps K mg H P ds vs) : Reps K mg H' P ds vs := Reps.tr (Tr.of e) ds vs h
theorem Rep.toB {d : Dt} {v : V} (h : Rep K mg H P d v) : RepB K mg H P d v := by
  cases d with
  | lst ds => obtain ⟨a, vs, e, h1, n, h2⟩ := h; exact ⟨a, vs, e, h1, h2⟩
  | ins c ks ds => obtain ⟨a, C, dx, vs, e, h1, h2, n, l, h3⟩ := h; exact ⟨a, C, dx, vs, e, h1, h2, l, h3⟩
  | _ => exact h
theorem RepB.ext (e : Ext H H') {d : Dt} {v : V} (h : RepB K mg H P d v) : RepB K mg H' P d v := by
  cases d with
  | lst ds => obtain ⟨a, vs, q, h1, h2⟩ := h; exact ⟨a, vs, q, e.at_ h1 nt_lst, h2.ext e⟩
  | ins c ks ds => obtain ⟨a, C, dx, vs, q, h1, h2, l, h3⟩ := h; exact ⟨a, C, dx, vs, q, h1, e.at_ h2 nt_ins, l, h3.ext e⟩
  | _ => exact Rep.ext e h
theorem Reps.length : ∀ {ds : List Dt} {vs : List V}, Reps K mg H P ds vs → ds.length = vs.length
  | [], _, h => by rw [show _ = [] from h]; rfl
  | d :: ds, _, ⟨v, r, e, _, h2⟩ => by rw [e, List.length_cons, List.length_cons, Reps.length h2]
theorem Reps.get : ∀ {ds : List Dt} {vs : List V} {i : Nat} {d : Dt}, Reps K mg H P ds vs → ds[i]? = some d → ∃ v, vs[i]? = some v ∧ Rep K mg H P d v
  | [], _, _, _, _, e => by simp at e
  | d :: ds, _, 0, x, ⟨v, r, e, h1, _⟩, q => by simp at q; subst q; subst e; exact ⟨v, rfl, h1⟩
  | d :: ds, _, i + 1, x, ⟨v, r, e, _, h2⟩, q => by subst e; obtain ⟨w, h3, h4⟩ := Reps.get (i := i) h2 (by simpa using q); exact ⟨w, by simpa using h3, h4⟩
theorem Reps.gone : ∀ {ds : List Dt} {vs : List V} {i : Nat}, Reps K mg H P ds vs → ds[i]? = none → vs[i]? = none := fun h e => by
  rw [List.getElem?_eq_none_iff] at e ⊢
  rw [← h.length]; exact e
theorem Reps.append : ∀ {ds es : List Dt} {vs ws : List V}, Reps K mg H P ds vs → Reps K mg H P es ws → Reps K mg H P (ds ++ es) (vs ++ ws)
  | [], _, _, _, h, q => by rw [show _ = [] from h]; exact q
  | d :: ds, _, _, _, ⟨v, r, e, h1, h2⟩, q => by subst e; exact ⟨v, _, rfl, h1, Reps.append h2 q⟩
theorem Reps.one {d : Dt} {v : V} (h : Rep K mg H P d v) : Reps K mg H P [d] [v] := ⟨v, [], rfl, h, rfl⟩
theorem Reps.take : ∀ (n : Nat) {ds : List Dt} {vs : List V}, Reps K mg H P ds vs → Reps K mg H P (ds.take n) (vs.take n)
  | 0, _, _, _ => by rw [List.take_zero, List.take_zero]; rfl
  | n + 1, [], _, h => by rw [show _ = [] from h]; rfl
  | n + 1, d :: ds, _, ⟨v, r, e, h1, h2⟩ => by subst e; exact ⟨v, _, rfl, h1, Reps.take n h2⟩
theorem Reps.drop : ∀ (n : Nat) {ds : List Dt} {vs : List V}, Reps K mg H P ds vs → Reps K mg H P (ds.drop n) (vs.drop n)
  | 0, _, _, h => h
  | n + 1, [], _, h => by rw [show _ = [] from h]; rfl
  | n + 1, d :: ds, _, ⟨v, r, e, h1, h2⟩ => by subst e; exact Reps.drop n h2
theorem Reps.set : ∀ {ds : List Dt} {vs : List V} {d : Dt} {v : V} (i : Nat), Reps K mg H P ds vs → Rep K mg H P d v → Reps K mg H P (ds.set i d) (vs.set i v)
  | [], _, _, _, _, h, _ => by rw [show _ = [] from h]; rfl
  | _ :: _, _, _, _, 0, ⟨v, r, e, _, h2⟩, q => by subst e; exact ⟨_, _, rfl, q, h2⟩
  | _ :: _, _, _, _, i + 1, ⟨v, r, e, h1, h2⟩, q => by subst e; exact ⟨_, _, rfl, h1, Reps.set i h2 q⟩
theorem Reps.mk : ∀ {ds : List Dt} {vs : List V}, ds.length = vs.length → (∀ (i : Nat) (d : Dt) (v : V), ds[i]? = some d → vs[i]? = some v → Rep K mg H P d v) → Reps K mg H P ds vs
  | [], [], _, _ => rfl
  | d :: ds, v :: vs, l, h => ⟨v, vs, rfl, h 0 d v rfl rfl, Reps.mk (by simpa using l) fun i d v a b => h (i + 1) d v (by simpa using a) (by simpa using b)⟩
  | [], _ :: _, l, _ => by simp at l
  | _ :: _, [], l, _ => by simp at l
theorem Reps.mem {ds : List Dt} {vs : List V} (h : Reps K mg H P ds vs) {v : V} (hv : v ∈ vs) : ∃ d ∈ ds, Rep K mg H P d v := by
  obtain ⟨i, hi⟩ := List.mem_iff_getElem?.mp hv
  cases e : ds[i]? with
  | none => rw [Reps.gone h e] at hi; cases hi
  | some d => obtain ⟨w, h1, h2⟩ := Reps.get h e; rw [h1] at hi; cases hi; exact ⟨d, List.mem_of_getElem? e, h2⟩
theorem Reps.ints : ∀ {ns : List Int} {vs : List V}, Reps K mg H P (ns.map Dt.int) vs → vs = ns.map V.int
  | [], _, h => h
  | n :: ns, _, ⟨v, r, e, h1, h2⟩ => by subst e; rw [show v = _ from h1, Reps.ints h2]; rfl
theorem Reps.ofInts : ∀ (ns : List Int), Reps K mg H P (ns.map Dt.int) (ns.map V.int)
  | [] => rfl
  | n :: ns => ⟨_, _, rfl, rfl, Reps.ofInts ns⟩
theorem Reps.bls : ∀ {ns : List Bool} {vs : List V}, Reps K mg H P (ns.map Dt.bl) vs → vs = ns.map V.bl
  | [], _, h => h
  | n :: ns, _, ⟨v, r, e, h1, h2⟩ => by subst e; rw [show v = _ from h1, Reps.bls h2]; rfl
end

/-! ### keys -/
mutual
def nk : Dt → Option NestedKey
  | .non => some .none
  | .int i => some (.num i)
  | .str x => some (.text x)
  | .tup ds => (nks ds).map .tup
  | _ => none
def nks : List Dt → Option (List NestedKey)
  | [] => some []
  | d :: ds => (nk d).bind fun k => (nks ds).map fun ks => k :: ks
end
def DcOk (K : PySem.W.Frag) (mg : Mg) (H : Hp) (P : Pv) (xs : List (Dt × Int)) (ys : List (NestedKey × Addr × Int)) : Prop :=
  Reps K mg H P (xs.map (·.1)) (ys.map fun y => .ref y.2.1) ∧ (xs.map fun x => (nk x.1, x.2)) = ys.map fun y => (some y.1, y.2.2)
theorem DcOk.tr {K : PySem.W.Frag} {mg : Mg} {H H' : Hp} {P P' : Pv} (t : Tr P P' H H') {xs : List (Dt × Int)} {ys : List (NestedKey × Addr × Int)} (h : DcOk K mg H P xs ys) : DcOk K mg H' P' xs ys := ⟨Reps.tr t _ _ h.1, h.2⟩
/-! ### slots -/
def SlotOk (K : PySem.W.Frag) (mg : Mg) (H : Hp) (P : Pv) (l : Lc) (x : Option V) : Prop := match l with
  | .u => True
  | .d d => ∃ v, x = some v ∧ Rep K mg H P d v
  | .o ds => ∃ a vs, x = some (.ref a) ∧ P a ∧ H a = some (.lst vs) ∧ Reps K mg H P ds vs
  | .i c ks ds => ∃ a C dx vs, x = some (.ref a) ∧ P a ∧ mg c = some (.ref C) ∧ H a = some (.ins C dx (ks.zip vs)) ∧ ks.length = vs.length ∧ Reps K mg H P ds vs
  | .m xs => ∃ a ys, x = some (.ref a) ∧ P a ∧ H a = some (dcO TbC.w a ys) ∧ DcOk K mg H P xs ys
  | .mf xs => ∃ a o ys, x = some (.ref a) ∧ H a = some (.frz o (dcO TbC.w a ys)) ∧ DcOk K mg H P xs ys
theorem nt_dc {w : World} {a : Addr} {ys : List (NestedKey × Addr × Int)} : ∀ ps, dcO w a ys ≠ .tbl ps := fun _ z => nomatch z
/-- the slots' data, P: what is private here and around -/
structure EOk (K : PySem.W.Frag) (mg : Mg) (P : Pv) (σ : St) (H : Hp) (ε : Ev) : Prop where
  ln : ε.length = σ.length
  tk : ∀ a, P a → ∃ o, H a = some o ∧ ∀ ps, o ≠ .tbl ps
  sl : ∀ (i : Nat) (l : Lc), ε[i]? = some l → SlotOk K mg H P l (σ[i]?.join)
  tb : LamX.Tabs (TbC.T) H
section
variable {K : PySem.W.Frag} {mg : Mg} {P P' : Pv} {σ : St} {H H' : Hp} {ε : Ev}
theorem SlotOk.ext (e : Ext H H') {l : Lc} {x : Option V} (h : SlotOk K mg H P l x) : SlotOk K mg H' P l x := by
  cases l with
  | u => trivial
  | d d => obtain ⟨v, q, r⟩ := h; exact ⟨v, q, r.ext e⟩
  | o ds => obtain ⟨a, vs, q, p, h1, r⟩ := h; exact ⟨a, vs, q, p, e.at_ h1 nt_lst, r.ext e⟩
  | i c ks ds => obtain ⟨a, C, dx, vs, q, p, h1, h2, l, r⟩ := h; exact ⟨a, C, dx, vs, q, p, h1, e.at_ h2 nt_ins, l, r.ext e⟩
  | m xs => obtain ⟨a, ys, q, p, h1, r⟩ := h; exact ⟨a, ys, q, p, e.at_ h1 nt_dc, r.tr (Tr.of e)⟩
  | mf xs => obtain ⟨a, o, ys, q, h1, r⟩ := h; exact ⟨a, o, ys, q, e.at_ h1 nt_frz, r.tr (Tr.of e)⟩
theorem SlotOk.more {p : Addr} (hp : Fresh H p) {l : Lc} {x : Option V} (h : SlotOk K mg H P l x) : SlotOk K mg H (more P p) l x := by
  cases l with
  | u => trivial
  | d d => obtain ⟨v, q, r⟩ := h; exact ⟨v, q, Rep.tr (Tr.more hp) _ _ r⟩
  | o ds => obtain ⟨a, vs, q, h0, h1, r⟩ := h; exact ⟨a, vs, q, .inl h0, h1, Reps.tr (Tr.more hp) _ _ r⟩
  | i c ks ds => obtain ⟨a, C, dx, vs, q, h0, h1, h2, l, r⟩ := h; exact ⟨a, C, dx, vs, q, .inl h0, h1, h2, l, Reps.tr (Tr.more hp) _ _ r⟩
  | m xs => obtain ⟨a, ys, q, p, h1, r⟩ := h; exact ⟨a, ys, q, .inl p, h1, r.tr (Tr.more hp)⟩
  | mf xs => obtain ⟨a, o, ys, q, h1, r⟩ := h; exact ⟨a, o, ys, q, h1, r.tr (Tr.more hp)⟩
theorem EOk.ext (E : EOk K mg P σ H ε) (e : Ext H H') : EOk K mg P σ H' ε :=
  ⟨E.ln, fun a h => let ⟨o, q, n⟩ := E.tk a h; ⟨o, e.at_ q n, n⟩, fun i l h => (E.sl i l h).ext e, e.tabs E.tb⟩
theorem EOk.ne (E : EOk K mg P σ H ε) {p : Addr} (hp : Fresh H p) : ¬ P p := fun z => by
  obtain ⟨o, q, n⟩ := E.tk p z
  exact hp.ne q n rfl
/-- a new private thing -/
theorem EOk.new (E : EOk K mg P σ H ε) {p : Addr} {o : HO} (hp : H p = none) (ho : ∀ ps, o ≠ .tbl ps) : EOk K mg (more P p) σ (upd H p o) ε :=
  ⟨E.ln, fun a h => h.elim (fun h => let ⟨u, q, n⟩ := E.tk a h; ⟨u, (Ext.new hp).at_ q n, n⟩) fun h => ⟨o, by rw [h, upd_same], ho⟩, fun i l h => ((E.sl i l h).more (.of hp)).ext (Ext.new hp), (Ext.new hp).tabs E.tb⟩
end

/-! ### readings: a function of the slots' data -/
/-- what is wanted of an outcome -/
def Out (X : Cx) (W : WX) (σ : St) (H : Hp) {α : Type} (r : Rz Str α) (k : α → Prop) : Prop := match r with
  | .bad => False
  | .ex c => ∃ C, X.mg c = some (.ref C) ∧ ∀ H', Ext H H' → W (.ref C) none σ H'
  | .ok a => k a
section
variable {X : Cx} {W : WX} {σ : St} {H H1 : Hp} {α β : Type}
theorem Out.mono {r : Rz Str α} {k k' : α → Prop} (h : Out X W σ H r k) (i : ∀ a, k a → k' a) : Out X W σ H r k' := by
  cases r with
  | bad => exact h
  | ex c => exact h
  | ok a => exact i a h
theorem Out.ext {r : Rz Str α} {k : α → Prop} (h : Out X W σ H r k) (e : Ext H H1) : Out X W σ H1 r k := by
  cases r with
  | bad => exact h
  | ex c => obtain ⟨C, h1, h2⟩ := h; exact ⟨C, h1, fun H' x => h2 H' (e.trans x)⟩
  | ok a => exact h
theorem Out.bind {r : Rz Str α} {f : α → Rz Str β} {k : β → Prop} (h : Out X W σ H (r.bind f) k) : Out X W σ H r fun a => Out X W σ H (f a) k := by
  cases r with
  | bad => exact h
  | ex c => exact h
  | ok a => exact h
theorem Out.ofO {o : Option α} {k : α → Prop} (h : Out X W σ H (.ofO o) k) : ∃ a, o = some a ∧ k a := by
  cases o with
  | none => exact h.elim
  | some a => exact ⟨a, rfl, h⟩
end
section
variable (X : Cx) (W : WX)
def tD (f : Fn) : TE := fun σ H Q => ∃ P ε, EOk X.K X.mg P σ H ε ∧ Out X W σ H (f ε) fun d => ∀ v H', Ext H H' → Rep X.K X.mg H' P d v → Q v H'
def tB (f : Fn) : TE := fun σ H Q => ∃ P ε, EOk X.K X.mg P σ H ε ∧ Out X W σ H (f ε) fun d => ∀ v H', Ext H H' → RepB X.K X.mg H' P d v → Q v H'
/-- a new list -/
def tN (f : Ev → Rz Str (List Dt)) : TE := fun σ H Q => ∃ P ε, EOk X.K X.mg P σ H ε ∧ Out X W σ H (f ε) fun ds => ∀ p vs H', Ext H H' → Fresh H p → H' p = some (.lst vs) → Reps X.K X.mg H' (more P p) ds vs → Q (.ref p) H'
/-- arguments -/
def tA (f : Ev → Rz Str (List Dt)) : TA := fun σ H Q => ∃ P ε, EOk X.K X.mg P σ H ε ∧ Out X W σ H (f ε) fun ds => ∀ vs H', Ext H H' → Reps X.K X.mg H' P ds vs → Q vs H'
/-- a test -/
def tT (f : Ev → Rz Str Bool) : TT := fun σ H Q => ∃ P ε, EOk X.K X.mg P σ H ε ∧ Out X W σ H (f ε) fun b => ∀ H', Ext H H' → Q b H'
def PD (e : Expr) (f : Fn) : Prop := PE X e (tD X W f)
def PB (e : Expr) (f : Fn) : Prop := PE X e (tB X W f)
def PN (e : Expr) (f : Ev → Rz Str (List Dt)) : Prop := PE X e (tN X W f)
def AD (es : List Expr) (f : Ev → Rz Str (List Dt)) : Prop := PA X es (tA X W f)
def TD (e : Expr) (f : Ev → Rz Str Bool) : Prop := PT X e (tT X W f)
end
theorem pe_weak {X : Cx} {e : Expr} {t t' : TE} (h : PE X e t) (k : ∀ σ H Q, t' σ H Q → t σ H Q) : PE X e t' := ⟨fun pins s σ H Q I q => h.run pins s σ H Q I (k σ H Q q)⟩
theorem pt_weak {X : Cx} {e : Expr} {t t' : TT} (h : PT X e t) (k : ∀ σ H Q, t' σ H Q → t σ H Q) : PT X e t' := ⟨fun pins s σ H Q I q => h.run pins s σ H Q I (k σ H Q q)⟩
theorem pw_weak {X : Cx} {e : Expr} {t t' : TT} (h : PW X e t) (k : ∀ σ H Q, t' σ H Q → t σ H Q) : PW X e t' := ⟨fun wh pins s σ H Q I q => h.run wh pins s σ H Q I (k σ H Q q)⟩
theorem pa_weak {X : Cx} {es : List Expr} {t t' : TA} (h : PA X es t) (k : ∀ σ H Q, t' σ H Q → t σ H Q) : PA X es t' := ⟨fun pos pins s σ H Q I q => h.run pos pins s σ H Q I (k σ H Q q)⟩
theorem ps_weak {X : Cx} {e : Stmt} {t t' : TS} (h : PS X e t) (k : ∀ D σ H, t' D σ H → t D σ H) : PS X e t' := ⟨fun pins s σ H D I q => h.run pins s σ H D I (k D σ H q)⟩
theorem pss_weak {X : Cx} {e : List Stmt} {t t' : TS} (h : PSs X e t) (k : ∀ D σ H, t' D σ H → t D σ H) : PSs X e t' := ⟨fun pins s σ H D I q => h.run pins s σ H D I (k D σ H q)⟩
section
variable {X : Cx} {W : WX} {e a b : Expr} {f g : Fn} {pos : Pos}
theorem pb_of (h : PD X W e f) : PB X W e f := pe_weak h fun σ H Q ⟨P, ε, E, q⟩ => ⟨P, ε, E, q.mono fun d q v H' x r => q v H' x r.toB⟩
/-- a new list as data -/
def lstF (f : Ev → Rz Str (List Dt)) : Fn := fun ε => (f ε).bind fun ds => .ok (.lst ds)
theorem pd_new {f : Ev → Rz Str (List Dt)} (h : PN X W e f) : PD X W e (lstF f) := pe_weak h fun σ H Q ⟨P, ε, E, q⟩ =>
  ⟨P, ε, E, q.bind.mono fun ds q p vs H' x hp hl r => q (.ref p) H' x ⟨p, vs, rfl, hl, E.ne hp, Reps.tr (Tr.less fun a z => .inl z) _ _ r⟩⟩
/-- a name -/
def gv (i : Nat) : Fn := fun ε => match ε[i]? with
  | some (.d x) => .ok x
  | _ => .bad
def gb (i : Nat) : Fn := fun ε => match ε[i]? with
  | some (.d x) => .ok x
  | some (.o xs) => .ok (.lst xs)
  | some (.i c ks xs) => .ok (.ins c ks xs)
  | _ => .bad
theorem slot_some {σ : St} {i : Nat} {v : V} (h : σ[i]?.join = some v) : σ[i]? = some (some v) := by
  cases e : σ[i]? with
  | none => rw [e] at h; cases h
  | some o => rw [e] at h; exact congrArg some h
theorem pdv (i : Nat) {x : Str} {pos : Pos} (hN : X.N[i]? = some x := by rfl) (hv : Vis X.env.scope x := by first | exact Or.inl rfl | exact Or.inr (Or.inl rfl) | exact Or.inr (Or.inr rfl)) (hd : (x == ("__debug__" : Str)) = false := by decide)
    (hcd : (x == ("__classdict__" : Str)) = false := by decide) : PD X W (.Name x pos) (gv i) := pe_weak (pe_var (i := i) hN hv hd hcd) fun σ H Q ⟨P, ε, E, q⟩ => by
  cases hy : ε[i]? with
  | none => simp [gv, hy, Out] at q
  | some l =>
    have s := E.sl i l hy
    cases l with
    | d d =>
      simp only [gv, hy, Out] at q
      obtain ⟨v, h1, h2⟩ := s
      exact ⟨v, slot_some h1, q v H Ext.refl h2⟩
    | _ => simp [gv, hy, Out] at q
theorem pbv (i : Nat) {x : Str} {pos : Pos} (hN : X.N[i]? = some x := by rfl) (hv : Vis X.env.scope x := by first | exact Or.inl rfl | exact Or.inr (Or.inl rfl) | exact Or.inr (Or.inr rfl)) (hd : (x == ("__debug__" : Str)) = false := by decide)
    (hcd : (x == ("__classdict__" : Str)) = false := by decide) : PB X W (.Name x pos) (gb i) := pe_weak (pe_var (i := i) hN hv hd hcd) fun σ H Q ⟨P, ε, E, q⟩ => by
  cases hy : ε[i]? with
  | none => simp [gb, hy, Out] at q
  | some l =>
    have s := E.sl i l hy
    cases l with
    | u => simp [gb, hy, Out] at q
    | d d =>
      simp only [gb, hy, Out] at q
      obtain ⟨v, h1, h2⟩ := s
      exact ⟨v, slot_some h1, q v H Ext.refl h2.toB⟩
    | o ds =>
      simp only [gb, hy, Out] at q
      obtain ⟨p, vs, h1, h2, h3, h4⟩ := s
      exact ⟨.ref p, slot_some h1, q _ H Ext.refl ⟨p, vs, rfl, h3, h4⟩⟩
    | i c ks ds =>
      simp only [gb, hy, Out] at q
      obtain ⟨p, C, dx, vs, h1, h2, h3, h4, h5, h6⟩ := s
      exact ⟨.ref p, slot_some h1, q _ H Ext.refl ⟨p, C, dx, vs, rfl, h3, h4, h5, h6⟩⟩
    | m xs => simp [gb, hy, Out] at q
    | mf xs => simp [gb, hy, Out] at q
def kc (d : Dt) : Fn := fun _ => .ok d
theorem pd_int {i j pos} : PD X W (.Constant (.int i) j pos) (kc (.int i)) := pe_weak pe_int fun σ H Q ⟨P, ε, E, q⟩ => q _ H Ext.refl rfl
theorem pd_bl {i j pos} : PD X W (.Constant (.bool i) j pos) (kc (.bl i)) := pe_weak pe_bl fun σ H Q ⟨P, ε, E, q⟩ => q _ H Ext.refl rfl
theorem pd_non {j pos} : PD X W (.Constant .none j pos) (kc .non) := pe_weak pe_non fun σ H Q ⟨P, ε, E, q⟩ => q _ H Ext.refl rfl
theorem pd_str {i j pos} : PD X W (.Constant (.str i) j pos) (kc (.str i)) := pe_weak pe_str fun σ H Q ⟨P, ε, E, q⟩ => q _ H Ext.refl rfl

/-! ### operators -/
abbrev O2 := Dt → Dt → Option Dt
def bin (h : O2) (f g : Fn) : Fn := fun ε => (f ε).bind fun x => (g ε).bind fun y => .ofO (h x y)
/-- a rule by values serves an operation on data -/
def OpD (X : Cx) (r : R2) (h : O2) : Prop := ∀ (x y : V) (H : Hp) (Q : VK) (P : Pv) (dx dy d : Dt), (∀ a, P a → ∃ o, H a = some o ∧ ∀ ps, o ≠ .tbl ps) → RepB X.K X.mg H P dx x → RepB X.K X.mg H P dy y → h dx dy = some d →
  (∀ v H', Ext H H' → Rep X.K X.mg H' P d v → Q v H') → r x y H Q
/-- two expressions one after another -/
theorem two_of {α : Type} {T : Ev → Pv → Hp → α → Prop} {h : Dt → Dt → Rz Str α} {σ : St} {H : Hp} {R : V → V → Hp → Prop} {P : Pv} {ε : Ev} (E : EOk X.K X.mg P σ H ε) (q : Out X W σ H ((f ε).bind fun x => (g ε).bind fun y => h x y) (T ε P H))
    (hr : ∀ (x y : V) (H1 : Hp) (dx dy : Dt), EOk X.K X.mg P σ H1 ε → Ext H H1 → RepB X.K X.mg H1 P dx x → RepB X.K X.mg H1 P dy y → Out X W σ H1 (h dx dy) (T ε P H) → R x y H1) : tB X W f σ H fun x H1 => tB X W g σ H1 fun y H2 => R x y H2 :=
  ⟨P, ε, E, q.bind.mono fun dx q x H1 e1 r1 => ⟨P, ε, E.ext e1, (q.bind.ext e1).mono fun dy q y H2 e2 r2 => hr x y H2 dx dy ((E.ext e1).ext e2) (e1.trans e2) (r1.ext e2) r2 (q.ext (e1.trans e2))⟩⟩
theorem opD_of {r : R2} {h : O2} (hr : OpD X r h) {σ : St} {H : Hp} {Q : VK} (q : tD X W (bin h f g) σ H Q) : tB X W f σ H fun x H1 => tB X W g σ H1 fun y H2 => r x y H2 Q := by
  obtain ⟨P, ε, E, q⟩ := q
  refine two_of (T := fun _ P H d => ∀ v H', Ext H H' → Rep X.K X.mg H' P d v → Q v H') E q fun x y H1 dx dy E1 e r1 r2 q => ?_
  obtain ⟨d, hh, q⟩ := q.ofO
  exact hr x y H1 Q P dx dy d E1.tk r1 r2 hh fun v H' x => q v H' (e.trans x)
theorem pd_op {op : Operator} {r : R2} {h : O2} (ho : OpR X (binaryOp op) r) (hr : OpD X r h) (ha : PB X W a f) (hb : PB X W b g) : PD X W (.BinOp a op b pos) (bin h f g) := pe_weak (pe_op ho ha hb) fun _ _ _ q => opD_of hr q
theorem pd_cmp {op : CmpOp} {r : R2} {h : O2} (ho : OpR X (compareOp op) r) (hr : OpD X r h) (ha : PB X W a f) (hb : PB X W b g) (hm : behindInMarks op b = false) : PD X W (.Compare a [op] [b] pos) (bin h f g) := pe_weak (pe_cmpR ho ha hb hm) fun _ _ _ q => opD_of hr q
end
end DL
end
section
set_option Elab.async false
set_option linter.all false
set_option maxRecDepth 100000
set_option autoImplicit false
namespace DL
open PySem PySem.Spec PyProof.Rows L2
variable [TbC]
variable {X : Cx} {W : WX} {e a b : Expr} {f g : Fn} {pos : Pos}

/-! ### arithmetic -/
open Classical in
noncomputable def mulD : O2
  | .int i, .int j => if IntMulOk i j then some (.int (i * j)) else none
  | _, _ => none
def addD : O2
  | .int i, .int j => some (.int (i + j))
  | .str x, .str y => if x.length + y.length ≤ sizeLine then some (.str (x ++ y)) else none
  | .lst xs, .lst ys => if xs.length + ys.length ≤ sizeLine then some (.lst (xs ++ ys)) else none
  | .tup xs, .tup ys => if xs ≠ [] ∧ ys ≠ [] ∧ xs.length + ys.length ≤ sizeLine then some (.tup (xs ++ ys)) else none
  | _, _ => none
def subD : O2
  | .int i, .int j => some (.int (i - j))
  | _, _ => none
def modD : O2
  | .int i, .int j => if j ≠ 0 then some (.int (i.fmod j)) else none
  | _, _ => none
def divD : O2
  | .int i, .int j => if j ≠ 0 ∧ j.natAbs.log2 < 9000 then some (.int (i.fdiv j)) else none
  | _, _ => none
theorem op_fdivAll : OpR X (binaryOp .FloorDiv) (rI (fun _ j => j ≠ 0 ∧ j.natAbs.log2 < 9000) fun i j => .int (i.fdiv j)) := opI fun i j _ _ _ _ _ hc q => floordiv_int hc.1 q (.inl (PyProof.noPylong_of_log2 hc.2))
theorem op_mulAll : OpR X (binaryOp .Mult) (rI IntMulOk fun i j => .int (i * j)) := opI fun _ _ _ _ _ _ _ hc q => mul_int q hc
theorem opD_I {C : Int → Int → Prop} {k : Int → Int → V} {h : O2} {k' : Int → Int → Dt} (hh : ∀ x y d, h x y = some d → ∃ i j, x = .int i ∧ y = .int j ∧ C i j ∧ d = k' i j) (hk : ∀ K mg H P i j, Rep K mg H P (k' i j) (k i j)) : OpD X (rI C k) h := fun x y H Q P dx dy d _ r1 r2 e q => by
  obtain ⟨i, j, rfl, rfl, c, rfl⟩ := hh _ _ _ e
  exact ⟨i, j, r1, r2, c, q _ H Ext.refl (hk _ _ _ _ _ _)⟩
theorem mul_ok : OpD X (rI IntMulOk fun i j => .int (i * j)) mulD := opD_I (k' := fun i j => .int (i * j)) (fun x y d e => by
  unfold mulD at e
  split at e
  · split at e
    · exact ⟨_, _, rfl, rfl, by assumption, (Option.some.inj e).symm⟩
    · cases e
  · cases e) fun _ _ _ _ _ _ => rfl
theorem mod_ok : OpD X (rI (fun _ j => j ≠ 0) fun i j => .int (i.fmod j)) modD := opD_I (k' := fun i j => .int (i.fmod j)) (fun x y d e => by
  unfold modD at e
  split at e
  · split at e
    · exact ⟨_, _, rfl, rfl, by assumption, (Option.some.inj e).symm⟩
    · cases e
  · cases e) fun _ _ _ _ _ _ => rfl
theorem div_ok : OpD X (rI (fun _ j => j ≠ 0 ∧ j.natAbs.log2 < 9000) fun i j => .int (i.fdiv j)) divD := opD_I (k' := fun i j => .int (i.fdiv j)) (fun x y d e => by
  unfold divD at e
  split at e
  · split at e
    · exact ⟨_, _, rfl, rfl, by assumption, (Option.some.inj e).symm⟩
    · cases e
  · cases e) fun _ _ _ _ _ _ => rfl
theorem sub_ok : OpD X (rI0 fun i j => .int (i - j)) subD := fun x y H Q P dx dy d _ r1 r2 e q => by
  unfold subD at e
  split at e
  · cases e
    exact ⟨_, _, r1, r2, q _ H Ext.refl rfl⟩
  · cases e
def rAddAll (K : PySem.W.Frag) : R2 := fun x y H Q => (∃ i j, x = .int i ∧ y = .int j ∧ Q (.int (i + j)) H) ∨ (∃ i j, x = .str i ∧ y = .str j ∧ i.length + j.length ≤ sizeLine ∧ Q (.str (i ++ j)) H) ∨ rCat x y H Q ∨ rCatT K x y H Q
theorem op_addAll : OpR X (binaryOp .Add) (rAddAll X.K) := op_add.or (op_add_str.or (op_cat.or op_catT))
theorem add_ok : OpD X (rAddAll X.K) addD := fun x y H Q P dx dy d tk r1 r2 e q => by
  unfold addD at e
  split at e
  · cases e
    exact .inl ⟨_, _, r1, r2, q _ H Ext.refl rfl⟩
  · split at e
    · cases e
      exact .inr (.inl ⟨_, _, r1, r2, by assumption, q _ H Ext.refl rfl⟩)
    · cases e
  · split at e
    · cases e
      obtain ⟨p, vs, rfl, h1, s1⟩ := r1
      obtain ⟨p', vs', rfl, h1', s1'⟩ := r2
      refine .inr (.inr (.inl ⟨p, p', vs, vs', rfl, rfl, h1, h1', by rw [← s1.length, ← s1'.length]; assumption, fun l hl => q _ _ (Ext.new hl) ⟨l, _, rfl, upd_same, fun z => ?_, (s1.append s1').ext (Ext.new hl)⟩⟩))
      obtain ⟨o, z', _⟩ := tk l z
      rw [hl] at z'; cases z'
    · cases e
  · split at e
    · rename_i hz
      cases e
      obtain ⟨p, vs, rfl, h1, s1⟩ := r1
      obtain ⟨p', vs', rfl, h1', s1'⟩ := r2
      have n1 : vs ≠ [] := fun z => hz.1 (List.eq_nil_of_length_eq_zero (by rw [s1.length, z]; rfl))
      have n2 : vs' ≠ [] := fun z => hz.2.1 (List.eq_nil_of_length_eq_zero (by rw [s1'.length, z]; rfl))
      exact .inr (.inr (.inr ⟨p, p', vs, vs', rfl, rfl, h1, h1', n1, by rw [← s1.length, ← s1'.length]; exact hz.2.2, fun z => absurd z n2, fun _ l hl => q _ _ (Ext.new hl) ⟨l, _, rfl, .of upd_same, (s1.append s1').ext (Ext.new hl)⟩⟩))
    · cases e
  · cases e
theorem dAdd (ha : PB X W a f) (hb : PB X W b g) : PD X W (.BinOp a .Add b pos) (bin addD f g) := pd_op op_addAll add_ok ha hb
theorem dSub (ha : PB X W a f) (hb : PB X W b g) : PD X W (.BinOp a .Sub b pos) (bin subD f g) := pd_op op_sub sub_ok ha hb
theorem dMul (ha : PB X W a f) (hb : PB X W b g) : PD X W (.BinOp a .Mult b pos) (bin mulD f g) := pd_op op_mulAll mul_ok ha hb
theorem dMod (ha : PB X W a f) (hb : PB X W b g) : PD X W (.BinOp a .Mod b pos) (bin modD f g) := pd_op op_modN mod_ok ha hb
theorem dDiv (ha : PB X W a f) (hb : PB X W b g) : PD X W (.BinOp a .FloorDiv b pos) (bin divD f g) := pd_op op_fdivAll div_ok ha hb
/-- shifts of small numbers -/
def shlD : O2
  | .int i, .int j => if 0 ≤ j ∧ j ≤ 1000000 ∧ i.natAbs < 2 ^ 64 then some (.int (i * 2 ^ j.toNat)) else none
  | _, _ => none
theorem shl_ok : OpD X (rI CPow fun i j => .int (i * 2 ^ j.toNat)) shlD := opD_I (k' := fun i j => .int (i * 2 ^ j.toNat)) (fun x y d e => by
  unfold shlD at e
  split at e
  · split at e
    · exact ⟨_, _, rfl, rfl, by assumption, (Option.some.inj e).symm⟩
    · cases e
  · cases e) fun _ _ _ _ _ _ => rfl
theorem dShl (ha : PB X W a f) (hb : PB X W b g) : PD X W (.BinOp a .LShift b pos) (bin shlD f g) := pd_op op_shl shl_ok ha hb
def powD : O2
  | .int i, .int j => if 0 ≤ j ∧ j ≤ 1000000 ∧ i.natAbs < 2 ^ 64 then some (.int (i ^ j.toNat)) else none
  | _, _ => none
theorem pow_ok : OpD X (rI CPow fun i j => .int (i ^ j.toNat)) powD := opD_I (k' := fun i j => .int (i ^ j.toNat)) (fun x y d e => by
  unfold powD at e
  split at e
  · split at e
    · exact ⟨_, _, rfl, rfl, by assumption, (Option.some.inj e).symm⟩
    · cases e
  · cases e) fun _ _ _ _ _ _ => rfl
theorem dPow (ha : PB X W a f) (hb : PB X W b g) : PD X W (.BinOp a .Pow b pos) (bin powD f g) := pd_op op_pow pow_ok ha hb
/-! ### comparisons -/
def cmpD (p : Int → Int → Bool) : O2
  | .int i, .int j => some (.bl (p i j))
  | _, _ => none
theorem cmp_ok {p : Int → Int → Bool} : OpD X (rI0 fun i j => .bl (p i j)) (cmpD p) := fun x y H Q P dx dy d _ r1 r2 e q => by
  unfold cmpD at e
  split at e
  · cases e
    exact ⟨_, _, r1, r2, q _ H Ext.refl rfl⟩
  · cases e
def ltD : O2 := cmpD fun i j => decide (i < j)
def leD : O2 := cmpD fun i j => decide (i ≤ j)
def gtD : O2 := cmpD fun i j => decide (j < i)
def geD : O2 := cmpD fun i j => decide (j ≤ i)
theorem dLt (ha : PB X W a f) (hb : PB X W b g) : PD X W (.Compare a [.Lt] [b] pos) (bin ltD f g) := pd_cmp op_lt cmp_ok ha hb (nomark _)
theorem dLe (ha : PB X W a f) (hb : PB X W b g) : PD X W (.Compare a [.LtE] [b] pos) (bin leD f g) := pd_cmp op_le cmp_ok ha hb (nomark _)
theorem dGt (ha : PB X W a f) (hb : PB X W b g) : PD X W (.Compare a [.Gt] [b] pos) (bin gtD f g) := pd_cmp op_gt cmp_ok ha hb (nomark _)
theorem dGe (ha : PB X W a f) (hb : PB X W b g) : PD X W (.Compare a [.GtE] [b] pos) (bin geD f g) := pd_cmp op_ge cmp_ok ha hb (nomark _)
/-! as plain data of the library -/
mutual
def py : Dt → Option PyData
  | .non => some .none
  | .bl b => some (.bool b)
  | .int i => some (.int i)
  | .str x => some (.str x)
  | .tup xs => (pys xs).map .tuple
  | .lst xs => (pys xs).map .list
  | .frl xs => (pys xs).map .list
  | .ins _ _ _ => none
  | .fn _ _ _ _ _ => none
def pys : List Dt → Option (List PyData)
  | [] => some []
  | d :: ds => (py d).bind fun x => (pys ds).map fun r => x :: r
end
section
variable {K : PySem.W.Frag} {mg : Mg} {H : Hp} {P : Pv}
mutual
theorem rep_py : ∀ (d : Dt) (v : V) (x : PyData), Rep K mg H P d v → py d = some x → Dp K H v x
  | .non, v, x, h, e => by cases e; rw [show v = _ from h]; exact .non
  | .bl b, v, x, h, e => by cases e; rw [show v = _ from h]; exact .bl b
  | .int b, v, x, h, e => by cases e; rw [show v = _ from h]; exact .int b
  | .str b, v, x, h, e => by cases e; rw [show v = _ from h]; exact .str b
  | .tup ds, v, x, ⟨a, vs, q, h1, h2⟩, e => by
    subst q
    rw [py] at e
    cases q : pys ds with
    | none => rw [q] at e; cases e
    | some xs => rw [q] at e; cases e; exact .tup h1 (reps_py ds vs xs h2 q)
  | .lst ds, v, x, ⟨a, vs, q, h1, _, h2⟩, e => by
    subst q
    rw [py] at e
    cases q : pys ds with
    | none => rw [q] at e; cases e
    | some xs => rw [q] at e; cases e; exact .lst (.of h1) (reps_py ds vs xs h2 q)
  | .frl ds, v, x, ⟨a, vs, q, h1, h2⟩, e => by
    subst q
    rw [py] at e
    cases q : pys ds with
    | none => rw [q] at e; cases e
    | some xs => rw [q] at e; cases e; exact .lst h1.sq (reps_py ds vs xs h2 q)
  | .ins _ _ _, _, _, _, e => by cases e
  | .fn _ _ _ _ _, _, _, _, e => by cases e
theorem reps_py : ∀ (ds : List Dt) (vs : List V) (xs : List PyData), Reps K mg H P ds vs → pys ds = some xs → DpAll K H vs xs
  | [], vs, xs, h, e => by cases e; rw [show vs = _ from h]; exact .nil
  | d :: ds, vs, xs, ⟨v, r, q, h1, h2⟩, e => by
    subst q
    rw [pys] at e
    cases q : py d with
    | none => rw [q] at e; cases e
    | some y =>
      cases q2 : pys ds with
      | none => rw [q, q2] at e; cases e
      | some ys => rw [q, q2] at e; cases e; exact .cons (rep_py d v y h1 q) (reps_py ds r ys h2 q2)
end
theorem repB_py {d : Dt} {v : V} {x : PyData} (h : RepB K mg H P d v) (e : py d = some x) : Dp K H v x := by
  cases d with
  | lst ds =>
    obtain ⟨a, vs, q, h1, h2⟩ := h
    subst q
    rw [py] at e
    cases q : pys ds with
    | none => rw [q] at e; cases e
    | some xs => rw [q] at e; cases e; exact .lst (.of h1) (reps_py ds vs xs h2 q)
  | ins c ks ds => cases e
  | _ => exact rep_py _ _ _ h e
end
def eqB (x y : Dt) : Option Bool := (py x).bind fun a => (py y).bind fun b => if SeqAt.shaped a = true ∧ SeqAt.shaped b = true then some (PyData.eqv a b) else none
def eqD : O2 := fun x y => (eqB x y).map .bl
def neD : O2 := fun x y => (eqB x y).map fun b => .bl (!b)
theorem eqB_some {x y : Dt} {k : Bool} (h : eqB x y = some k) : ∃ a b, py x = some a ∧ py y = some b ∧ SeqAt.shaped a = true ∧ SeqAt.shaped b = true ∧ k = PyData.eqv a b := by
  unfold eqB at h
  cases e1 : py x with
  | none => rw [e1] at h; cases h
  | some a =>
    cases e2 : py y with
    | none => rw [e1, e2] at h; cases h
    | some b =>
      rw [e1, e2] at h
      simp only [Option.bind_some] at h
      split at h
      · rename_i hs
        exact ⟨a, b, rfl, rfl, hs.1, hs.2, (Option.some.inj h).symm⟩
      · cases h
theorem eq_ok : OpD X (rEqD X.K) eqD := fun x y H Q P dx dy d _ r1 r2 e q => by
  unfold eqD at e
  cases h : eqB dx dy with
  | none => rw [h] at e; cases e
  | some k =>
    rw [h] at e; cases e
    obtain ⟨u, v, h1, h2, h3, h4, rfl⟩ := eqB_some h
    exact ⟨u, v, repB_py r1 h1, repB_py r2 h2, h3, h4, q _ H Ext.refl rfl⟩
theorem ne_ok : OpD X (rNeD X.K) neD := fun x y H Q P dx dy d _ r1 r2 e q => by
  unfold neD at e
  cases h : eqB dx dy with
  | none => rw [h] at e; cases e
  | some k =>
    rw [h] at e; cases e
    obtain ⟨u, v, h1, h2, h3, h4, rfl⟩ := eqB_some h
    exact ⟨u, v, repB_py r1 h1, repB_py r2 h2, h3, h4, q _ H Ext.refl rfl⟩
theorem dEq {k : Nat} (hr : Room k X.A) (ha : PB X W a f) (hb : PB X W b g) : PD X W (.Compare a [.Eq] [b] pos) (bin eqD f g) := pd_cmp (op_eqD hr.units) eq_ok ha hb (nomark _)
theorem dNe {k : Nat} (hr : Room k X.A) (ha : PB X W a f) (hb : PB X W b g) : PD X W (.Compare a [.NotEq] [b] pos) (bin neD f g) := pd_cmp (op_neD hr.units) ne_ok ha hb (nomark _)
def Dt.isNon : Dt → Bool
  | .non => true
  | _ => false
theorem repB_non {K : PySem.W.Frag} {mg : Mg} {H : Hp} {P : Pv} {d : Dt} {v : V} (h : RepB K mg H P d v) : decide (v = .non) = d.isNon := by
  cases d with
  | non => have e : v = _ := h; rw [e]; rfl
  | bl b => have e : v = _ := h; rw [e]; rfl
  | int b => have e : v = _ := h; rw [e]; rfl
  | str b => have e : v = _ := h; rw [e]; rfl
  | tup ds => obtain ⟨a, vs, rfl, _⟩ := h; rfl
  | lst ds => obtain ⟨a, vs, rfl, _⟩ := h; rfl
  | frl ds => obtain ⟨a, vs, rfl, _⟩ := h; rfl
  | ins c ks ds => obtain ⟨a, C, dx, vs, rfl, _⟩ := h; rfl
  | fn f c q ws ds => obtain ⟨rfl, _⟩ := h; rfl
/-- is None, is not None -/
def isND : O2 := fun x y => match y with
  | .non => some (.bl x.isNon)
  | _ => none
def notND : O2 := fun x y => match y with
  | .non => some (.bl (!x.isNon))
  | _ => none
theorem isN_ok : OpD X (fun x y H Q => y = .non ∧ Q (.bl (decide (x = .non))) H) isND := fun x y H Q P dx dy d _ r1 r2 e q => by
  unfold isND at e
  split at e
  · cases e
    exact ⟨r2, q _ H Ext.refl (by rw [repB_non r1]; rfl)⟩
  · cases e
theorem notN_ok : OpD X (fun x y H Q => y = .non ∧ Q (.bl (!decide (x = .non))) H) notND := fun x y H Q P dx dy d _ r1 r2 e q => by
  unfold notND at e
  split at e
  · cases e
    exact ⟨r2, q _ H Ext.refl (by rw [repB_non r1]; rfl)⟩
  · cases e
theorem dIsN (ha : PB X W a f) (hb : PB X W b g) : PD X W (.Compare a [.Is] [b] pos) (bin isND f g) := pd_cmp op_isN isN_ok ha hb (nomark _)
theorem dNotN (ha : PB X W a f) (hb : PB X W b g) : PD X W (.Compare a [.IsNot] [b] pos) (bin notND f g) := pd_cmp op_notN notN_ok ha hb (nomark _)
/-! ### subscripts -/
def ixD : O2
  | .lst xs, .int i => atI xs i
  | .frl xs, .int i => atI xs i
  | .tup xs, .int i => atI xs i
  | .str z, .int i => if z.length ≤ sizeLine then (atI z.cps.toList i).map fun c => .str ⟨#[c]⟩ else none
  | _, _ => none
theorem atI_rep {K : PySem.W.Frag} {mg : Mg} {H : Hp} {P : Pv} {ds : List Dt} {vs : List V} {i : Int} {d : Dt} (h : Reps K mg H P ds vs) (e : atI ds i = some d) : ∃ v, atI vs i = some v ∧ Rep K mg H P d v := by
  unfold atI at e ⊢
  rw [← h.length]
  cases q : ixN ds.length i with
  | none => rw [q] at e; cases e
  | some j => rw [q] at e; exact h.get e
theorem ix_ok {x y : V} {H : Hp} {Q : VK} {P : Pv} {dx dy d : Dt} (r1 : RepB X.K X.mg H P dx x) (r2 : RepB X.K X.mg H P dy y) (e : ixD dx dy = some d) (q : ∀ v, Rep X.K X.mg H P d v → Q v H) : rIx X.K x y H Q := by
  unfold ixD at e
  split at e
  · obtain ⟨p, vs, rfl, h1, s1⟩ := r1
    obtain ⟨v, h2, h3⟩ := atI_rep s1 e
    exact .inl ⟨p, vs, _, v, rfl, r2, .of h1, h2, q v h3⟩
  · obtain ⟨p, vs, rfl, h1, s1⟩ := r1
    obtain ⟨v, h2, h3⟩ := atI_rep s1 e
    exact .inl ⟨p, vs, _, v, rfl, r2, h1.sq, h2, q v h3⟩
  · obtain ⟨p, vs, rfl, h1, s1⟩ := r1
    obtain ⟨v, h2, h3⟩ := atI_rep s1 e
    exact .inr (.inl ⟨p, vs, _, v, rfl, r2, h1, h2, q v h3⟩)
  · split at e
    · rename_i z i hz
      cases h : atI z.cps.toList i with
      | none => rw [h] at e; cases e
      | some c => rw [h] at e; cases e; exact .inr (.inr ⟨z, i, c, r1, r2, hz, h, q _ rfl⟩)
    · cases e
  · cases e
theorem dIx (ha : PB X W a f) (hb : PB X W b g) (hs : PlainIx b := by exact fun _ _ => rfl) : PD X W (.Subscript a b pos) (bin ixD f g) := pe_weak (pe_ix ix_seq ha hb hs) fun σ H Q q =>
  opD_of (X := X) (r := rIx X.K) (fun x y H Q P dx dy d _ r1 r2 e q => ix_ok r1 r2 e fun v r => q v H Ext.refl r) q
end DL
end
section
set_option Elab.async false
set_option linter.all false
set_option maxRecDepth 100000
set_option autoImplicit false
namespace DL
open PySem PySem.Spec PyProof.Rows L2
variable [TbC]
variable {X : Cx} {W : WX} {e a b c : Expr} {es rest : List Expr} {f g h : Fn} {pos : Pos}

/-! ### tests -/
abbrev Tf := Ev → Rz Str Bool
def TW (X : Cx) (W : WX) (e : Expr) (f : Tf) : Prop := PW X e (tT X W f)
def Dt.boo : Dt → Rz Str Bool
  | .bl b => .ok b
  | _ => .bad
def tst (f : Fn) : Tf := fun ε => (f ε).bind Dt.boo
theorem Out.boo {σ : St} {H : Hp} {d : Dt} {k : Bool → Prop} (h : Out X W σ H d.boo k) : ∃ b, d = .bl b ∧ k b := by
  cases d with
  | bl b => exact ⟨b, rfl, h⟩
  | _ => exact h.elim
theorem td_cmp {op : CmpOp} {r : R2} {h : O2} (ho : OpR X (compareOp op) r) (hr : OpD X r h) (ha : PB X W a f) (hb : PB X W b g) (hm : behindInMarks op b = false) : TD X W (.Compare a [op] [b] pos) (tst (bin h f g)) := pt_weak (pt_cmpR ho ha hb hm) fun σ H Q ⟨P, ε, E, q⟩ =>
  opD_of hr ⟨P, ε, E, q.bind.mono fun d q v H' x r => by
    obtain ⟨k, rfl, q⟩ := q.boo
    exact ⟨k, r, q H' x⟩⟩
theorem td_val (h : PD X W e f) (he : ∀ whole, isTrue e X.env whole = (do let v ← whole; standAt e.pos; holding [v] (truthy v)) := by intro _; rfl) : TD X W e (tst f) := pt_weak (pt_val h he) fun σ H Q ⟨P, ε, E, q⟩ =>
  ⟨P, ε, E, q.bind.mono fun d q v H' x r => by
    obtain ⟨k, rfl, q⟩ := q.boo
    exact ⟨k, r, q H' x⟩⟩
theorem td_of {f : Tf} (h : TW X W e f) : TD X W e f := PW.pt h
def andT (f g : Tf) : Tf := fun ε => (f ε).bind fun b => if b = true then g ε else .ok false
def orT (f g : Tf) : Tf := fun ε => (f ε).bind fun b => if b = true then .ok true else g ε
def notT (f : Tf) : Tf := fun ε => (f ε).bind fun b => .ok (!b)
theorem tw_and1 {f : Tf} (ha : TD X W a f) : TW X W (.BoolOp .And [a] pos) f := pw_and1 ha
theorem tw_or1 {f : Tf} (ha : TD X W a f) : TW X W (.BoolOp .Or [a] pos) f := pw_or1 ha
theorem tw_and {f g : Tf} (ha : TD X W a f) (hb : TW X W (.BoolOp .And (b :: rest) pos) g) : TW X W (.BoolOp .And (a :: b :: rest) pos) (andT f g) := pw_weak (pw_and ha hb) fun σ H Q ⟨P, ε, E, q⟩ =>
  ⟨P, ε, E, q.bind.mono fun k q H1 e => by
    cases k with
    | false => exact q H1 e
    | true => exact ⟨P, ε, E.ext e, (Out.ext (show Out X W σ H (g ε) _ from q) e).mono fun k q H2 e2 => q H2 (e.trans e2)⟩⟩
theorem tw_or {f g : Tf} (ha : TD X W a f) (hb : TW X W (.BoolOp .Or (b :: rest) pos) g) : TW X W (.BoolOp .Or (a :: b :: rest) pos) (orT f g) := pw_weak (pw_or ha hb) fun σ H Q ⟨P, ε, E, q⟩ =>
  ⟨P, ε, E, q.bind.mono fun k q H1 e => by
    cases k with
    | true => exact q H1 e
    | false => exact ⟨P, ε, E.ext e, (Out.ext (show Out X W σ H (g ε) _ from q) e).mono fun k q H2 e2 => q H2 (e.trans e2)⟩⟩
theorem td_not {f : Tf} (ha : TD X W a f) : TD X W (.UnaryOp .Not a pos) (notT f) := pt_weak (pt_not ha) fun σ H Q ⟨P, ε, E, q⟩ => ⟨P, ε, E, q.bind⟩
/-- .. as values -/
def andV (f g : Fn) : Fn := fun ε => (f ε).bind fun x => x.boo.bind fun b => if b = true then g ε else .ok (.bl false)
def orV (f g : Fn) : Fn := fun ε => (f ε).bind fun x => x.boo.bind fun b => if b = true then .ok (.bl true) else g ε
def notV (f : Fn) : Fn := fun ε => (f ε).bind fun x => x.boo.bind fun b => .ok (.bl (!b))
theorem pd_one {op} (ha : PD X W a f) : PD X W (.BoolOp op [a] pos) f := pe_one ha
theorem pd_and (ha : PD X W a f) (hb : PD X W (.BoolOp .And (b :: rest) pos) g) : PD X W (.BoolOp .And (a :: b :: rest) pos) (andV f g) := pe_weak (pe_and ha hb) fun σ H Q ⟨P, ε, E, q⟩ =>
  ⟨P, ε, E, q.bind.mono fun d q v H1 e r => by
    obtain ⟨k, rfl, q⟩ := q.bind.boo
    refine ⟨k, r, ?_⟩
    cases k with
    | false => exact q _ H1 e rfl
    | true => exact ⟨P, ε, E.ext e, (Out.ext (show Out X W σ H (g ε) _ from q) e).mono fun k q v H2 e2 => q v H2 (e.trans e2)⟩⟩
theorem pd_or (ha : PD X W a f) (hb : PD X W (.BoolOp .Or (b :: rest) pos) g) : PD X W (.BoolOp .Or (a :: b :: rest) pos) (orV f g) := pe_weak (pe_or ha hb) fun σ H Q ⟨P, ε, E, q⟩ =>
  ⟨P, ε, E, q.bind.mono fun d q v H1 e r => by
    obtain ⟨k, rfl, q⟩ := q.bind.boo
    refine ⟨k, r, ?_⟩
    cases k with
    | true => exact q _ H1 e rfl
    | false => exact ⟨P, ε, E.ext e, (Out.ext (show Out X W σ H (g ε) _ from q) e).mono fun k q v H2 e2 => q v H2 (e.trans e2)⟩⟩
theorem pd_not (ha : PD X W a f) : PD X W (.UnaryOp .Not a pos) (notV f) := pe_weak (pe_not ha) fun σ H Q ⟨P, ε, E, q⟩ =>
  ⟨P, ε, E, q.bind.mono fun d q v H1 e r => by
    obtain ⟨k, rfl, q⟩ := q.bind.boo
    exact ⟨k, r, q _ H1 e rfl⟩⟩
def ifV (t : Tf) (f g : Fn) : Fn := fun ε => (t ε).bind fun b => if b = true then f ε else g ε
theorem pd_if {t : Tf} (hc : TD X W c t) (ha : PD X W a f) (hb : PD X W b g) : PD X W (.IfExp c a b pos) (ifV t f g) := pe_weak (pe_ifExp hc ha hb) fun σ H Q ⟨P, ε, E, q⟩ =>
  ⟨P, ε, E, q.bind.mono fun k q H1 e => by
    cases k with
    | true => exact ⟨P, ε, E.ext e, (Out.ext (show Out X W σ H (f ε) _ from q) e).mono fun k q v H2 e2 => q v H2 (e.trans e2)⟩
    | false => exact ⟨P, ε, E.ext e, (Out.ext (show Out X W σ H (g ε) _ from q) e).mono fun k q v H2 e2 => q v H2 (e.trans e2)⟩⟩
/-- a op b op' c -/
def chn (h h' : O2) (f g k : Fn) : Fn := fun ε => (f ε).bind fun x => (g ε).bind fun y => (Rz.ofO (h x y)).bind fun r => r.boo.bind fun b => if b = true then (k ε).bind fun z => .ofO (h' y z) else .ok (.bl false)
theorem chn_of {r r' : R2} {o o' : O2} (hr : OpD X r o) (hr' : OpD X r' o') {σ : St} {H : Hp} {Q : VK} (q : tD X W (chn o o' f g h) σ H Q) : tChain r r' (tB X W f) (tB X W g) (tB X W h) σ H Q := by
  obtain ⟨P, ε, E, q⟩ := q
  refine two_of (T := fun _ P H d => ∀ v H', Ext H H' → Rep X.K X.mg H' P d v → Q v H') E q fun x y H1 dx dy E1 e r1 r2 q => ?_
  obtain ⟨d, hh, q⟩ := q.bind.ofO
  refine hr x y H1 _ P dx dy d E1.tk r1 r2 hh fun v H2 e2 rv => ?_
  obtain ⟨k, rfl, q⟩ := q.bind.boo
  refine ⟨k, rv, ?_⟩
  cases k with
  | false => exact q _ H2 (e.trans e2) rfl
  | true =>
    refine ⟨P, ε, E1.ext e2, (Out.ext (Out.bind (show Out X W σ H1 ((h ε).bind fun z => .ofO (o' dy z)) _ from q)) e2).mono fun dz q z H3 e3 r3 => ?_⟩
    obtain ⟨d', hh', q⟩ := q.ofO
    exact hr' y z H3 Q P dy dz d' ((E1.ext e2).ext e3).tk ((r2.ext e2).ext e3) r3 hh' fun v H' x => q v H' (((e.trans e2).trans e3).trans x)
theorem td_chain {op op' : CmpOp} {r r' : R2} {o o' : O2} (ho : OpR X (compareOp op) r) (hr : OpD X r o) (ho' : OpR X (compareOp op') r') (hr' : OpD X r' o') (ha : PB X W a f) (hb : PB X W b g) (hc : PB X W c h) (hm : lastMarks [op, op'] [b, c] = false := by with_unfolding_all rfl) :
    TD X W (.Compare a [op, op'] [b, c] pos) (tst (chn o o' f g h)) := pt_weak (pt_chain ho ho' ha hb hc hm) fun σ H Q ⟨P, ε, E, q⟩ =>
  chn_of hr hr' ⟨P, ε, E, q.bind.mono fun d q v H' x r => by
    obtain ⟨k, rfl, q⟩ := q.boo
    exact ⟨k, r, q H' x⟩⟩

/-! ### arguments, displays -/
abbrev Fs := Ev → Rz Str (List Dt)
def nilF : Fs := fun _ => .ok []
def consF (f : Fn) (fs : Fs) : Fs := fun ε => (f ε).bind fun x => (fs ε).bind fun xs => .ok (x :: xs)
theorem ad_nil : AD X W [] nilF := pa_weak pa_nil fun σ H Q ⟨P, ε, E, q⟩ => q [] H Ext.refl rfl
theorem ad_cons {fs : Fs} (ha : PD X W e f) (hr : AD X W es fs) (hs : starEach (e :: es) X.env = (false, eval e X.env) :: starEach es X.env := by rfl) : AD X W (e :: es) (consF f fs) := pa_weak (pa_cons ha hr hs) fun σ H Q ⟨P, ε, E, q⟩ =>
  ⟨P, ε, E, q.bind.mono fun d q v H1 e1 r1 => ⟨P, ε, E.ext e1, (q.bind.ext e1).mono fun ds q vs H2 e2 r2 => q (v :: vs) H2 (e1.trans e2) ⟨v, vs, rfl, r1.ext e2, r2⟩⟩⟩
def tupF (fs : Fs) : Fn := fun ε => (fs ε).bind fun ds => if ds.length ≤ sizeLine then .ok (.tup ds) else .bad
def lsF (fs : Fs) : Fs := fun ε => (fs ε).bind fun ds => if ds.length ≤ sizeLine then .ok ds else .bad
theorem pd_tup {x1} {fs : Fs} (h : AD X W es fs) : PD X W (.Tuple es x1 pos) (tupF fs) := pe_weak (pe_tup h) fun σ H Q ⟨P, ε, E, q⟩ =>
  ⟨P, ε, E, q.bind.mono fun ds q vs H1 e r => by
    by_cases z : ds.length ≤ sizeLine
    · rw [if_pos z] at q
      exact ⟨by rw [← r.length]; exact z, fun p hp => q _ _ (e.trans (Ext.new hp)) ⟨p, vs, rfl, .of upd_same, r.ext (Ext.new hp)⟩⟩
    · rw [if_neg z] at q
      exact q.elim⟩
theorem pn_lst {fs : Fs} (h : AD X W es fs) : PN X W (.List es pos) (lsF fs) := pe_weak (pe_lst h) fun σ H Q ⟨P, ε, E, q⟩ =>
  ⟨P, ε, E, q.bind.mono fun ds q vs H1 e r => by
    by_cases z : ds.length ≤ sizeLine
    · rw [if_pos z] at q
      exact ⟨by rw [← r.length]; exact z, fun p hp => q _ _ _ (e.trans (Ext.new hp)) (e.fresh (.of hp)) upd_same ((Reps.tr (Tr.more (.of hp)) _ _ r).ext (Ext.new hp))⟩
    · rw [if_neg z] at q
      exact q.elim⟩
end DL
end
section
set_option Elab.async false
set_option linter.all false
set_option maxRecDepth 100000
set_option autoImplicit false
namespace DL
open PySem PySem.Spec PyProof.Rows L2
variable [TbC]
variable {X : Cx} {W : WX} {e a b c : Expr} {es rest : List Expr} {f g h : Fn} {pos p : Pos}

/-! ### built-ins of one argument, of two -/
def un (h : Dt → Option Dt) (f : Fn) : Fn := fun ε => (f ε).bind fun x => .ofO (h x)
def UnD (X : Cx) (r : List V → Hp → VK → Prop) (h : Dt → Option Dt) : Prop := ∀ (x : V) (H : Hp) (Q : VK) (P : Pv) (dx d : Dt), (∀ a, P a → ∃ o, H a = some o ∧ ∀ ps, o ≠ .tbl ps) → RepB X.K X.mg H P dx x → h dx = some d →
  (∀ v H', Ext H H' → Rep X.K X.mg H' P d v → Q v H') → r [x] H Q
def UnN (X : Cx) (r : List V → Hp → VK → Prop) (h : Dt → Option (List Dt)) : Prop := ∀ (x : V) (H : Hp) (Q : VK) (P : Pv) (dx : Dt) (ds : List Dt), (∀ a, P a → ∃ o, H a = some o ∧ ∀ ps, o ≠ .tbl ps) → RepB X.K X.mg H P dx x → h dx = some ds →
  (∀ p vs H', Ext H H' → Fresh H p → H' p = some (.lst vs) → Reps X.K X.mg H' (more P p) ds vs → Q (.ref p) H') → r [x] H Q
def BiD (X : Cx) (r : List V → Hp → VK → Prop) (h : O2) : Prop := ∀ (x y : V) (H : Hp) (Q : VK) (P : Pv) (dx dy d : Dt), (∀ a, P a → ∃ o, H a = some o ∧ ∀ ps, o ≠ .tbl ps) → RepB X.K X.mg H P dx x → RepB X.K X.mg H P dy y → h dx dy = some d →
  (∀ v H', Ext H H' → Rep X.K X.mg H' P d v → Q v H') → r [x, y] H Q
def unN (h : Dt → Option (List Dt)) (f : Fn) : Fs := fun ε => (f ε).bind fun x => .ofO (h x)
theorem una {r : List V → Hp → VK → Prop} {h : Dt → Option Dt} (hr : UnD X r h) {σ : St} {H : Hp} {Q : VK} (q : tD X W (un h f) σ H Q) : tCB r (tCons (tB X W f) tNil) σ H Q := by
  obtain ⟨P, ε, E, q⟩ := q
  exact ⟨P, ε, E, q.bind.mono fun dx q x H1 e1 r1 => by
    obtain ⟨d, hh, q⟩ := q.ofO
    exact hr x H1 Q P dx d (E.ext e1).tk r1 hh fun v H' x => q v H' (e1.trans x)⟩
theorem unaN {r : List V → Hp → VK → Prop} {h : Dt → Option (List Dt)} (hr : UnN X r h) {σ : St} {H : Hp} {Q : VK} (q : tN X W (unN h f) σ H Q) : tCB r (tCons (tB X W f) tNil) σ H Q := by
  obtain ⟨P, ε, E, q⟩ := q
  exact ⟨P, ε, E, q.bind.mono fun dx q x H1 e1 r1 => by
    obtain ⟨d, hh, q⟩ := q.ofO
    exact hr x H1 Q P dx d (E.ext e1).tk r1 hh fun p vs H' x fr => q p vs H' (e1.trans x) (e1.fresh fr)⟩
theorem bia {r : List V → Hp → VK → Prop} {h : O2} (hr : BiD X r h) {σ : St} {H : Hp} {Q : VK} (q : tD X W (bin h f g) σ H Q) : tCB r (tCons (tB X W f) (tCons (tB X W g) tNil)) σ H Q := by
  obtain ⟨P, ε, E, q⟩ := q
  refine two_of (T := fun _ P H d => ∀ v H', Ext H H' → Rep X.K X.mg H' P d v → Q v H') E q fun x y H1 dx dy E1 e r1 r2 q => ?_
  obtain ⟨d, hh, q⟩ := q.ofO
  exact hr x y H1 Q P dx dy d E1.tk r1 r2 hh fun v H' x => q v H' (e.trans x)
section
variable {x : Str} {id T : String} {r : List V → Hp → VK → Prop}
theorem pd_b1 {h : Dt → Option Dt} (hc : CallR X (.builtin id) r) (hr : UnD X r h) (hv : bootBuiltins x = some (.builtin id)) (hn : x ≠ "__name__") (hdb : (x == ("__debug__" : Str)) = false) (hm : X.mg x = none) (ha : PB X W e f) (hg : Gl X x)
    (he : starEach [e] X.env = [(false, eval e X.env)]) : PD X W (.Call (.Name x p) [e] [] pos) (un h f) := pe_weak (pe_callB hc hg hm hv (pa_cons ha pa_nil he) hn hdb he rfl) fun _ _ _ q => una hr q
theorem pd_t1 {h : Dt → Option Dt} (hc : CallR X (.type T) r) (hr : UnD X r h) (hv : bootBuiltins x = some (.type T)) (hn : x ≠ "__name__") (hdb : (x == ("__debug__" : Str)) = false) (hm : X.mg x = none) (ha : PB X W e f) (hg : Gl X x)
    (he : starEach [e] X.env = [(false, eval e X.env)]) : PD X W (.Call (.Name x p) [e] [] pos) (un h f) := pe_weak (pe_callTy hc hg hm hv (pa_cons ha pa_nil he) hn hdb he rfl) fun _ _ _ q => una hr q
theorem pn_b1 {h : Dt → Option (List Dt)} (hc : CallR X (.builtin id) r) (hr : UnN X r h) (hv : bootBuiltins x = some (.builtin id)) (hn : x ≠ "__name__") (hdb : (x == ("__debug__" : Str)) = false) (hm : X.mg x = none) (ha : PB X W e f) (hg : Gl X x)
    (he : starEach [e] X.env = [(false, eval e X.env)]) : PN X W (.Call (.Name x p) [e] [] pos) (unN h f) := pe_weak (pe_callB hc hg hm hv (pa_cons ha pa_nil he) hn hdb he rfl) fun _ _ _ q => unaN hr q
theorem pn_t1 {h : Dt → Option (List Dt)} (hc : CallR X (.type T) r) (hr : UnN X r h) (hv : bootBuiltins x = some (.type T)) (hn : x ≠ "__name__") (hdb : (x == ("__debug__" : Str)) = false) (hm : X.mg x = none) (ha : PB X W e f) (hg : Gl X x)
    (he : starEach [e] X.env = [(false, eval e X.env)]) : PN X W (.Call (.Name x p) [e] [] pos) (unN h f) := pe_weak (pe_callTy hc hg hm hv (pa_cons ha pa_nil he) hn hdb he rfl) fun _ _ _ q => unaN hr q
theorem pd_b2 {h : O2} (hc : CallR X (.builtin id) r) (hr : BiD X r h) (hv : bootBuiltins x = some (.builtin id)) (hn : x ≠ "__name__") (hdb : (x == ("__debug__" : Str)) = false) (hm : X.mg x = none) (ha : PB X W e f) (hb : PB X W b g) (hg : Gl X x)
    (he : starEach [e, b] X.env = (false, eval e X.env) :: starEach [b] X.env) (he2 : starEach [b] X.env = [(false, eval b X.env)]) (hpl : (backTo pos (starEach [b] X.env)).any (·.1) = false) :
    PD X W (.Call (.Name x p) [e, b] [] pos) (bin h f g) := pe_weak (pe_callB hc hg hm hv (pa_cons ha (pa_cons hb pa_nil he2) he) hn hdb he hpl) fun _ _ _ q => bia hr q
end
/-! the data's parts -/
def asI : List Dt → Option (List Int)
  | [] => some []
  | .int i :: r => (asI r).map fun xs => i :: xs
  | _ => none
def asB : List Dt → Option (List Bool)
  | [] => some []
  | .bl i :: r => (asB r).map fun xs => i :: xs
  | _ => none
theorem ints_some : ∀ {ds : List Dt} {ns : List Int}, asI ds = some ns → ds = ns.map .int
  | [], ns, h => by cases h; rfl
  | .int i :: r, ns, h => by
    rw [asI] at h
    cases q : asI r with
    | none => rw [q] at h; cases h
    | some xs => rw [q] at h; cases h; rw [ints_some q]; rfl
  | .non :: _, _, h | .bl _ :: _, _, h | .str _ :: _, _, h | .tup _ :: _, _, h | .lst _ :: _, _, h | .frl _ :: _, _, h | .ins _ _ _ :: _, _, h | .fn _ _ _ _ _ :: _, _, h => by simp [asI] at h
theorem boos_some : ∀ {ds : List Dt} {ns : List Bool}, asB ds = some ns → ds = ns.map .bl
  | [], ns, h => by cases h; rfl
  | .bl i :: r, ns, h => by
    rw [asB] at h
    cases q : asB r with
    | none => rw [q] at h; cases h
    | some xs => rw [q] at h; cases h; rw [boos_some q]; rfl
  | .non :: _, _, h | .int _ :: _, _, h | .str _ :: _, _, h | .tup _ :: _, _, h | .lst _ :: _, _, h | .frl _ :: _, _, h | .ins _ _ _ :: _, _, h | .fn _ _ _ _ _ :: _, _, h => by simp [asB] at h
theorem ints_map (ns : List Int) : asI (ns.map .int) = some ns := by
  induction ns with
  | nil => rfl
  | cons n ns ih => rw [List.map_cons, asI, ih]; rfl
theorem boos_map (ns : List Bool) : asB (ns.map .bl) = some ns := by
  induction ns with
  | nil => rfl
  | cons n ns ih => rw [List.map_cons, asB, ih]; rfl
/-- the items of a list -/
def Dt.items : Dt → Option (List Dt)
  | .lst xs => some xs
  | .frl xs => some xs
  | _ => none
theorem items_rep {H : Hp} {P : Pv} {d : Dt} {v : V} {ds : List Dt} (h : RepB X.K X.mg H P d v) (e : d.items = some ds) : ∃ a vs, v = .ref a ∧ SqL X.K H a vs ∧ Reps X.K X.mg H P ds vs := by
  cases d with
  | lst xs => cases e; obtain ⟨a, vs, q, h1, h2⟩ := h; exact ⟨a, vs, q, .of h1, h2⟩
  | frl xs => cases e; obtain ⟨a, vs, q, h1, h2⟩ := h; exact ⟨a, vs, q, h1.sq, h2⟩
  | _ => cases e
def lenD : Dt → Option Dt
  | .lst xs => some (.int xs.length)
  | .frl xs => some (.int xs.length)
  | .tup xs => some (.int xs.length)
  | .str z => if z.length ≤ sizeLine then some (.int z.length) else none
  | _ => none
theorem len_ok : UnD X (fun xs H Q => ∃ x n, xs = [x] ∧ LenV X.K x H n ∧ Q (.int n) H) lenD := fun x H Q P dx d _ r1 e q => by
  unfold lenD at e
  split at e
  · cases e
    obtain ⟨a, vs, rfl, h1, h2⟩ := r1
    exact ⟨_, vs.length, rfl, .inl ⟨vs, .of h1, rfl⟩, q _ H Ext.refl (by rw [h2.length]; rfl)⟩
  · cases e
    obtain ⟨a, vs, rfl, h1, h2⟩ := r1
    exact ⟨_, vs.length, rfl, .inl ⟨vs, h1.sq, rfl⟩, q _ H Ext.refl (by rw [h2.length]; rfl)⟩
  · cases e
    obtain ⟨a, vs, rfl, h1, h2⟩ := r1
    exact ⟨_, vs.length, rfl, .inr ⟨vs, h1, rfl⟩, q _ H Ext.refl (by rw [h2.length]; rfl)⟩
  · split at e
    · rename_i z hz
      cases e
      have e1 : x = V.str z := r1
      subst e1
      exact ⟨_, z.length, rfl, ⟨hz, rfl⟩, q _ H Ext.refl rfl⟩
    · cases e
  · cases e
theorem dLen (hm : X.mg "len" = none) (ha : PB X W e f) (hg : Gl X "len" := by rfl) (he : starEach [e] X.env = [(false, eval e X.env)] := by rfl) : PD X W (.Call (.Name "len" p) [e] [] pos) (un lenD f) :=
  pd_b1 call_len len_ok PySem.boot_len (by decide) (by decide) hm ha hg he
def absD : Dt → Option Dt
  | .int i => some (.int (if i < 0 then -i else i))
  | _ => none
theorem abs_ok : UnD X (fun xs H Q => ∃ i, xs = [.int i] ∧ Q (.int (if i < 0 then -i else i)) H) absD := fun x H Q P dx d _ r1 e q => by
  unfold absD at e
  split at e
  · cases e
    have e1 : x = V.int _ := r1
    exact ⟨_, by rw [e1], q _ H Ext.refl rfl⟩
  · cases e
theorem dAbs (hm : X.mg "abs" = none) (ha : PB X W e f) (hg : Gl X "abs" := by rfl) (he : starEach [e] X.env = [(false, eval e X.env)] := by rfl) : PD X W (.Call (.Name "abs" p) [e] [] pos) (un absD f) :=
  pd_b1 call_abs abs_ok (by decide +kernel) (by decide) (by decide) hm ha hg he
def intD : Dt → Option Dt
  | .int i => some (.int i)
  | .bl k => some (.int (if k then 1 else 0))
  | _ => none
theorem int_ok : UnD X (fun xs H Q => (∃ i, xs = [.int i] ∧ Q (.int i) H) ∨ ∃ k, xs = [.bl k] ∧ Q (.int (if k then 1 else 0)) H) intD := fun x H Q P dx d _ r1 e q => by
  unfold intD at e
  split at e
  · cases e
    have e1 : x = V.int _ := r1
    exact .inl ⟨_, by rw [e1], q _ H Ext.refl rfl⟩
  · cases e
    have e1 : x = V.bl _ := r1
    exact .inr ⟨_, by rw [e1], q _ H Ext.refl rfl⟩
  · cases e
theorem dInt (hm : X.mg "int" = none) (ha : PB X W e f) (hg : Gl X "int" := by rfl) (he : starEach [e] X.env = [(false, eval e X.env)] := by rfl) : PD X W (.Call (.Name "int" p) [e] [] pos) (un intD f) :=
  pd_t1 call_int1 int_ok (by decide +kernel) (by decide) (by decide) hm ha hg he
def strD : Dt → Option Dt
  | .int i => if i.natAbs.log2 < 1920 then some (.str (toString i)) else none
  | _ => none
theorem str_ok : UnD X (fun xs H Q => ∃ i, xs = [.int i] ∧ i.natAbs.log2 < 1920 ∧ Q (.str (toString i)) H) strD := fun x H Q P dx d _ r1 e q => by
  unfold strD at e
  split at e
  · split at e
    · cases e
      have e1 : x = V.int _ := r1
      exact ⟨_, by rw [e1], by assumption, q _ H Ext.refl rfl⟩
    · cases e
  · cases e
theorem dStr (hm : X.mg "str" = none) (ha : PB X W e f) (hg : Gl X "str" := by rfl) (he : starEach [e] X.env = [(false, eval e X.env)] := by rfl) : PD X W (.Call (.Name "str" p) [e] [] pos) (un strD f) :=
  pd_t1 call_str_int str_ok (by decide +kernel) (by decide) (by decide) hm ha hg he
/-! sums and the like -/
def minL : List Int → Int
  | [] => 0
  | x :: r => r.foldl (fun a b => if b < a then b else a) x
def maxL : List Int → Int
  | [] => 0
  | x :: r => r.foldl (fun a b => if a < b then b else a) x
theorem minF : ∀ (r : List Int) (x : Int), (r.foldl (fun a b => if b < a then b else a) x = x ∨ r.foldl (fun a b => if b < a then b else a) x ∈ r) ∧ r.foldl (fun a b => if b < a then b else a) x ≤ x ∧ ∀ y ∈ r, r.foldl (fun a b => if b < a then b else a) x ≤ y
  | [], x => ⟨.inl rfl, Int.le_refl _, by simp⟩
  | y :: r, x => by
    obtain ⟨h1, h2, h3⟩ := minF r (if y < x then y else x)
    have hz : (if y < x then y else x) ≤ x ∧ (if y < x then y else x) ≤ y := by split <;> omega
    rw [List.foldl_cons]
    refine ⟨?_, Int.le_trans h2 hz.1, ?_⟩
    · rcases h1 with h1 | h1
      · rw [h1]
        by_cases z : y < x
        · rw [if_pos z]; exact .inr List.mem_cons_self
        · rw [if_neg z]; exact .inl rfl
      · exact .inr (List.mem_cons_of_mem _ h1)
    · intro w hw
      rcases List.mem_cons.mp hw with rfl | hw
      · exact Int.le_trans h2 hz.2
      · exact h3 w hw
theorem maxF : ∀ (r : List Int) (x : Int), (r.foldl (fun a b => if a < b then b else a) x = x ∨ r.foldl (fun a b => if a < b then b else a) x ∈ r) ∧ x ≤ r.foldl (fun a b => if a < b then b else a) x ∧ ∀ y ∈ r, y ≤ r.foldl (fun a b => if a < b then b else a) x
  | [], x => ⟨.inl rfl, Int.le_refl _, by simp⟩
  | y :: r, x => by
    obtain ⟨h1, h2, h3⟩ := maxF r (if x < y then y else x)
    have hz : x ≤ (if x < y then y else x) ∧ y ≤ (if x < y then y else x) := by split <;> omega
    rw [List.foldl_cons]
    refine ⟨?_, Int.le_trans hz.1 h2, ?_⟩
    · rcases h1 with h1 | h1
      · rw [h1]
        by_cases z : x < y
        · rw [if_pos z]; exact .inr List.mem_cons_self
        · rw [if_neg z]; exact .inl rfl
      · exact .inr (List.mem_cons_of_mem _ h1)
    · intro w hw
      rcases List.mem_cons.mp hw with rfl | hw
      · exact Int.le_trans hz.2 h2
      · exact h3 w hw
theorem minL_mem {ns : List Int} (h : ns ≠ []) : minL ns ∈ ns ∧ ∀ y ∈ ns, minL ns ≤ y := by
  cases ns with
  | nil => exact absurd rfl h
  | cons x r =>
    obtain ⟨h1, h2, h3⟩ := minF r x
    refine ⟨?_, fun y hy => ?_⟩
    · rcases h1 with h1 | h1
      · rw [show minL (x :: r) = x from h1]; exact List.mem_cons_self
      · exact List.mem_cons_of_mem _ h1
    · rcases List.mem_cons.mp hy with rfl | hy
      · exact h2
      · exact h3 y hy
theorem maxL_mem {ns : List Int} (h : ns ≠ []) : maxL ns ∈ ns ∧ ∀ y ∈ ns, y ≤ maxL ns := by
  cases ns with
  | nil => exact absurd rfl h
  | cons x r =>
    obtain ⟨h1, h2, h3⟩ := maxF r x
    refine ⟨?_, fun y hy => ?_⟩
    · rcases h1 with h1 | h1
      · rw [show maxL (x :: r) = x from h1]; exact List.mem_cons_self
      · exact List.mem_cons_of_mem _ h1
    · rcases List.mem_cons.mp hy with rfl | hy
      · exact h2
      · exact h3 y hy
theorem minL_of {ns : List Int} {m : Int} (h : m ∈ ns) (k : ∀ y ∈ ns, m ≤ y) : minL ns = m := by
  have hn : ns ≠ [] := fun z => by rw [z] at h; cases h
  obtain ⟨h1, h2⟩ := minL_mem hn
  have := h2 m h
  have := k _ h1
  omega
theorem maxL_of {ns : List Int} {m : Int} (h : m ∈ ns) (k : ∀ y ∈ ns, y ≤ m) : maxL ns = m := by
  have hn : ns ≠ [] := fun z => by rw [z] at h; cases h
  obtain ⟨h1, h2⟩ := maxL_mem hn
  have := h2 m h
  have := k _ h1
  omega
def overI (k : List Int → Option Dt) : Dt → Option Dt := fun x => x.items.bind fun ds => (asI ds).bind k
def overB (k : List Bool → Option Dt) : Dt → Option Dt := fun x => x.items.bind fun ds => (asB ds).bind k
theorem overI_some {k : List Int → Option Dt} {x d : Dt} (h : overI k x = some d) : ∃ ns, x.items = some (ns.map .int) ∧ k ns = some d := by
  unfold overI at h
  cases e : x.items with
  | none => rw [e] at h; cases h
  | some ds =>
    rw [e] at h
    cases e2 : asI ds with
    | none => rw [Option.bind_some, e2] at h; cases h
    | some ns => rw [Option.bind_some, e2] at h; exact ⟨ns, by rw [ints_some e2], h⟩
theorem overB_some {k : List Bool → Option Dt} {x d : Dt} (h : overB k x = some d) : ∃ ns, x.items = some (ns.map .bl) ∧ k ns = some d := by
  unfold overB at h
  cases e : x.items with
  | none => rw [e] at h; cases h
  | some ds =>
    rw [e] at h
    cases e2 : asB ds with
    | none => rw [Option.bind_some, e2] at h; cases h
    | some ns => rw [Option.bind_some, e2] at h; exact ⟨ns, by rw [boos_some e2], h⟩
def sumD : Dt → Option Dt := overI fun ns => some (.int ns.sum)
def minD : Dt → Option Dt := overI fun ns => if ns = [] then none else some (.int (minL ns))
def maxD : Dt → Option Dt := overI fun ns => if ns = [] then none else some (.int (maxL ns))
def allD : Dt → Option Dt := overB fun bs => some (.bl (bs.all id))
def anyD : Dt → Option Dt := overB fun bs => some (.bl (bs.any id))
theorem sum_ok : UnD X (rSum X.K) sumD := fun x H Q P dx d _ r1 e q => by
  obtain ⟨ns, h1, h2⟩ := overI_some e
  cases h2
  obtain ⟨a, vs, rfl, h3, h4⟩ := items_rep r1 h1
  exact ⟨a, ns, rfl, by rw [← h4.ints]; exact h3, q _ H Ext.refl rfl⟩
theorem min_ok : UnD X (rMin X.K) minD := fun x H Q P dx d _ r1 e q => by
  obtain ⟨ns, h1, h2⟩ := overI_some e
  split at h2
  · cases h2
  · rename_i hn
    cases h2
    obtain ⟨a, vs, rfl, h3, h4⟩ := items_rep r1 h1
    exact ⟨a, ns, rfl, by rw [← h4.ints]; exact h3, List.length_pos_iff.mpr hn, fun m hm hk => q _ H Ext.refl (by rw [minL_of hm hk]; rfl)⟩
theorem max_ok : UnD X (rMax X.K) maxD := fun x H Q P dx d _ r1 e q => by
  obtain ⟨ns, h1, h2⟩ := overI_some e
  split at h2
  · cases h2
  · rename_i hn
    cases h2
    obtain ⟨a, vs, rfl, h3, h4⟩ := items_rep r1 h1
    exact ⟨a, ns, rfl, by rw [← h4.ints]; exact h3, List.length_pos_iff.mpr hn, fun m hm hk => q _ H Ext.refl (by rw [maxL_of hm hk]; rfl)⟩
theorem all_ok : UnD X (rAll X.K) allD := fun x H Q P dx d _ r1 e q => by
  obtain ⟨ns, h1, h2⟩ := overB_some e
  cases h2
  obtain ⟨a, vs, rfl, h3, h4⟩ := items_rep r1 h1
  exact ⟨a, ns, rfl, by rw [← h4.bls]; exact h3, q _ H Ext.refl rfl⟩
theorem any_ok : UnD X (rAny X.K) anyD := fun x H Q P dx d _ r1 e q => by
  obtain ⟨ns, h1, h2⟩ := overB_some e
  cases h2
  obtain ⟨a, vs, rfl, h3, h4⟩ := items_rep r1 h1
  exact ⟨a, ns, rfl, by rw [← h4.bls]; exact h3, q _ H Ext.refl rfl⟩
theorem dSum (hm : X.mg "sum" = none) (ha : PB X W e f) (hc : X.calm = true := by rfl) (hg : Gl X "sum" := by rfl) (he : starEach [e] X.env = [(false, eval e X.env)] := by rfl) : PD X W (.Call (.Name "sum" p) [e] [] pos) (un sumD f) :=
  pd_b1 (cr_sum hc) sum_ok (by decide +kernel) (by decide) (by decide) hm ha hg he
theorem dMin (hm : X.mg "min" = none) (ha : PB X W e f) (hc : X.calm = true := by rfl) (hg : Gl X "min" := by rfl) (he : starEach [e] X.env = [(false, eval e X.env)] := by rfl) : PD X W (.Call (.Name "min" p) [e] [] pos) (un minD f) :=
  pd_b1 (cr_min hc) min_ok (by decide +kernel) (by decide) (by decide) hm ha hg he
theorem dMax (hm : X.mg "max" = none) (ha : PB X W e f) (hc : X.calm = true := by rfl) (hg : Gl X "max" := by rfl) (he : starEach [e] X.env = [(false, eval e X.env)] := by rfl) : PD X W (.Call (.Name "max" p) [e] [] pos) (un maxD f) :=
  pd_b1 (cr_max hc) max_ok (by decide +kernel) (by decide) (by decide) hm ha hg he
theorem dAll (hm : X.mg "all" = none) (ha : PB X W e f) (hc : X.calm = true := by rfl) (hg : Gl X "all" := by rfl) (he : starEach [e] X.env = [(false, eval e X.env)] := by rfl) : PD X W (.Call (.Name "all" p) [e] [] pos) (un allD f) :=
  pd_b1 (cr_all hc) all_ok (by decide +kernel) (by decide) (by decide) hm ha hg he
theorem dAny (hm : X.mg "any" = none) (ha : PB X W e f) (hc : X.calm = true := by rfl) (hg : Gl X "any" := by rfl) (he : starEach [e] X.env = [(false, eval e X.env)] := by rfl) : PD X W (.Call (.Name "any" p) [e] [] pos) (un anyD f) :=
  pd_b1 (cr_any hc) any_ok (by decide +kernel) (by decide) (by decide) hm ha hg he
def max2D : O2
  | .int i, .int j => some (.int (if j > i then j else i))
  | _, _ => none
def min2D : O2
  | .int i, .int j => some (.int (if j < i then j else i))
  | _, _ => none
theorem max2_ok : BiD X (fun xs H Q => ∃ i j, xs = [.int i, .int j] ∧ Q (.int (if j > i then j else i)) H) max2D := fun x y H Q P dx dy d _ r1 r2 e q => by
  unfold max2D at e
  split at e
  · cases e
    have e1 : x = V.int _ := r1
    have e2 : y = V.int _ := r2
    exact ⟨_, _, by rw [e1, e2], q _ H Ext.refl rfl⟩
  · cases e
theorem min2_ok : BiD X (fun xs H Q => ∃ i j, xs = [.int i, .int j] ∧ Q (.int (if j < i then j else i)) H) min2D := fun x y H Q P dx dy d _ r1 r2 e q => by
  unfold min2D at e
  split at e
  · cases e
    have e1 : x = V.int _ := r1
    have e2 : y = V.int _ := r2
    exact ⟨_, _, by rw [e1, e2], q _ H Ext.refl rfl⟩
  · cases e
theorem dMax2 (hm : X.mg "max" = none) (ha : PB X W e f) (hb : PB X W b g) (hc : X.calm = true := by rfl) (hg : Gl X "max" := by rfl) (he : starEach [e, b] X.env = (false, eval e X.env) :: starEach [b] X.env := by rfl) (he2 : starEach [b] X.env = [(false, eval b X.env)] := by rfl)
    (hpl : (backTo pos (starEach [b] X.env)).any (·.1) = false := by rfl) : PD X W (.Call (.Name "max" p) [e, b] [] pos) (bin max2D f g) := pd_b2 (call_max2 hc) max2_ok (by decide +kernel) (by decide) (by decide) hm ha hb hg he he2 hpl
theorem dMin2 (hm : X.mg "min" = none) (ha : PB X W e f) (hb : PB X W b g) (hc : X.calm = true := by rfl) (hg : Gl X "min" := by rfl) (he : starEach [e, b] X.env = (false, eval e X.env) :: starEach [b] X.env := by rfl) (he2 : starEach [b] X.env = [(false, eval b X.env)] := by rfl)
    (hpl : (backTo pos (starEach [b] X.env)).any (·.1) = false := by rfl) : PD X W (.Call (.Name "min" p) [e, b] [] pos) (bin min2D f g) := pd_b2 (call_min2 hc) min2_ok (by decide +kernel) (by decide) (by decide) hm ha hb hg he he2 hpl
/-! lists and tuples made of lists and tuples -/
def tupD : Dt → Option Dt
  | .lst xs => some (.tup xs)
  | .tup xs => some (.tup xs)
  | _ => none
theorem tuple_ok : UnD X (fun xs H Q => ∃ p ys, xs = [.ref p] ∧ ((SqL X.K H p ys ∧ ∀ l, H l = none → Q (.ref l) (upd H l (.tup ys))) ∨ (SqT X.K H p ys ∧ Q (.ref p) H))) tupD := fun x H Q P dx d tk r1 e q => by
  unfold tupD at e
  split at e
  · cases e
    obtain ⟨a, vs, rfl, h1, h2⟩ := r1
    exact ⟨a, vs, rfl, .inl ⟨.of h1, fun l hl => q _ _ (Ext.new hl) ⟨l, vs, rfl, .of upd_same, h2.ext (Ext.new hl)⟩⟩⟩
  · cases e
    obtain ⟨a, vs, rfl, h1, h2⟩ := r1
    exact ⟨a, vs, rfl, .inr ⟨h1, q _ H Ext.refl ⟨a, vs, rfl, h1, h2⟩⟩⟩
  · cases e
theorem dTuple (hm : X.mg "tuple" = none) (ha : PB X W e f) (hg : Gl X "tuple" := by rfl) (he : starEach [e] X.env = [(false, eval e X.env)] := by rfl) : PD X W (.Call (.Name "tuple" p) [e] [] pos) (un tupD f) :=
  pd_t1 call_tuple_of tuple_ok (by decide +kernel) (by decide) (by decide) hm ha hg he
def listD : Dt → Option (List Dt)
  | .lst xs => some xs
  | .frl xs => some xs
  | .tup xs => some xs
  | _ => none
theorem list_ok : UnN X (fun xs H Q => ∃ p ys, xs = [.ref p] ∧ (SqL X.K H p ys ∨ SqT X.K H p ys) ∧ ∀ l, H l = none → Q (.ref l) (upd H l (.lst ys))) listD := fun x H Q P dx d tk r1 e q => by
  have fin : ∀ {vs : List V}, Reps X.K X.mg H P d vs → ∀ l, H l = none → Q (.ref l) (upd H l (.lst vs)) := fun h2 l hl => q l _ _ (Ext.new hl) (.of hl) upd_same ((Reps.tr (Tr.more (.of hl)) _ _ h2).ext (Ext.new hl))
  unfold listD at e
  split at e
  · cases e
    obtain ⟨a, vs, rfl, h1, h2⟩ := r1
    exact ⟨a, vs, rfl, .inl (.of h1), fin h2⟩
  · cases e
    obtain ⟨a, vs, rfl, h1, h2⟩ := r1
    exact ⟨a, vs, rfl, .inl h1.sq, fin h2⟩
  · cases e
    obtain ⟨a, vs, rfl, h1, h2⟩ := r1
    exact ⟨a, vs, rfl, .inr h1, fin h2⟩
  · cases e
theorem nList (hm : X.mg "list" = none) (ha : PB X W e f) (hg : Gl X "list" := by rfl) (he : starEach [e] X.env = [(false, eval e X.env)] := by rfl) : PN X W (.Call (.Name "list" p) [e] [] pos) (unN listD f) :=
  pn_t1 call_list_of list_ok (by decide +kernel) (by decide) (by decide) hm ha hg he
end DL
end
section
set_option Elab.async false
set_option linter.all false
set_option maxRecDepth 100000
set_option autoImplicit false
namespace DL
open PySem PySem.Spec PyProof.Rows L2
variable [TbC]
variable {X : Cx} {W : WX} {e a b c : Expr} {es rest : List Expr} {f g h : Fn} {pos p : Pos}

/-! ### what is walked -/
/-- J yields the items ds, as long as the heap is kept as Kp says -/
structure ItOk (K : PySem.W.Frag) (mg : Mg) (Kp : Hp → Hp → Prop) (P : Pv) (J : It) (ds : List Dt) (H : Hp) : Prop where
  go : ∀ (i : Nat) (H2 : Hp) (d : Dt), Kp H H2 → ds[i]? = some d → J.go i H2 ∧ ∀ x H3, J.yld i H2 x H3 → H3 = H2 ∧ Rep K mg H P d x
  stop : ∀ (i : Nat) (H2 : Hp), Kp H H2 → ds.length ≤ i → J.stop i H2
abbrev KE : Pv → Hp → Hp → Prop := fun _ => Ext
abbrev KS : Pv → Hp → Hp → Prop := fun P => Tr P P
def tI (X : Cx) (W : WX) (Kp : Pv → Hp → Hp → Prop) (f : Fs) : TI := fun σ H R => ∃ P ε, EOk X.K X.mg P σ H ε ∧ Out X W σ H (f ε) fun ds => ∀ J H', Ext H H' → ItOk X.K X.mg (Kp P) P J ds H' → R J H'
def ID (X : Cx) (W : WX) (tg iter : Expr) (f : Fs) : Prop := PI X tg iter (tI X W KE f)
def IS (X : Cx) (W : WX) (tg iter : Expr) (f : Fs) : Prop := PI X tg iter (tI X W KS f)
theorem pi_weak {tg iter : Expr} {t t' : TI} (h : PI X tg iter t) (k : ∀ σ H R, t' σ H R → t σ H R) : PI X tg iter t' := ⟨fun pins s σ H R I q => h.run pins s σ H R I (k σ H R q)⟩
theorem pi_or {tg iter : Expr} {t t' : TI} (h : PI X tg iter t) (h' : PI X tg iter t') : PI X tg iter (fun σ H R => t σ H R ∨ t' σ H R) := ⟨fun pins s σ H R I q => q.elim (h.run pins s σ H R I) (h'.run pins s σ H R I)⟩
theorem it_list {Kp : Hp → Hp → Prop} {P : Pv} {H : Hp} {a : Addr} {ds : List Dt} {vs : List V} (hk : ∀ H2, Kp H H2 → SqL X.K H2 a vs) (huniq : ∀ H2, Kp H H2 → ∀ xs, SqL X.K H2 a xs → True) (r : Reps X.K X.mg H P ds vs) : ItOk X.K X.mg Kp P (Itl X.K a) ds H := by
  refine ⟨fun i H2 d k hd => ?_, fun i H2 k hi => ⟨vs, hk H2 k, by rw [← r.length]; exact hi⟩⟩
  obtain ⟨v, h1, h2⟩ := r.get hd
  refine ⟨⟨vs, v, hk H2 k, h1⟩, fun x H3 y => ⟨y.1, ?_⟩⟩
  have z := y.2 vs (hk H2 k)
  rw [h1] at z
  cases z
  exact h2
theorem it_tup {Kp : Hp → Hp → Prop} {P : Pv} {H : Hp} {a : Addr} {ds : List Dt} {vs : List V} (hk : ∀ H2, Kp H H2 → SqT X.K H2 a vs) (r : Reps X.K X.mg H P ds vs) : ItOk X.K X.mg Kp P (Itt X.K a) ds H := by
  refine ⟨fun i H2 d k hd => ?_, fun i H2 k hi => ⟨vs, hk H2 k, by rw [← r.length]; exact hi⟩⟩
  obtain ⟨v, h1, h2⟩ := r.get hd
  refine ⟨⟨vs, v, hk H2 k, h1⟩, fun x H3 y => ⟨y.1, ?_⟩⟩
  have z := y.2 vs (hk H2 k)
  rw [h1] at z
  cases z
  exact h2
def signs (z : Str) : List Dt := z.cps.toList.map fun c => .str ⟨#[c]⟩
theorem it_str {Kp : Hp → Hp → Prop} {P : Pv} {H : Hp} {z : Str} : ItOk X.K X.mg Kp P (Its z) (signs z) H := by
  refine ⟨fun i H2 d k hd => ?_, fun i H2 k hi => ?_⟩
  · unfold signs at hd
    rw [List.getElem?_map] at hd
    cases q : z.cps.toList[i]? with
    | none => rw [q] at hd; cases hd
    | some c =>
      rw [q] at hd
      cases hd
      have hi : i < z.cps.toList.length := (List.getElem?_eq_some_iff.mp q).1
      refine ⟨show i < z.cps.size by simpa using hi, fun x H3 y => ⟨y.1, ?_⟩⟩
      obtain ⟨c', h1, h2⟩ := y.2
      rw [Array.getElem?_toList] at q
      rw [q] at h1
      cases h1
      exact h2
  · unfold signs at hi
    have : z.cps.size ≤ i := by simpa using hi
    exact this
def walked : Dt → Option (List Dt)
  | .lst xs => some xs
  | .frl xs => some xs
  | .tup xs => some xs
  | .str z => some (signs z)
  | _ => none
def iterF (f : Fn) : Fs := fun ε => (f ε).bind fun x => .ofO (walked x)
theorem itB {tg : Expr} (ha : PB X W e f) : ID X W tg e (iterF f) := pi_weak (pi_or (pi_list ha) (pi_or (pi_tup ha) (pi_str ha))) fun σ H R ⟨P, ε, E, q⟩ => by
  have q := q.bind
  cases hf : f ε with
  | bad => rw [hf] at q; exact q.elim
  | ex c =>
    rw [hf] at q
    exact .inl ⟨P, ε, E, by rw [hf]; exact q⟩
  | ok x =>
    rw [hf] at q
    obtain ⟨ds, h1, q⟩ := Out.ofO (show Out X W σ H (.ofO (walked x)) _ from q)
    cases x with
    | lst xs =>
      cases h1
      refine .inl ⟨P, ε, E, ?_⟩
      rw [hf]
      intro v H1 e1 r1
      obtain ⟨a, vs, rfl, h2, h3⟩ := r1
      exact ⟨a, rfl, ⟨vs, .of h2⟩, q _ H1 e1 (it_list (fun H2 k => .of (k.at_ h2 nt_lst)) (fun _ _ _ _ => trivial) h3)⟩
    | frl xs =>
      cases h1
      refine .inl ⟨P, ε, E, ?_⟩
      rw [hf]
      intro v H1 e1 r1
      obtain ⟨a, vs, rfl, h2, h3⟩ := r1
      exact ⟨a, rfl, ⟨vs, h2.sq⟩, q _ H1 e1 (it_list (fun H2 k => k.sqL h2.sq) (fun _ _ _ _ => trivial) h3)⟩
    | tup xs =>
      cases h1
      refine .inr (.inl ⟨P, ε, E, ?_⟩)
      rw [hf]
      intro v H1 e1 r1
      obtain ⟨a, vs, rfl, h2, h3⟩ := r1
      exact ⟨a, rfl, ⟨vs, h2⟩, q _ H1 e1 (it_tup (fun H2 k => k.sqT h2) h3)⟩
    | str z =>
      cases h1
      refine .inr (.inr ⟨P, ε, E, ?_⟩)
      rw [hf]
      intro v H1 e1 r1
      exact ⟨z, r1, q _ H1 e1 it_str⟩
    | non => cases h1
    | bl _ => cases h1
    | int _ => cases h1
    | ins _ _ _ => cases h1
    | fn _ _ _ _ _ => cases h1
theorem itS {tg : Expr} (ha : PD X W e f) : IS X W tg e (iterF f) := pi_weak (pi_or (pi_list ha) (pi_or (pi_tup ha) (pi_str ha))) fun σ H R ⟨P, ε, E, q⟩ => by
  have q := q.bind
  cases hf : f ε with
  | bad => rw [hf] at q; exact q.elim
  | ex c =>
    rw [hf] at q
    exact .inl ⟨P, ε, E, by rw [hf]; exact q⟩
  | ok x =>
    rw [hf] at q
    obtain ⟨ds, h1, q⟩ := Out.ofO (show Out X W σ H (.ofO (walked x)) _ from q)
    cases x with
    | lst xs =>
      cases h1
      refine .inl ⟨P, ε, E, ?_⟩
      rw [hf]
      intro v H1 e1 r1
      obtain ⟨a, vs, rfl, h2, n, h3⟩ := r1
      exact ⟨a, rfl, ⟨vs, .of h2⟩, q _ H1 e1 (it_list (fun H2 k => .of (k.keep _ _ h2 nt_lst n)) (fun _ _ _ _ => trivial) h3)⟩
    | frl xs =>
      cases h1
      refine .inl ⟨P, ε, E, ?_⟩
      rw [hf]
      intro v H1 e1 r1
      obtain ⟨a, vs, rfl, h2, h3⟩ := r1
      exact ⟨a, rfl, ⟨vs, h2.sq⟩, q _ H1 e1 (it_list (fun H2 k => (k.sqF h2).sq) (fun _ _ _ _ => trivial) h3)⟩
    | tup xs =>
      cases h1
      refine .inr (.inl ⟨P, ε, E, ?_⟩)
      rw [hf]
      intro v H1 e1 r1
      obtain ⟨a, vs, rfl, h2, h3⟩ := r1
      exact ⟨a, rfl, ⟨vs, h2⟩, q _ H1 e1 (it_tup (fun H2 k => k.sqT h2) h3)⟩
    | str z =>
      cases h1
      refine .inr (.inr ⟨P, ε, E, ?_⟩)
      rw [hf]
      intro v H1 e1 r1
      exact ⟨z, r1, q _ H1 e1 it_str⟩
    | non => cases h1
    | bl _ => cases h1
    | int _ => cases h1
    | ins _ _ _ => cases h1
    | fn _ _ _ _ _ => cases h1
/-- range(n) -/
def upTo (lo : Int) (n : Nat) : List Dt := (List.range n).map fun (i : Nat) => Dt.int (lo + i)
theorem it_rng {Kp : Hp → Hp → Prop} {P : Pv} {H : Hp} {lo : Int} {n : Nat} : ItOk X.K X.mg Kp P (Itr lo n) (upTo lo n) H := by
  refine ⟨fun i H2 d k hd => ?_, fun i H2 k hi => show n ≤ i by simpa [upTo] using hi⟩
  unfold upTo at hd
  by_cases hn : i < n
  · rw [List.getElem?_map, List.getElem?_range hn] at hd
    cases hd
    exact ⟨hn, fun x H3 y => ⟨y.1, y.2⟩⟩
  · rw [List.getElem?_eq_none (by simpa using hn)] at hd
    cases hd
def rngD : Dt → Option (List Dt)
  | .int j => if -(2 ^ 62) ≤ j ∧ j < 2 ^ 62 then some (upTo 0 j.toNat) else none
  | _ => none
def rngF (f : Fn) : Fs := fun ε => (f ε).bind fun x => .ofO (rngD x)
theorem tI_rng {Kp : Pv → Hp → Hp → Prop} {σ : St} {H : Hp} {R : It → Hp → Prop} (h : tI X W Kp (rngF f) σ H R) : iRng1 (tCons (tB X W f) tNil) σ H R := by
  obtain ⟨P, ε, E, q⟩ := h
  exact ⟨P, ε, E, q.bind.mono fun d q v H1 e1 r1 => by
    obtain ⟨ds, h1, q⟩ := q.ofO
    cases d with
    | int j =>
      unfold rngD at h1
      dsimp only at h1
      split at h1
      · rename_i hz
        cases h1
        have e2 : v = V.int j := r1
        exact ⟨j, by rw [e2], hz.1, hz.2, q _ H1 e1 it_rng⟩
      · cases h1
    | _ => cases h1⟩
theorem itR {tg : Expr} (hm : X.mg "range" = none) (ha : PB X W e f) (hg : Gl X "range" := by rfl) (he : starEach [e] X.env = [(false, eval e X.env)] := by rfl) : ID X W tg (.Call (.Name "range" p) [e] [] pos) (rngF f) :=
  pi_weak (pi_range1 hg hm (pa_cons ha pa_nil he) he) fun _ _ _ h => tI_rng h
theorem itRS {tg : Expr} (hm : X.mg "range" = none) (ha : PB X W e f) (hg : Gl X "range" := by rfl) (he : starEach [e] X.env = [(false, eval e X.env)] := by rfl) : IS X W tg (.Call (.Name "range" p) [e] [] pos) (rngF f) :=
  pi_weak (pi_range1 hg hm (pa_cons ha pa_nil he) he) fun _ _ _ h => tI_rng h

/-! ### targets -/
abbrev Sf := Dt → Ev → Option Ev
structure SameBut (js : List Nat) (σ σ' : St) : Prop where
  ln : σ'.length = σ.length
  at_ : ∀ i, i ∉ js → σ'[i]? = σ[i]?
structure SetOk (js : List Nat) (set : Sf) : Prop where
  ln : ∀ d ε ε', set d ε = some ε' → ε'.length = ε.length
  out : ∀ d ε ε', set d ε = some ε' → ∀ i, i ∉ js → ε'[i]? = ε[i]?
  in_ : ∀ d ε ε', set d ε = some ε' → ∀ i ∈ js, ∀ l, ε'[i]? = some l → ∃ x, l = .d x
def gD (X : Cx) (js : List Nat) (set : Sf) : TG := fun v σ H Q => ∃ P ε d ε', EOk X.K X.mg P σ H ε ∧ Rep X.K X.mg H P d v ∧ set d ε = some ε' ∧ ∀ σ', EOk X.K X.mg P σ' H ε' → SameBut js σ σ' → Q σ' H
structure GD (X : Cx) (tg : Expr) (js : List Nat) (set : Sf) : Prop where
  run : PG X tg (gD X js set)
  ok : SetOk js set
theorem pg_weak {tg : Expr} {t t' : TG} (h : PG X tg t) (k : ∀ v σ H Q, t' v σ H Q → t v σ H Q) : PG X tg t' := ⟨fun pins s σ H v u Q I r q => h.run pins s σ H v u Q I r (k v σ H Q q)⟩
theorem pgs_weak {tg : List Expr} {t t' : TGs} (h : PGs X tg t) (k : ∀ v σ H Q, t' v σ H Q → t v σ H Q) : PGs X tg t' := ⟨fun pins s σ H v u Q I r q => h.run pins s σ H v u Q I r (k v σ H Q q)⟩
theorem EOk.set {K : PySem.W.Frag} {mg : Mg} {P : Pv} {σ : St} {H : Hp} {ε : Ev} (E : EOk K mg P σ H ε) {d : Dt} {v : V} (r : Rep K mg H P d v) (i : Nat) : EOk K mg P (σ.set i (some v)) H (ε.set i (.d d)) := by
  refine ⟨by rw [List.length_set, List.length_set, E.ln], E.tk, fun j l h => ?_, E.tb⟩
  by_cases hj : i = j
  · subst hj
    by_cases hi : i < ε.length
    · rw [List.getElem?_set_self hi] at h
      cases h
      rw [List.getElem?_set_self (by rw [← E.ln]; exact hi)]
      exact ⟨v, rfl, r⟩
    · rw [List.getElem?_eq_none (by rw [List.length_set]; omega)] at h
      cases h
  · rw [List.getElem?_set_ne hj] at h ⊢
    exact E.sl j l h
def setN (i : Nat) : Sf := fun d ε => some (ε.set i (.d d))
theorem setN_ok (i : Nat) : SetOk [i] (setN i) := ⟨fun d ε ε' h => by cases h; exact List.length_set, fun d ε ε' h j hj => by cases h; exact List.getElem?_set_ne (fun z => hj (by simp [z])), fun d ε ε' h j hj l hl => by
  cases h
  have e : j = i := by simpa using hj
  subst e
  by_cases hi : j < ε.length
  · rw [List.getElem?_set_self hi] at hl; cases hl; exact ⟨d, rfl⟩
  · rw [List.getElem?_eq_none (by rw [List.length_set]; omega)] at hl; cases hl⟩
theorem gdN {i : Nat} {x : Str} (hN : X.N.Nodup) (hi : X.N[i]? = some x) (hx : Loc X.env.scope x) (hf : X.fn x = true ∨ X.env.scope.names.lookup x = some .local := by first | exact .inl rfl | exact .inr rfl | assumption) : GD X (.Name x pos) [i] (setN i) :=
  ⟨pg_weak (pg_name hN hi hx hf) fun v σ H Q ⟨P, ε, d, ε', E, r, hs, q⟩ => by
    cases hs
    exact q _ (E.set r i) ⟨List.length_set, fun j hj => List.getElem?_set_ne (fun z => hj (by simp [z]))⟩, setN_ok i⟩
/-- several targets -/
abbrev Ss := List Dt → Ev → Option Ev
def gDs (X : Cx) (js : List Nat) (set : Ss) : TGs := fun vs σ H Q => ∃ P ε ds ε', EOk X.K X.mg P σ H ε ∧ Reps X.K X.mg H P ds vs ∧ set ds ε = some ε' ∧ ∀ σ', EOk X.K X.mg P σ' H ε' → SameBut js σ σ' → Q σ' H
structure SetsOk (js : List Nat) (set : Ss) : Prop where
  ln : ∀ d ε ε', set d ε = some ε' → ε'.length = ε.length
  out : ∀ d ε ε', set d ε = some ε' → ∀ i, i ∉ js → ε'[i]? = ε[i]?
  in_ : ∀ d ε ε', set d ε = some ε' → ∀ i ∈ js, ∀ l, ε'[i]? = some l → ∃ x, l = .d x
structure GDs (X : Cx) (tg : List Expr) (js : List Nat) (set : Ss) : Prop where
  run : PGs X tg (gDs X js set)
  ok : SetsOk js set
def setNil : Ss := fun ds ε => match ds with
  | [] => some ε
  | _ => none
def setCons (s : Sf) (t : Ss) : Ss := fun ds ε => match ds with
  | d :: r => (s d ε).bind (t r)
  | [] => none
theorem gds_nil : GDs X [] [] setNil := ⟨pgs_weak pgs_nil fun vs σ H Q ⟨P, ε, ds, ε', E, r, hs, q⟩ => by
  cases ds with
  | nil => cases hs; exact ⟨r, q σ E ⟨rfl, fun _ _ => rfl⟩⟩
  | cons d r => (cases hs), ⟨fun d ε ε' h => by cases d <;> cases h; rfl, fun d ε ε' h i _ => by cases d <;> cases h; rfl, fun _ _ _ _ _ h => nomatch h⟩⟩
theorem gds_cons {tg : Expr} {tgs : List Expr} {js ks : List Nat} {s : Sf} {t : Ss} (h1 : GD X tg js s) (h2 : GDs X tgs ks t) (hs : (assignEach (tg :: tgs) X.env).map (·.2) = assign tg X.env :: (assignEach tgs X.env).map (·.2) := by rfl) : GDs X (tg :: tgs) (js ++ ks) (setCons s t) := by
  refine ⟨pgs_weak (pgs_cons h1.run h2.run hs) fun vs σ H Q ⟨P, ε, ds, ε', E, r, hs, q⟩ => ?_, ?_⟩
  · cases ds with
    | nil => cases hs
    | cons d ds =>
      obtain ⟨v, vr, rfl, r1, r2⟩ := r
      obtain ⟨ε1, s1, s2⟩ := Option.bind_eq_some_iff.mp (show (s d ε).bind (t ds) = some ε' from hs)
      refine ⟨v, vr, rfl, P, ε, d, ε1, E, r1, s1, fun σ1 E1 b1 => ⟨P, ε1, ds, ε', E1, r2, s2, fun σ2 E2 b2 => q σ2 E2 ⟨b2.ln.trans b1.ln, fun i hi => ?_⟩⟩⟩
      rw [List.mem_append, not_or] at hi
      rw [b2.at_ i hi.2, b1.at_ i hi.1]
  · refine ⟨fun d ε ε' h => ?_, fun d ε ε' h i hi => ?_, fun d ε ε' h i hi l hl => ?_⟩
    all_goals
      cases d with
      | nil => cases h
      | cons d ds => ?_
    · obtain ⟨ε1, s1, s2⟩ := Option.bind_eq_some_iff.mp (show (s d ε).bind (t ds) = some ε' from h)
      rw [h2.ok.ln _ _ _ s2, h1.ok.ln _ _ _ s1]
    · obtain ⟨ε1, s1, s2⟩ := Option.bind_eq_some_iff.mp (show (s d ε).bind (t ds) = some ε' from h)
      rw [List.mem_append, not_or] at hi
      rw [h2.ok.out _ _ _ s2 i hi.2, h1.ok.out _ _ _ s1 i hi.1]
    · obtain ⟨ε1, s1, s2⟩ := Option.bind_eq_some_iff.mp (show (s d ε).bind (t ds) = some ε' from h)
      by_cases hk : i ∈ ks
      · exact h2.ok.in_ _ _ _ s2 i hk l hl
      · rw [h2.ok.out _ _ _ s2 i hk] at hl
        exact h1.ok.in_ _ _ _ s1 i ((List.mem_append.mp hi).resolve_right hk) l hl
/-- unpacking -/
def setT (n : Nat) (t : Ss) : Sf := fun d ε => match d with
  | .tup ds => if ds.length = n then t ds ε else none
  | .lst ds => if ds.length = n then t ds ε else none
  | _ => none
theorem setT_some {n : Nat} {t : Ss} {d : Dt} {ε ε' : Ev} (h : setT n t d ε = some ε') : ∃ ds, (d = .tup ds ∨ d = .lst ds) ∧ ds.length = n ∧ t ds ε = some ε' := by
  cases d with
  | tup ds =>
    by_cases z : ds.length = n
    · rw [setT, if_pos z] at h; exact ⟨ds, .inl rfl, z, h⟩
    · rw [setT, if_neg z] at h; cases h
  | lst ds =>
    by_cases z : ds.length = n
    · rw [setT, if_pos z] at h; exact ⟨ds, .inr rfl, z, h⟩
    · rw [setT, if_neg z] at h; cases h
  | _ => cases h
theorem pg_or {tg : Expr} {t t' : TG} (h : PG X tg t) (h' : PG X tg t') : PG X tg (fun v σ H Q => t v σ H Q ∨ t' v σ H Q) := ⟨fun pins s σ H v u Q I r q => q.elim (h.run pins s σ H v u Q I r) (h'.run pins s σ H v u Q I r)⟩
theorem gdT {tgs : List Expr} {k n : Nat} {js : List Nat} {t : Ss} (hc : X.calm = true) (h : GDs X tgs js t) (hn : (assignEach tgs X.env).length = n := by rfl) (hst : (assignEach tgs X.env).findIdx? (·.1) = none := by rfl) : GD X (.Tuple tgs k pos) js (setT n t) := by
  refine ⟨pg_weak (pg_or (pg_tup hc h.run hn hst) (pg_lst hc h.run hn hst)) fun v σ H Q ⟨P, ε, d, ε', E, r, hs, q⟩ => ?_, ?_⟩
  · obtain ⟨ds, hd, hl, hs'⟩ := setT_some hs
    rcases hd with rfl | rfl
    · obtain ⟨a, vs, rfl, h1, h2⟩ := r
      exact .inl ⟨a, vs, rfl, h1, by rw [← h2.length]; exact hl, P, ε, ds, ε', E, h2, hs', q⟩
    · obtain ⟨a, vs, rfl, h1, _, h2⟩ := r
      exact .inr ⟨a, vs, rfl, .of h1, by rw [← h2.length]; exact hl, P, ε, ds, ε', E, h2, hs', q⟩
  · refine ⟨fun d ε ε' z => ?_, fun d ε ε' z i hi => ?_, fun d ε ε' z i hi l hl => ?_⟩
    all_goals obtain ⟨ds, _, _, z⟩ := setT_some z
    · exact h.ok.ln _ _ _ z
    · exact h.ok.out _ _ _ z i hi
    · exact h.ok.in_ _ _ _ z i hi l hl

/-! ### comprehensions -/
def Rz.val {ε α : Type} : Rz ε α → Option α
  | .ok a => some a
  | _ => none
def wipeE (ε : Ev) : List Nat → Ev
  | [] => ε
  | v :: vs => (wipeE ε vs).set v .u
theorem EOk.wipe {K : PySem.W.Frag} {mg : Mg} {P : Pv} {σ : St} {H : Hp} {ε : Ev} (E : EOk K mg P σ H ε) : ∀ vs : List Nat, EOk K mg P (wipe σ vs) H (wipeE ε vs)
  | [] => E
  | v :: vs => by
    have I := EOk.wipe E vs
    refine ⟨by rw [wipeE, L2.wipe, List.length_set, List.length_set, I.ln], E.tk, fun j l h => ?_, E.tb⟩
    rw [wipeE] at h
    rw [L2.wipe]
    by_cases hj : v = j
    · subst hj
      by_cases hi : v < (wipeE ε vs).length
      · rw [List.getElem?_set_self hi] at h
        cases h
        trivial
      · rw [List.getElem?_eq_none (by rw [List.length_set]; omega)] at h
        cases h
    · rw [List.getElem?_set_ne hj] at h ⊢
      exact I.sl j l h
theorem wipe_same {js : List Nat} : ∀ {vs : List Nat} {σ σ' : St}, SameBut js (wipe σ vs) σ' → (∀ j ∈ js, j ∈ vs) → wipe σ' vs = wipe σ vs := by
  intro vs σ σ' h hj
  refine List.ext_getElem? fun i => ?_
  have ln : ∀ (vs : List Nat) (s : St), (wipe s vs).length = s.length := fun vs s => wipe_length s vs
  have inn : ∀ (vs : List Nat) (s : St), i ∈ vs → i < s.length → (wipe s vs)[i]? = some none := by
    intro vs
    induction vs with
    | nil => intro s z; cases z
    | cons v r ih =>
      intro s z hl
      rw [L2.wipe]
      by_cases e : v = i
      · subst e; rw [List.getElem?_set_self (by rw [ln]; exact hl)]
      · rw [List.getElem?_set_ne e]
        exact ih s ((List.mem_cons.mp z).resolve_left (fun q => e q.symm)) hl
  by_cases hi : i ∈ vs
  · by_cases hl : i < σ.length
    · rw [inn vs σ hi hl, inn vs σ' hi (by rw [h.ln, ln]; exact hl)]
    · rw [List.getElem?_eq_none (by rw [ln, h.ln, ln]; omega), List.getElem?_eq_none (by rw [ln]; omega)]
  · rw [wipe_out hi, h.at_ i (fun z => hi (hj i z))]
def lcGo (set : Sf) (test : Tf) (elt : Fn) (ε : Ev) : List Dt → Option (List Dt)
  | [] => some []
  | x :: xs => (set x ε).bind fun ε1 => (test ε1).val.bind fun b => if b = true then (elt ε1).val.bind fun y => (lcGo set test elt ε xs).map (y :: ·) else lcGo set test elt ε xs
def lcF (it : Fs) (own : List Nat) (set : Sf) (test : Tf) (elt : Fn) : Fs := fun ε => (it ε).bind fun xs => if xs.length < sizeLine then .ofO (lcGo set test elt (wipeE ε own) xs) else .bad
abbrev W0 : WX := fun _ _ _ _ => False
theorem Out.of0 {σ : St} {H : Hp} {α : Type} {r : Rz Str α} {k : α → Prop} {a : α} (h : r.val = some a) (q : k a) : Out X W σ H r k := by
  cases r with
  | ok b => cases h; exact q
  | _ => cases h
def yes : Tf := fun _ => .ok true
def TDs (X : Cx) (W : WX) (ifs : List Expr) (t : Tf) : Prop := PTs X ifs (tT X W t)
theorem pts_weak {ifs : List Expr} {t t' : TT} (h : PTs X ifs t) (k : ∀ σ H Q, t' σ H Q → t σ H Q) : PTs X ifs t' := ⟨fun pins s σ H Q I q => h.run pins s σ H Q I (k σ H Q q)⟩
theorem tds_nil : TDs X W [] yes := pts_weak pts_nil fun σ H Q ⟨P, ε, E, q⟩ => q H Ext.refl
theorem tds_one {t : Tf} (h : TD X W c t) : TDs X W [c] t := pts_one h
theorem take_one {α : Type} {l : List α} {i : Nat} {x : α} (h : l[i]? = some x) : l.drop i = x :: l.drop (i + 1) := by
  obtain ⟨h1, h2⟩ := List.getElem?_eq_some_iff.mp h
  rw [← h2]
  exact List.drop_eq_getElem_cons h1
/-- the loop of a comprehension -/
theorem lc_of {it : Fs} {own js : List Nat} {set : Sf} {test : Tf} {elt : Fn} {σ : St} {H : Hp} {Q : VK} (hset : SetOk js set) (hj : ∀ j ∈ js, j ∈ own) (h : tN X W (lcF it own set test elt) σ H Q) :
    tLc (tI X W KE it) (gD X js set) (tT X W0 test) (tD X W0 elt) own σ H Q := by
  obtain ⟨P, ε, E, q⟩ := h
  refine ⟨P, ε, E, q.bind.mono fun ds q J H1 e1 io D hD => ?_⟩
  by_cases hz : ds.length < sizeLine
  · rw [if_pos hz] at q
    obtain ⟨out, hout, q⟩ := q.ofO
    have E1 := E.ext e1
    have n1 : ∀ {b : Addr} {o : HO}, H1 b = some o → b ≠ D := fun h => ne_of_none h hD
    refine ⟨fun i m H2 => m = ds.length - i ∧ i ≤ ds.length ∧ Ext H1 H2 ∧ ∃ acc vs r, acc.length ≤ i ∧ H2 D = some (.lst vs) ∧ Reps X.K X.mg H2 (more P D) acc vs ∧ lcGo set test elt (wipeE ε own) (ds.drop i) = some r ∧ acc ++ r = out,
      ⟨ds.length, by simp, Nat.zero_le _, Ext.new hD, [], [], out, Nat.le_refl _, upd_same, rfl, by rw [List.drop_zero]; exact hout, rfl⟩, ?_⟩
    rintro i m H2 ⟨rfl, hi, e2, acc, vs, r, hl, hv, rs, hr, ho⟩
    have eD : Tr (more P D) (more P D) H1 H2 := Tr.of e2
    by_cases hlt : i < ds.length
    · have hd : ds[i]? = some ds[i] := List.getElem?_eq_getElem hlt
      obtain ⟨g1, g2⟩ := io.go i H2 _ e2 hd
      rw [take_one hd, lcGo] at hr
      obtain ⟨ε1, hs1, hr⟩ := Option.bind_eq_some_iff.mp hr
      obtain ⟨b, ht1, hr⟩ := Option.bind_eq_some_iff.mp hr
      refine .inr ⟨g1, fun H3 => Ext H1 H3 ∧ ∃ acc vs r, acc.length ≤ i + 1 ∧ H3 D = some (.lst vs) ∧ Reps X.K X.mg H3 (more P D) acc vs ∧ lcGo set test elt (wipeE ε own) (ds.drop (i + 1)) = some r ∧ acc ++ r = out,
        fun H3 z => ⟨ds.length - (i + 1), by omega, rfl, hlt, z⟩, fun x H3 y => ?_⟩
      obtain ⟨rfl, rx⟩ := g2 x H3 y
      have E2 : EOk X.K X.mg (more P D) (wipe σ own) H3 (wipeE ε own) := by
        have z := ((E1.new hD (o := .lst []) nt_lst).wipe own)
        refine ⟨z.ln, fun a ha => ?_, fun j l hjl => ?_, e2.tabs E1.tb⟩
        · rcases ha with ha | ha
          · obtain ⟨o, q1, q2⟩ := E1.tk a ha
            exact ⟨o, e2.at_ q1 q2, q2⟩
          · rw [ha]
            exact ⟨_, hv, nt_lst⟩
        · exact (((E1.wipe own).sl j l hjl).more (.of hD)).ext e2
      have rx2 : Rep X.K X.mg H3 (more P D) ds[i] x := (Rep.tr (Tr.more (.of hD)) _ _ rx).ext e2
      refine ⟨more P D, wipeE ε own, ds[i], ε1, E2, rx2, hs1, fun σ2 E3 sb => ⟨wipe_same sb hj, more P D, ε1, E3, .of0 ht1 fun H4 e4 => ?_⟩⟩
      cases b with
      | true =>
        rw [if_pos rfl] at hr ⊢
        obtain ⟨y, hy, hr⟩ := Option.bind_eq_some_iff.mp hr
        obtain ⟨r', hr', e5⟩ := Option.map_eq_some_iff.mp hr
        refine ⟨more P D, ε1, E3.ext e4, .of0 hy fun v H5 e5' ry => ?_⟩
        have e35 : Ext H3 H5 := e4.trans e5'
        have hv5 := e35.at_ hv nt_lst
        refine ⟨vs, hv5, by rw [← rs.length]; omega, Xt.putL (e2.trans e35) (.inl (.of hD)) hv5, acc ++ [y], vs ++ [v], r', by rw [List.length_append]; exact Nat.add_le_add_right hl 1, upd_same, ?_, hr', by rw [← ho, ← e5]; simp⟩
        exact (Reps.tr (Tr.write (P := more P D) (.inr rfl) (.inl ⟨_, hv5⟩)) _ _ ((rs.ext e35).append (.one ry)))
      | false =>
        rw [if_neg Bool.false_ne_true] at hr ⊢
        exact ⟨e2.trans e4, acc, vs, r, Nat.le_succ_of_le hl, e4.at_ hv nt_lst, rs.ext e4, hr, ho⟩
    · have ei : i = ds.length := by omega
      subst ei
      rw [List.drop_length, lcGo] at hr
      cases hr
      rw [List.append_nil] at ho
      subst ho
      exact .inl ⟨io.stop _ H2 e2 (Nat.le_refl _), q D vs H2 (e1.trans e2) (e1.fresh (.of hD)) hv rs⟩
  · rw [if_neg hz] at q
    exact q.elim
end DL
end
section
set_option Elab.async false
set_option linter.all false
set_option maxRecDepth 100000
set_option autoImplicit false
namespace DL
open PySem PySem.Spec PyProof.Rows L2
variable [TbC]
variable {X : Cx} {W : WX} {e a b c : Expr} {es rest : List Expr} {f g h : Fn} {pos p : Pos}
theorem pn_lc {elt tg iter : Expr} {ifs : List Expr} {scope : Scope} {own : List (Str × Nat)} {js : List Nat} {it : Fs} {set : Sf} {test : Tf} {k : Fn} (hc : X.calm = true) (hN : X.N.Nodup) (hi : ID X W tg iter it) (ok : BlkOk X.N X.env.scope scope own)
    (hg : ∀ (s : Shared) (H : Hp) (C : Addr) (cl : List (Str × Addr)) (fp : List Addr), GD (X.blk s H scope (compEnvC scope cl C X.env) fp) tg js set) (ht : ∀ (s : Shared) (H : Hp) (C : Addr) (cl : List (Str × Addr)) (fp : List Addr), TDs (X.blk s H scope (compEnvC scope cl C X.env) fp) W0 ifs test)
    (he : ∀ (s : Shared) (H : Hp) (C : Addr) (cl : List (Str × Addr)) (fp : List Addr), PD (X.blk s H scope (compEnvC scope cl C X.env) fp) W0 elt k) (hj : ∀ j ∈ js, j ∈ own.map (·.2) := by decide) (hs : ∀ x, foldedSetIterable iter X.env x = pure x := by intro _; rfl) :
    PN X W (.ListComp elt [⟨tg, iter, ifs, 0⟩] scope pos) (lcF it (own.map (·.2)) set test k) :=
  pe_weak (pe_lc (g := gD X js set) (tt := tT X W0 test) (te := tD X W0 k) hc hN hi ok (fun s H C cl fp => (hg s H C cl fp).run) ht he hs) fun σ H Q q => lc_of (hg X.s_0 X.H_0 0 [] []).ok hj q

/-! ### statements -/
/-- a frame: the heap at its start, what is private around, what may change -/
structure Frm where
  H0 : Hp
  P0 : Pv
  M : Pv
def Lc.isO : Lc → Prop
  | .o _ => True
  | .i _ _ _ => True
  | .m _ => True
  | _ => False
def ownA (σ : St) (ε : Ev) : Pv := fun a => ∃ (i : Nat) (l : Lc), ε[i]? = some l ∧ l.isO ∧ σ[i]?.join = some (.ref a)
def prv (F : Frm) (σ : St) (ε : Ev) : Pv := fun a => F.P0 a ∨ ownA σ ε a
structure SOk (K : PySem.W.Frag) (mg : Mg) (F : Frm) (σ : St) (H : Hp) (ε : Ev) : Prop where
  e : EOk K mg (prv F σ ε) σ H ε
  x : Xt F.M F.H0 H
  p : ∀ a, F.P0 a → ∃ o, F.H0 a = some o ∧ ∀ ps, o ≠ .tbl ps
  f : ∀ (i : Nat) (l : Lc) (a : Addr), ε[i]? = some l → l.isO → σ[i]?.join = some (.ref a) → Fresh F.H0 a ∨ F.M a
  n : ∀ (i : Nat) (xs : List Dt) (a : Addr), ε[i]? = some (.o xs) → σ[i]?.join = some (.ref a) → ¬ F.P0 a
  d : ∀ (i j : Nat) (l l' : Lc) (a : Addr), i ≠ j → ε[i]? = some l → l.isO → ε[j]? = some l' → l'.isO → σ[i]?.join = some (.ref a) → σ[j]?.join ≠ some (.ref a)
section
variable {K : PySem.W.Frag} {mg : Mg} {F : Frm} {σ σ' : St} {H H' : Hp} {ε ε' : Ev} {P P' : Pv}
theorem SlotOk.less {l : Lc} {x : Option V} (h : SlotOk K mg H P l x) (hp : ∀ a, P' a → P a) (ho : l.isO → ∀ a, x = some (.ref a) → P' a) : SlotOk K mg H P' l x := by
  cases l with
  | u => trivial
  | d d => obtain ⟨v, q, r⟩ := h; exact ⟨v, q, Rep.tr (Tr.less hp) _ _ r⟩
  | o ds => obtain ⟨a, vs, q, h0, h1, r⟩ := h; exact ⟨a, vs, q, ho trivial a q, h1, Reps.tr (Tr.less hp) _ _ r⟩
  | i c ks ds => obtain ⟨a, C, dx, vs, q, h0, h1, h2, l, r⟩ := h; exact ⟨a, C, dx, vs, q, ho trivial a q, h1, h2, l, Reps.tr (Tr.less hp) _ _ r⟩
  | m xs => obtain ⟨a, ys, q, p, h1, r⟩ := h; exact ⟨a, ys, q, ho trivial a q, h1, r.tr (Tr.less hp)⟩
  | mf xs => obtain ⟨a, o, ys, q, h1, r⟩ := h; exact ⟨a, o, ys, q, h1, r.tr (Tr.less hp)⟩
theorem EOk.less (E : EOk K mg P σ H ε) (hp : ∀ a, P' a → P a) (ho : ∀ a, ownA σ ε a → P' a) : EOk K mg P' σ H ε :=
  ⟨E.ln, fun a h => E.tk a (hp a h), fun i l h => (E.sl i l h).less hp fun o a q => ho a ⟨i, l, h, o, q⟩, E.tb⟩
theorem SOk.ext (S : SOk K mg F σ H ε) (e : Ext H H') : SOk K mg F σ H' ε := ⟨S.e.ext e, S.x.trans e.to, S.p, S.f, S.n, S.d⟩
/-- the slots change, but no new private thing comes -/
theorem SOk.chg (S : SOk K mg F σ H ε) (E : EOk K mg (prv F σ ε) σ' H ε') (h : ∀ (j : Nat) (l : Lc), ε'[j]? = some l → l.isO → ε[j]? = some l ∧ σ'[j]? = σ[j]?) : SOk K mg F σ' H ε' := by
  have ho : ∀ a, ownA σ' ε' a → ownA σ ε a := fun a ⟨i, l, h1, h2, h3⟩ => by
    obtain ⟨q1, q2⟩ := h i l h1 h2
    exact ⟨i, l, q1, h2, by rw [← q2]; exact h3⟩
  refine ⟨E.less (fun a z => z.imp_right (ho a)) fun a z => .inr z, S.x, S.p, fun i l a h1 h2 h3 => ?_, fun i xs a h1 h3 => ?_, fun i j l l' a n h1 h2 h3 h4 h5 => ?_⟩
  · obtain ⟨q1, q2⟩ := h i l h1 h2
    exact S.f i l a q1 h2 (by rw [← q2]; exact h3)
  · obtain ⟨q1, q2⟩ := h i _ h1 trivial
    exact S.n i xs a q1 (by rw [← q2]; exact h3)
  · obtain ⟨q1, q2⟩ := h i l h1 h2
    obtain ⟨q3, q4⟩ := h j l' h3 h4
    rw [q4]
    exact S.d i j l l' a n q1 h2 q3 h4 (by rw [← q2]; exact h5)
theorem SOk.set (S : SOk K mg F σ H ε) {d : Dt} {v : V} (r : Rep K mg H (prv F σ ε) d v) (i : Nat) : SOk K mg F (σ.set i (some v)) H (ε.set i (.d d)) := S.chg (S.e.set r i) fun j l h o => by
  by_cases hj : i = j
  · subst hj
    by_cases hi : i < ε.length
    · rw [List.getElem?_set_self hi] at h; cases h; exact o.elim
    · rw [List.getElem?_eq_none (by rw [List.length_set]; omega)] at h; cases h
  · rw [List.getElem?_set_ne hj] at h ⊢
    exact ⟨h, rfl⟩
theorem SOk.tgt (S : SOk K mg F σ H ε) {js : List Nat} {set : Sf} {d : Dt} (ok : SetOk js set) (hs : set d ε = some ε') (E : EOk K mg (prv F σ ε) σ' H ε') (sb : SameBut js σ σ') : SOk K mg F σ' H ε' := S.chg E fun j l h o => by
  by_cases hj : j ∈ js
  · obtain ⟨x, rfl⟩ := ok.in_ _ _ _ hs j hj l h
    exact o.elim
  · rw [ok.out _ _ _ hs j hj] at h
    exact ⟨h, sb.at_ j hj⟩
/-- a new list of one's own -/
theorem SOk.own (S : SOk K mg F σ H ε) (e : Ext H H') {p : Addr} (hp : Fresh H p) {vs : List V} {ds : List Dt} (hv : H' p = some (.lst vs)) (r : Reps K mg H' (more (prv F σ ε) p) ds vs) (i : Nat) : SOk K mg F (σ.set i (some (.ref p))) H' (ε.set i (.o ds)) := by
  have S1 := S.ext e
  have npv : ¬ prv F σ ε p := S.e.ne hp
  have sl : ∀ (j : Nat) (l : Lc), (ε.set i (.o ds))[j]? = some l → (j = i ∧ l = .o ds ∧ i < ε.length) ∨ (j ≠ i ∧ ε[j]? = some l) := fun j l h => by
    by_cases hj : i = j
    · subst hj
      by_cases hi : i < ε.length
      · rw [List.getElem?_set_self hi] at h; cases h; exact .inl ⟨rfl, rfl, hi⟩
      · rw [List.getElem?_eq_none (by rw [List.length_set]; omega)] at h; cases h
    · rw [List.getElem?_set_ne hj] at h
      exact .inr ⟨fun z => hj z.symm, h⟩
  have at_i : i < ε.length → (σ.set i (some (V.ref p)))[i]?.join = some (.ref p) := fun hi => by rw [List.getElem?_set_self (by rw [← S.e.ln]; exact hi)]; rfl
  have at_j : ∀ {j : Nat}, j ≠ i → (σ.set i (some (V.ref p)))[j]? = σ[j]? := fun hj => List.getElem?_set_ne (fun z => hj z.symm)
  have ow : ∀ a, ownA (σ.set i (some (.ref p))) (ε.set i (.o ds)) a → ownA σ ε a ∨ a = p := fun a ⟨j, l, h1, h2, h3⟩ => by
    rcases sl j l h1 with ⟨rfl, rfl, hi⟩ | ⟨hj, h⟩
    · rw [at_i hi] at h3
      cases h3
      exact .inr rfl
    · rw [at_j hj] at h3
      exact .inl ⟨j, l, h, h2, h3⟩
  have E2 : EOk K mg (more (prv F σ ε) p) (σ.set i (some (.ref p))) H' (ε.set i (.o ds)) := by
    refine ⟨by rw [List.length_set, List.length_set, S.e.ln], fun a h => ?_, fun j l h => ?_, S1.e.tb⟩
    · rcases h with h | h
      · exact S1.e.tk a h
      · rw [h]; exact ⟨_, hv, nt_lst⟩
    · rcases sl j l h with ⟨rfl, rfl, hi⟩ | ⟨hj, h⟩
      · rw [at_i hi]
        exact ⟨p, vs, rfl, .inr rfl, hv, r⟩
      · rw [at_j hj]
        exact ((S.e.sl j l h).more hp).ext e
  refine ⟨E2.less (fun a h => ?_) fun a h => .inr h, S1.x, S.p, fun j l a h1 h2 h3 => ?_, fun j xs a h1 h3 => ?_, fun j k l l' a hn h1 h2 h3 h4 h5 => ?_⟩
  · rcases h with h | h
    · exact .inl (.inl h)
    · rcases ow a h with h | h
      · exact .inl (.inr h)
      · exact .inr h
  · rcases sl j l h1 with ⟨rfl, rfl, hi⟩ | ⟨hj, h⟩
    · rw [at_i hi] at h3
      cases h3
      by_cases hm : F.M p
      · exact .inr hm
      · exact .inl (S.x.fresh hp hm)
    · rw [at_j hj] at h3
      exact S.f j l a h h2 h3
  · rcases sl j _ h1 with ⟨rfl, _, hi⟩ | ⟨hj, h⟩
    · rw [at_i hi] at h3
      cases h3
      exact fun z => npv (.inl z)
    · rw [at_j hj] at h3
      exact S.n j xs a h h3
  · rcases sl j l h1 with ⟨rfl, rfl, hi⟩ | ⟨hj, h⟩
    · rw [at_i hi] at h5
      cases h5
      rcases sl k l' h3 with ⟨rfl, _⟩ | ⟨hk, h⟩
      · exact absurd rfl hn
      · rw [at_j hk]
        exact fun z => npv (.inr ⟨k, l', h, h4, z⟩)
    · rw [at_j hj] at h5
      rcases sl k l' h3 with ⟨rfl, rfl, hi⟩ | ⟨hk, h'⟩
      · rw [at_i hi]
        intro z
        cases z
        exact npv (.inr ⟨j, l, h, h2, h5⟩)
      · rw [at_j hk]
        exact S.d j k l l' a hn h h2 h' h4 h5
theorem SOk.slotO (S : SOk K mg F σ H ε) {i : Nat} {ds : List Dt} (h : ε[i]? = some (.o ds)) : ∃ a vs, σ[i]? = some (some (.ref a)) ∧ σ[i]?.join = some (.ref a) ∧ H a = some (.lst vs) ∧ Reps K mg H (prv F σ ε) ds vs := by
  obtain ⟨a, vs, q, _, h1, r⟩ := S.e.sl i _ h
  exact ⟨a, vs, slot_some q, q, h1, r⟩
theorem SlotOk.own {l : Lc} {x : Option V} (h : SlotOk K mg H P l x) (o : l.isO) : ∃ a, x = some (.ref a) ∧ P a ∧ OwnK H a := by
  cases l with
  | u => exact o.elim
  | d _ => exact o.elim
  | mf _ => exact o.elim
  | o ds => obtain ⟨a, vs, q, p, h1, _⟩ := h; exact ⟨a, q, p, .inl ⟨_, h1⟩⟩
  | i c ks ds => obtain ⟨a, C, dx, vs, q, p, _, h1, _⟩ := h; exact ⟨a, q, p, .inr (.inl ⟨_, _, _, h1⟩)⟩
  | m xs => obtain ⟨a, ys, q, p, h1, _⟩ := h; exact ⟨a, q, p, .inr (.inr ⟨_, _, _, h1⟩)⟩
/-- what is one's own is written -/
theorem SOk.put (S : SOk K mg F σ H ε) {i : Nat} {l0 l1 : Lc} {u : HO} (h : ε[i]? = some l0) (h0 : l0.isO) (h1 : l1.isO) (nO : ∀ xs, l1 = .o xs → ∃ ys, l0 = .o ys) {a : Addr} (ha : σ[i]?.join = some (.ref a)) (nt : ∀ ps, u ≠ .tbl ps)
    (sl : SlotOk K mg (upd H a u) (prv F σ ε) l1 (some (.ref a))) : SOk K mg F σ (upd H a u) (ε.set i l1) := by
  have hi : i < ε.length := (List.getElem?_eq_some_iff.mp h).1
  obtain ⟨a', q, p', hk⟩ := (S.e.sl i _ h).own h0
  rw [ha] at q
  cases q
  have at_ : ∀ (j : Nat) (l : Lc), (ε.set i l1)[j]? = some l → (j = i ∧ l = l1) ∨ (j ≠ i ∧ ε[j]? = some l) := fun j l h => by
    by_cases hj : i = j
    · subst hj
      rw [List.getElem?_set_self hi] at h; cases h; exact .inl ⟨rfl, rfl⟩
    · rw [List.getElem?_set_ne hj] at h
      exact .inr ⟨fun z => hj z.symm, h⟩
  have ow : ∀ b, ownA σ (ε.set i l1) b → ownA σ ε b := fun b ⟨j, l, h1, h2, h3⟩ => by
    rcases at_ j l h1 with ⟨rfl, rfl⟩ | ⟨hj, h'⟩
    · exact ⟨j, _, h, h0, h3⟩
    · exact ⟨j, l, h', h2, h3⟩
  have tw : Tr (prv F σ ε) (prv F σ ε) H (upd H a u) := Tr.write p' hk
  have ne : ∀ {j : Nat} {l : Lc} {b : Addr}, j ≠ i → ε[j]? = some l → l.isO → σ[j]?.join = some (.ref b) → b ≠ a := fun {j l b} hji h' ho q e => S.d j i _ _ a hji h' ho h h0 (by rw [q, e]) ha
  have E2 : EOk K mg (prv F σ ε) σ (upd H a u) (ε.set i l1) := by
    refine ⟨by rw [List.length_set, S.e.ln], fun b hb => ?_, fun j l hj => ?_, (Xt.put (M := fun b => b = a) Xt.refl (.inr rfl) hk).tabs S.e.tb⟩
    · by_cases e : b = a
      · rw [e, upd_same]; exact ⟨_, rfl, nt⟩
      · rw [upd_ne e]; exact S.e.tk b hb
    · rcases at_ j l hj with ⟨rfl, rfl⟩ | ⟨hji, h'⟩
      · rw [ha]; exact sl
      · have z := S.e.sl j l h'
        cases l with
        | u => trivial
        | d d => obtain ⟨v, q, r⟩ := z; exact ⟨v, q, Rep.tr tw _ _ r⟩
        | o ds' =>
          obtain ⟨b, ws, q, pb, hb, rb⟩ := z
          exact ⟨b, ws, q, pb, by rw [upd_ne (ne hji h' trivial q)]; exact hb, Reps.tr tw _ _ rb⟩
        | i c ks ds' =>
          obtain ⟨b, C, dx, ws, q, pb, hc, hb, hl, rb⟩ := z
          exact ⟨b, C, dx, ws, q, pb, hc, by rw [upd_ne (ne hji h' trivial q)]; exact hb, hl, Reps.tr tw _ _ rb⟩
        | m xs =>
          obtain ⟨b, ys, q, pb, hb, rb⟩ := z
          exact ⟨b, ys, q, pb, by rw [upd_ne (ne hji h' trivial q)]; exact hb, rb.tr tw⟩
        | mf xs =>
          obtain ⟨b, o, ys, q, hb, rb⟩ := z
          refine ⟨b, o, ys, q, ?_, rb.tr tw⟩
          rw [upd_ne (fun e => ?_)]
          · exact hb
          · rw [e] at hb
            exact (hk.not hb).2.2.1 _ _ rfl
  refine ⟨E2.less (fun b z => z.imp_right (ow b)) fun b z => .inr z, Xt.put S.x (S.f i _ a h h0 ha) hk, S.p, fun j l b h1 h2 h3 => ?_, fun j xs b h1 h3 => ?_, fun j k l l' b hn h1 h2 h3 h4 h5 => ?_⟩
  · rcases at_ j l h1 with ⟨rfl, rfl⟩ | ⟨hj, h'⟩
    · exact S.f j _ b h h0 h3
    · exact S.f j l b h' h2 h3
  · rcases at_ j _ h1 with ⟨rfl, e⟩ | ⟨hj, h'⟩
    · obtain ⟨ys, e0⟩ := nO xs e.symm
      rw [e0] at h
      exact S.n j _ b h h3
    · exact S.n j xs b h' h3
  · rcases at_ j l h1 with ⟨rfl, rfl⟩ | ⟨hj, h1'⟩
    · rcases at_ k l' h3 with ⟨rfl, _⟩ | ⟨hk, h3'⟩
      · exact absurd rfl hn
      · exact S.d j k _ l' b hn h h0 h3' h4 h5
    · rcases at_ k l' h3 with ⟨rfl, rfl⟩ | ⟨hk, h3'⟩
      · exact S.d j k l _ b hn h1' h2 h h0 h5
      · exact S.d j k l l' b hn h1' h2 h3' h4 h5
/-- one's own list is written -/
theorem SOk.wr (S : SOk K mg F σ H ε) {i : Nat} {ds es : List Dt} (h : ε[i]? = some (.o ds)) {a : Addr} (ha : σ[i]?.join = some (.ref a)) {vs : List V} (r : Reps K mg H (prv F σ ε) es vs) : SOk K mg F σ (upd H a (.lst vs)) (ε.set i (.o es)) := by
  obtain ⟨a', q, p', hk⟩ := (S.e.sl i _ h).own trivial
  rw [ha] at q
  cases q
  exact S.put (l1 := .o es) h trivial trivial (fun _ _ => ⟨ds, rfl⟩) ha nt_lst ⟨a, vs, rfl, p', upd_same, Reps.tr (Tr.write p' hk) _ _ r⟩
/-- one's own list is handed on as data -/
theorem SOk.share (S : SOk K mg F σ H ε) {i : Nat} {ds : List Dt} (h : ε[i]? = some (.o ds)) : SOk K mg F σ H (ε.set i (.d (.lst ds))) := by
  obtain ⟨a, vs, h1, h2, h3, r⟩ := S.slotO h
  have hi : i < ε.length := (List.getElem?_eq_some_iff.mp h).1
  have sl : ∀ (j : Nat) (l : Lc), (ε.set i (.d (.lst ds)))[j]? = some l → (j = i ∧ l = .d (.lst ds)) ∨ (j ≠ i ∧ ε[j]? = some l) := fun j l h => by
    by_cases hj : i = j
    · subst hj
      rw [List.getElem?_set_self hi] at h; cases h; exact .inl ⟨rfl, rfl⟩
    · rw [List.getElem?_set_ne hj] at h
      exact .inr ⟨fun z => hj z.symm, h⟩
  have ow : ∀ b, ownA σ (ε.set i (.d (.lst ds))) b → ownA σ ε b ∧ b ≠ a := fun b ⟨j, l, q1, q2, q3⟩ => by
    rcases sl j l q1 with ⟨rfl, rfl⟩ | ⟨hj, h'⟩
    · exact q2.elim
    · exact ⟨⟨j, l, h', q2, q3⟩, fun z => S.d j i l _ b hj h' q2 h trivial q3 (by rw [h2, z])⟩
  have lt : ∀ b, prv F σ (ε.set i (.d (.lst ds))) b → prv F σ ε b := fun b z => z.imp_right fun q => (ow b q).1
  have na : ¬ prv F σ (ε.set i (.d (.lst ds))) a := fun z => z.elim (S.n i ds a h h2) fun q => (ow a q).2 rfl
  refine ⟨⟨by rw [List.length_set, S.e.ln], fun b hb => S.e.tk b (lt b hb), fun j l hj => ?_, S.e.tb⟩, S.x, S.p, fun j l b q1 q2 q3 => ?_, fun j xs b q1 q3 => ?_, fun j k l l' b hn q1 q2 q3 q4 q5 => ?_⟩
  · rcases sl j l hj with ⟨rfl, rfl⟩ | ⟨hj', h'⟩
    · exact ⟨_, h2, a, vs, rfl, h3, na, Reps.tr (Tr.less lt) _ _ r⟩
    · exact (S.e.sl j l h').less lt fun o b q => .inr ⟨j, l, hj, o, q⟩
  · rcases sl j l q1 with ⟨rfl, rfl⟩ | ⟨hj, h'⟩
    · exact q2.elim
    · exact S.f j l b h' q2 q3
  · rcases sl j _ q1 with ⟨rfl, z⟩ | ⟨hj, h'⟩
    · cases z
    · exact S.n j xs b h' q3
  · rcases sl j l q1 with ⟨rfl, rfl⟩ | ⟨hj, h'⟩
    · exact q2.elim
    · rcases sl k l' q3 with ⟨rfl, rfl⟩ | ⟨hk, h''⟩
      · exact q4.elim
      · exact S.d j k l l' b hn h' q2 h'' q4 q5
/-- the frame of a loop -/
def Frm.loop (F : Frm) (H : Hp) (σ : St) (ε : Ev) : Frm := ⟨H, F.P0, ownA σ ε⟩
theorem SOk.loop (S : SOk K mg F σ H ε) : SOk K mg (F.loop H σ ε) σ H ε :=
  ⟨S.e, Xt.refl, fun a h => S.e.tk a (.inl h), fun i l a h1 h2 h3 => .inr ⟨i, l, h1, h2, h3⟩, S.n, S.d⟩
theorem SOk.back (S : SOk K mg F σ H ε) (L : SOk K mg (F.loop H σ ε) σ' H' ε') : SOk K mg F σ' H' ε' := by
  have fM : ∀ a, ownA σ ε a → Fresh F.H0 a ∨ F.M a := fun a ⟨i, l, h1, h2, h3⟩ => S.f i l a h1 h2 h3
  refine ⟨L.e, Xt.join S.x L.x fun b o hb ht hm z => ?_, S.p, fun i l a h1 h2 h3 => ?_, L.n, L.d⟩
  · rcases fM b z with q | q
    · exact q.ne hb ht rfl
    · exact hm q
  · rcases L.f i l a h1 h2 h3 with q | q
    · by_cases hm : F.M a
      · exact .inr hm
      · exact .inl (S.x.fresh q hm)
    · exact fM a q
theorem SOk.backX (S : SOk K mg F σ H ε) (x : Xt (ownA σ ε) H H') : Xt F.M F.H0 H' := Xt.join S.x x fun b o hb ht hm ⟨i, l, h1, h2, h3⟩ => by
  rcases S.f i l b h1 h2 h3 with q | q
  · exact q.ne hb ht rfl
  · exact hm q
theorem SOk.backF (S : SOk K mg F σ H ε) {a : Addr} (x : Fresh H a ∨ ownA σ ε a) : Fresh F.H0 a ∨ F.M a := by
  rcases x with q | ⟨i, l, h1, h2, h3⟩
  · by_cases hm : F.M a
    · exact .inr hm
    · exact .inl (S.x.fresh q hm)
  · exact S.f i l a h1 h2 h3
/-- what is walked stays through the loop -/
theorem SOk.kept (S : SOk K mg F σ H ε) (L : SOk K mg (F.loop H σ ε) σ' H' ε') : Tr (prv F σ ε) (prv F σ' ε') H H' := by
  have kind : ∀ b, ownA σ ε b → OwnK H b := fun b ⟨i, l, h1, h2, h3⟩ => by
    obtain ⟨a, q, _, k⟩ := (S.e.sl i l h1).own h2
    rw [h3] at q
    cases q
    exact k
  refine ⟨fun b o hb ht hn => L.x b o hb ht fun z => hn (.inr z), fun b o u hb _ => L.x b _ hb nt_frz fun z => ((kind b z).not hb).2.2.1 _ _ rfl, fun b xs hb => L.x b _ hb nt_tup fun z => ((kind b z).not hb).2.2.2 _ rfl, fun b o hb ht hn z => ?_, fun b c q hb => L.x b _ hb LamX.codeO_ne fun z => ((kind b z).not hb).2.1 _ _ rfl⟩
  rcases z with z | ⟨i, l, h1, h2, h3⟩
  · exact hn (.inl z)
  · rcases L.f i l b h1 h2 h3 with q | q
    · exact q.ne hb ht rfl
    · exact hn (.inr q)
end
end DL
end
section
set_option Elab.async false
set_option linter.all false
set_option maxRecDepth 100000
set_option autoImplicit false
namespace DL
open PySem PySem.Spec PyProof.Rows L2
variable [TbC]
variable {X : Cx} {W : WX} {e a b c : Expr} {es rest : List Expr} {f g h : Fn} {pos p : Pos}
/-- how a statement ends -/
inductive Re where
  | nx (ε : Ev) | rt (d : Dt) | ro (xs : List Dt) | bk (ε : Ev) | ct (ε : Ev)
abbrev Rs := Rz (Str × Ev) Re
abbrev Sg := Ev → Rs
def SOut (X : Cx) (F : Frm) (W : WX) (D : Ends) : Rs → Prop
  | .bad => False
  | .ex (c, ε) => ∃ C, X.mg c = some (.ref C) ∧ ∀ σ H, SOk X.K X.mg F σ H ε → W (.ref C) none σ H
  | .ok (.nx ε) => ∀ σ H, SOk X.K X.mg F σ H ε → D.nx σ H
  | .ok (.bk ε) => ∀ σ H, SOk X.K X.mg F σ H ε → D.bk σ H
  | .ok (.ct ε) => ∀ σ H, SOk X.K X.mg F σ H ε → D.ct σ H
  | .ok (.rt d) => ∀ v H, Xt F.M F.H0 H → Rep X.K X.mg H F.P0 d v → D.rt v H
  | .ok (.ro xs) => ∀ p vs H, Xt F.M F.H0 H → (Fresh F.H0 p ∨ F.M p) → ¬ F.P0 p → H p = some (.lst vs) → Reps X.K X.mg H (more F.P0 p) xs vs → D.rt (.ref p) H
def tS (X : Cx) (F : Frm) (W : WX) (g : Sg) : TS := fun D σ H => ∃ ε, SOk X.K X.mg F σ H ε ∧ SOut X F W D (g ε)
def SD (X : Cx) (W : WX) (st : Stmt) (g : Sg) : Prop := ∀ F, PS X st (tS X F W g)
def SDs (X : Cx) (W : WX) (st : List Stmt) (g : Sg) : Prop := ∀ F, PSs X st (tS X F W g)
/-- an expression's outcome within a statement -/
def exS {α : Type} (ε : Ev) : Rz Str α → Rz (Str × Ev) α
  | .bad => .bad
  | .ex c => .ex (c, ε)
  | .ok a => .ok a
section
variable {F : Frm} {D : Ends} {σ : St} {H H1 : Hp} {ε : Ev} {α : Type}
theorem SOut.exp {r : Rz Str α} {k : α → Rs} (S : SOk X.K X.mg F σ H ε) (q : SOut X F W D ((exS ε r).bind k)) : Out X W σ H r fun a => SOut X F W D (k a) := by
  cases r with
  | bad => exact q
  | ex c =>
    obtain ⟨C, h1, h2⟩ := q
    exact ⟨C, h1, fun H' e => h2 σ H' (S.ext e)⟩
  | ok a => exact q
end
def seqR (r : Rs) (g : Sg) : Rs := match r with
  | .ok (.nx ε) => g ε
  | r => r
def seqS (g h : Sg) : Sg := fun ε => seqR (g ε) h
theorem sd_nil : SDs X W [] fun ε => .ok (.nx ε) := fun F => pss_weak pss_nil fun D σ H ⟨ε, S, q⟩ => q σ H S
theorem sd_cons {st : Stmt} {sts : List Stmt} {g h : Sg} (h1 : SD X W st g) (h2 : SDs X W sts h) : SDs X W (st :: sts) (seqS g h) := fun F => pss_weak (pss_cons (h1 F) (h2 F)) fun D σ H ⟨ε, S, q⟩ => by
  refine ⟨ε, S, ?_⟩
  unfold seqS at q
  cases hg : g ε with
  | bad => rw [hg] at q; exact q
  | ex c => rw [hg] at q; exact q
  | ok r =>
    rw [hg] at q
    cases r with
    | nx ε' => exact fun σ' H' S' => ⟨ε', S', q⟩
    | rt d => exact q
    | ro d => exact q
    | bk d => exact q
    | ct d => exact q
theorem sd_one {st : Stmt} {g : Sg} (h1 : SD X W st g) : SDs X W [st] g := fun F => pss_one (h1 F)
theorem sd_pass : SD X W (.Pass pos) fun ε => .ok (.nx ε) := fun F => ps_weak ps_pass fun D σ H ⟨ε, S, q⟩ => q σ H S
theorem sd_break : SD X W (.Break pos) fun ε => .ok (.bk ε) := fun F => ps_weak ps_break fun D σ H ⟨ε, S, q⟩ => q σ H S
theorem sd_continue : SD X W (.Continue pos) fun ε => .ok (.ct ε) := fun F => ps_weak ps_continue fun D σ H ⟨ε, S, q⟩ => q σ H S
/-- an expression, its value dropped -/
def xpS (f : Fn) : Sg := fun ε => (exS ε (f ε)).bind fun _ => .ok (.nx ε)
theorem sd_expr (he : PD X W e f) (hs : swapsWith e none pos.line X.env = pure false := by rfl) : SD X W (.Expr e pos) (xpS f) := fun F => ps_weak (ps_expr he hs) fun D σ H ⟨ε, S, q⟩ =>
  ⟨_, ε, S.e, (q.exp S).mono fun d q v H' x r => q σ H' (S.ext x)⟩
def rtS (f : Fn) : Sg := fun ε => (exS ε (f ε)).bind fun d => .ok (.rt d)
theorem sd_ret (he : PD X W e f) : SD X W (.Return (some e) pos) (rtS f) := fun F => ps_weak (ps_ret he) fun D σ H ⟨ε, S, q⟩ =>
  ⟨_, ε, S.e, (q.exp S).mono fun d q v H' x r => q v H' (S.ext x).x (Rep.tr (Tr.less fun a z => .inl z) _ _ r)⟩
theorem sd_retN : SD X W (.Return none pos) fun _ => .ok (.rt .non) := fun F => ps_weak ps_retN fun D σ H ⟨ε, S, q⟩ => q _ H S.x rfl
/-- a list of one's own is handed back -/
def roS (f : Fs) : Sg := fun ε => (exS ε (f ε)).bind fun ds => .ok (.ro ds)
theorem sd_retO {f : Fs} (he : PN X W e f) : SD X W (.Return (some e) pos) (roS f) := fun F => ps_weak (ps_ret he) fun D σ H ⟨ε, S, q⟩ =>
  ⟨_, ε, S.e, (q.exp S).mono fun ds q p vs H' x hp hl r => q p vs H' (S.ext x).x (by
    by_cases hm : F.M p
    · exact .inr hm
    · exact .inl (S.x.fresh hp hm)) (fun z => S.e.ne hp (.inl z)) hl (Reps.tr (Tr.less fun a z => z.imp_left fun z => .inl z) _ _ r)⟩
def roV (i : Nat) : Sg := fun ε => match ε[i]? with
  | some (.o ds) => .ok (.ro ds)
  | _ => .bad
theorem sd_retV (i : Nat) {x : Str} (hN : X.N[i]? = some x := by rfl) (hv : Vis X.env.scope x := by first | exact Or.inl rfl | exact Or.inr (Or.inl rfl) | exact Or.inr (Or.inr rfl)) (hd : (x == ("__debug__" : Str)) = false := by decide)
    (hcd : (x == ("__classdict__" : Str)) = false := by decide) : SD X W (.Return (some (.Name x p)) pos) (roV i) := fun F => ps_weak (ps_ret (pe_var (i := i) hN hv hd hcd)) fun D σ H ⟨ε, S, q⟩ => by
  cases h : ε[i]? with
  | none => simp [roV, h, SOut] at q
  | some l =>
    cases l with
    | o ds =>
      simp only [roV, h, SOut] at q
      obtain ⟨a, vs, h1, h2, h3, r⟩ := S.slotO h
      exact ⟨.ref a, h1, q a vs H S.x (S.f i _ a h trivial h2) (S.n i ds a h h2) h3 (by
        have S2 := S.share h
        obtain ⟨v, q1, b, ws, q2, q3, q4, r2⟩ := S2.e.sl i _ (List.getElem?_set_self (List.getElem?_eq_some_iff.mp h).1)
        rw [h2] at q1
        cases q1
        cases q2
        rw [h3] at q3
        cases q3
        refine Reps.tr ⟨fun _ _ z _ _ => z, fun _ _ _ z _ => z, fun _ _ z => z, fun b' o hb ht n z => ?_, fun _ _ _ z => z⟩ _ _ r
        rcases z with z | z
        · exact n (.inl z)
        · rw [z] at n
          exact n (.inr ⟨i, _, h, trivial, h2⟩))⟩
    | _ => simp [roV, h, SOut] at q
/-- x = e -/
def stS (i : Nat) (f : Fn) : Sg := fun ε => (exS ε (f ε)).bind fun d => .ok (.nx (ε.set i (.d d)))
theorem sd_set {i : Nat} {x : Str} {pos' : Pos} (hN : X.N.Nodup) (he : PD X W e f) (hi : X.N[i]? = some x := by rfl) (hx : Loc X.env.scope x := by first | exact Or.inl rfl | exact Or.inr rfl) (hs : swapsWith e (some (.Name x pos')) pos.line X.env = pure false := by rfl) (hf : X.fn x = true ∨ X.env.scope.names.lookup x = some .local := by first | exact .inl rfl | exact .inr rfl | assumption) :
    SD X W (.Assign [.Name x pos'] e pos) (stS i f) := fun F => ps_weak (ps_set hN hi hx he hs hf) fun D σ H ⟨ε, S, q⟩ =>
  ⟨_, ε, S.e, (q.exp S).mono fun d q v H' x r => q _ H' ((S.ext x).set r i)⟩
/-- x = e, e a new list -/
def stO (i : Nat) (f : Fs) : Sg := fun ε => (exS ε (f ε)).bind fun ds => .ok (.nx (ε.set i (.o ds)))
theorem sd_setO {i : Nat} {x : Str} {pos' : Pos} {f : Fs} (hN : X.N.Nodup) (he : PN X W e f) (hi : X.N[i]? = some x := by rfl) (hx : Loc X.env.scope x := by first | exact Or.inl rfl | exact Or.inr rfl) (hs : swapsWith e (some (.Name x pos')) pos.line X.env = pure false := by rfl) (hf : X.fn x = true ∨ X.env.scope.names.lookup x = some .local := by first | exact .inl rfl | exact .inr rfl | assumption) :
    SD X W (.Assign [.Name x pos'] e pos) (stO i f) := fun F => ps_weak (ps_set hN hi hx he hs hf) fun D σ H ⟨ε, S, q⟩ =>
  ⟨_, ε, S.e, (q.exp S).mono fun ds q p vs H' x hp hl r => q _ H' (S.own x hp hl r i)⟩
/-- y = [..] on one line -/
theorem sd_setLc {i : Nat} {y : Str} {py spos : Pos} {elt tg iter : Expr} {ifs : List Expr} {scope : Scope} {own : List (Str × Nat)} {js : List Nat} {it : Fs} {set : Sf} {test : Tf} {k : Fn} (hc : X.calm = true) (hN : X.N.Nodup) (hy : X.N[i]? = some y) (hyl : X.env.scope.names.lookup y = some .local)
    (hsw : swapsWith (.ListComp elt [⟨tg, iter, ifs, 0⟩] scope pos) (some (.Name y py)) spos.line X.env = pure true) (hi : ID X W tg iter it) (ok : BlkOk X.N X.env.scope scope own)
    (hg : ∀ (s : Shared) (H : Hp) (C : Addr) (cl : List (Str × Addr)) (fp : List Addr), GD (X.blk s H scope (compEnvC scope cl C X.env) fp) tg js set) (ht : ∀ (s : Shared) (H : Hp) (C : Addr) (cl : List (Str × Addr)) (fp : List Addr), TDs (X.blk s H scope (compEnvC scope cl C X.env) fp) W0 ifs test)
    (he : ∀ (s : Shared) (H : Hp) (C : Addr) (cl : List (Str × Addr)) (fp : List Addr), PD (X.blk s H scope (compEnvC scope cl C X.env) fp) W0 elt k) (hj : ∀ j ∈ js, j ∈ own.map (·.2) := by decide) (hs : ∀ x, foldedSetIterable iter X.env x = pure x := by intro _; rfl) :
    SD X W (.Assign [.Name y py] (.ListComp elt [⟨tg, iter, ifs, 0⟩] scope pos) spos) (stO i (lcF it (own.map (·.2)) set test k)) := fun F =>
  ps_weak (ps_setLc (g := gD X js set) (tt := tT X W0 test) (te := tD X W0 k) hc hN hy hyl hsw hi ok (fun s H C cl fp => (hg s H C cl fp).run) ht he hs) fun D σ H ⟨ε, S, q⟩ =>
    lc_of (hg X.s_0 X.H_0 0 [] []).ok hj ⟨_, ε, S.e, (q.exp S).mono fun ds q p vs H' x hp hl r => q _ H' (S.own x hp hl r i)⟩
/-- targets = e -/
def asS (f : Fn) (set : Sf) : Sg := fun ε => (exS ε (f ε)).bind fun d => (exS ε (.ofO (set d ε))).bind fun ε' => .ok (.nx ε')
theorem sd_asg {tg : Expr} {js : List Nat} {set : Sf} (he : PD X W e f) (hg : GD X tg js set) (hs : swapsWithSole [tg] e pos.line X.env = pure false := by rfl) (hw : swappedStores [tg] e X.env = pure none := by rfl)
    (h1 : (assignEach [tg] X.env).map (·.2) = [assign tg X.env] := by rfl) : SD X W (.Assign [tg] e pos) (asS f set) := fun F => ps_weak (ps_asg he hg.run hs hw h1) fun D σ H ⟨ε, S, q⟩ =>
  ⟨_, ε, S.e, (q.exp S).mono fun d q v H' x r => by
    have S' := S.ext x
    cases hs : set d ε with
    | none => rw [hs] at q; exact q.elim
    | some ε' =>
      rw [hs] at q
      exact ⟨_, ε, d, ε', S'.e, r, hs, fun σ' E' sb => q σ' H' (S'.tgt hg.ok hs E' sb)⟩⟩
/-- a, b = x, y -/
def prS (i j : Nat) (fs : Fs) : Sg := fun ε => (exS ε (fs ε)).bind fun ds => match ds with
  | [x, y] => .ok (.nx ((ε.set i (.d x)).set j (.d y)))
  | _ => .bad
theorem sd_par {i j : Nat} {x y : Str} {px py pt : Pos} {kt : Nat} {k2 : Nat} {pt2 : Pos} {fs : Fs} (hc : X.calm = true) (hN : X.N.Nodup) (hi : X.N[i]? = some x) (hj : X.N[j]? = some y) (hij : i ≠ j)
    (hx : X.env.scope.names.lookup x = some .local) (hy : X.env.scope.names.lookup y = some .local) (ha : AD X W [a, b] fs)
    (hw : swappedStores [.Tuple [.Name x px, .Name y py] kt pt] (.Tuple [a, b] k2 pt2) X.env = pure (some [x, y]) := by rfl)
    (hs : swapsWithSole [.Tuple [.Name x px, .Name y py] kt pt] (.Tuple [a, b] k2 pt2) pos.line X.env = pure false := by rfl) :
    SD X W (.Assign [.Tuple [.Name x px, .Name y py] kt pt] (.Tuple [a, b] k2 pt2) pos) (prS i j fs) := fun F => ps_weak (ps_par hc hN hi hj hij hx hy ha hw hs) fun D σ H ⟨ε, S, q⟩ =>
  ⟨_, ε, S.e, (q.exp S).mono fun ds q vs H' x r => by
    match ds, q, r with
    | [x, y], q, ⟨v, _, e1, r1, w, _, e2, r2, e3⟩ =>
      cases e3
      cases e2
      cases e1
      have S' := S.ext (by assumption)
      have S1 := S'.set r1 i
      refine ⟨v, w, rfl, q _ H' (S1.set (Rep.tr (Tr.less fun a z => z.imp_right fun ⟨k, l, h1, h2, h3⟩ => ?_) _ _ r2) j)⟩
      by_cases hk : i = k
      · subst hk
        by_cases hi : i < ε.length
        · rw [List.getElem?_set_self hi] at h1; cases h1; exact h2.elim
        · rw [List.getElem?_eq_none (by rw [List.length_set]; omega)] at h1; cases h1
      · rw [List.getElem?_set_ne hk] at h1 h3
        exact ⟨k, l, h1, h2, h3⟩
    | [], q, _ => exact q.elim
    | [_], q, _ => exact q.elim
    | _ :: _ :: _ :: _, q, _ => exact q.elim⟩
def ifS (t : Tf) (g h : Sg) : Sg := fun ε => (exS ε (t ε)).bind fun b => if b = true then g ε else h ε
theorem sd_if {t : Tf} {g h : Sg} {as bs : List Stmt} (hc : TD X W c t) (ha : SDs X W as g) (hb : SDs X W bs h) : SD X W (.If c as bs pos) (ifS t g h) := fun F => ps_weak (ps_if hc (ha F) (hb F)) fun D σ H ⟨ε, S, q⟩ =>
  ⟨_, ε, S.e, (q.exp S).mono fun b q H' x => by
    cases b with
    | true => exact ⟨ε, S.ext x, q⟩
    | false => exact ⟨ε, S.ext x, q⟩⟩
/-- a list of one's own becomes data from here on -/
def shS (i : Nat) (g : Sg) : Sg := fun ε => match ε[i]? with
  | some (.o ds) => g (ε.set i (.d (.lst ds)))
  | _ => .bad
theorem sd_share {i : Nat} {sts : List Stmt} {g : Sg} (h : SDs X W sts g) : SDs X W sts (shS i g) := fun F => pss_weak (h F) fun D σ H ⟨ε, S, q⟩ => by
  unfold shS at q
  cases hl : ε[i]? with
  | none => rw [hl] at q; exact q.elim
  | some l =>
    rw [hl] at q
    cases l with
    | o ds => exact ⟨_, S.share hl, q⟩
    | u => exact q.elim
    | d _ => exact q.elim
    | i _ _ _ => exact q.elim
    | m _ => exact q.elim
    | mf _ => exact q.elim
/-! ### loops -/
def afterB (r : Rs) (k : Sg) : Rs := match r with
  | .ok (.nx ε) => k ε
  | .ok (.ct ε) => k ε
  | .ok (.bk ε) => .ok (.nx ε)
  | r => r
def forGo (set : Sf) (body : Sg) : List Dt → Sg
  | [], ε => .ok (.nx ε)
  | x :: xs, ε => match set x ε with
    | none => .bad
    | some ε1 => afterB (body ε1) (forGo set body xs)
def forS (it : Fs) (set : Sf) (body : Sg) : Sg := fun ε => (exS ε (it ε)).bind fun xs => forGo set body xs ε
theorem sd_for {tg iter : Expr} {body : List Stmt} {js : List Nat} {it : Fs} {set : Sf} {g : Sg} (hp : PassesOwn (model X.prog X.w) X.A X.env X.xe) (hc : X.calm = true) (hi : IS X W tg iter it) (hg : GD X tg js set) (hb : SDs X W body g)
    (hs : ∀ x, foldedSetIterable iter X.env x = pure x := by intro _; rfl) : SD X W (.For tg iter body [] pos) (forS it set g) := by
  intro F
  -- the body serves every frame: the loop's is chosen at its start
  refine ⟨fun pins s σ H D I ⟨ε, S, q⟩ => ?_⟩
  have hL : ∀ (H1 : Hp), Ext H H1 → True := fun _ _ => trivial
  refine wpAny_mono ((ps_for (g := gD X js set) (tb := fun D' σ' H' => ∃ F', tS X F' W g D' σ' H') hp hc hi hg.run ⟨fun pins s σ' H' D' I' ⟨F', q'⟩ => (hb F').run pins s σ' H' D' I' q'⟩ hs).run pins s σ H D I ?_) (fun _ _ z => z) fun _ _ z => z
  refine ⟨_, ε, S.e, (q.exp S).mono fun ds q J H1 x io => ?_⟩
  have S1 := S.ext x
  refine ⟨fun i m σ2 H2 => m = ds.length - i ∧ i ≤ ds.length ∧ ∃ ε2, SOk X.K X.mg (F.loop H1 σ ε) σ2 H2 ε2 ∧ SOut X F W D (forGo set g (ds.drop i) ε2), ⟨ds.length, by simp, Nat.zero_le _, ε, S1.loop, by rw [List.drop_zero]; exact q⟩, ?_⟩
  rintro i m σ2 H2 ⟨rfl, hi, ε2, L, q⟩
  have k2 := S1.kept L
  have kk : Tr (prv F σ ε) (prv F σ ε) H1 H2 := ⟨k2.keep, k2.frz, k2.tup, fun _ _ _ _ n => n, k2.cd⟩
  by_cases hlt : i < ds.length
  · have hd : ds[i]? = some ds[i] := List.getElem?_eq_getElem hlt
    obtain ⟨g1, g2⟩ := io.go i H2 _ kk hd
    rw [take_one hd] at q
    refine .inr ⟨g1, fun σ3 H3 => i + 1 ≤ ds.length ∧ ∃ ε3, SOk X.K X.mg (F.loop H1 σ ε) σ3 H3 ε3 ∧ SOut X F W D (forGo set g (ds.drop (i + 1)) ε3), fun σ3 H3 z => ⟨ds.length - (i + 1), by omega, rfl, z⟩, fun y H3 hy => ?_⟩
    obtain ⟨rfl, ry⟩ := g2 y H3 hy
    unfold forGo at q
    cases h1 : set ds[i] ε2 with
    | none => rw [h1] at q; exact q.elim
    | some ε3 =>
      have q : SOut X F W D (afterB (g ε3) (forGo set g (ds.drop (i + 1)))) := by rw [h1] at q; exact q
      refine ⟨_, ε2, ds[i], ε3, L.e, Rep.tr k2 _ _ ry, h1, fun σ3 E3 sb => ⟨F.loop H1 σ ε, ε3, L.tgt hg.ok h1 E3 sb, ?_⟩⟩
      cases hr : g ε3 with
      | bad => rw [hr] at q; exact q
      | ex ce =>
        rw [hr] at q
        obtain ⟨c, ε4⟩ := ce
        obtain ⟨C, q1, q2⟩ := q
        exact ⟨C, q1, fun σ4 H4 L4 => q2 σ4 H4 (S1.back L4)⟩
      | ok r =>
        rw [hr] at q
        cases r with
        | nx ε4 => exact fun σ4 H4 L4 => ⟨hlt, ε4, L4, q⟩
        | ct ε4 => exact fun σ4 H4 L4 => ⟨hlt, ε4, L4, q⟩
        | bk ε4 => exact fun σ4 H4 L4 => q σ4 H4 (S1.back L4)
        | rt d => exact fun v H4 x4 r4 => q v H4 (S1.backX x4) r4
        | ro xs => exact fun p vs H4 x4 fr np hl r4 => q p vs H4 (S1.backX x4) (S1.backF fr) np hl r4
  · have ei : i = ds.length := by omega
    subst ei
    rw [List.drop_length] at q
    exact .inl ⟨io.stop _ H2 kk (Nat.le_refl _), q σ2 H2 (S1.back L)⟩
/-! while -/
def whT (t : Tf) (b k : Sg) : Sg := fun ε => (exS ε (t ε)).bind fun q => if q = true then afterB (b ε) k else .ok (.nx ε)
def whN (t : Tf) (b : Sg) : Nat → Sg
  | 0 => fun _ => .bad
  | n + 1 => whT t b (whN t b n)
theorem whT_of {t : Tf} {b k k' : Sg} {ε : Ev} (h : ∀ ε, k ε ≠ .bad → k' ε = k ε) (hr : whT t b k ε ≠ .bad) : whT t b k' ε = whT t b k ε := by
  cases hk : t ε with
  | bad => simp only [whT, hk, exS, Rz.bind]
  | ex c => simp only [whT, hk, exS, Rz.bind]
  | ok q =>
    cases q with
    | false => simp only [whT, hk, exS, Rz.bind, Bool.false_eq_true, if_false]
    | true =>
      simp only [whT, hk, exS, Rz.bind, if_true] at hr ⊢
      cases hb : b ε with
      | bad => rfl
      | ex c => rfl
      | ok q =>
        rw [hb] at hr
        cases q with
        | nx ε' => exact h ε' hr
        | ct ε' => exact h ε' hr
        | bk ε' => rfl
        | rt d => rfl
        | ro d => rfl
theorem whN_more (t : Tf) (b : Sg) : ∀ (n : Nat) (ε : Ev), whN t b n ε ≠ .bad → whN t b (n + 1) ε = whN t b n ε
  | 0, ε, hr => absurd rfl hr
  | n + 1, ε, hr => whT_of (fun ε' h => whN_more t b n ε' h) hr
theorem whN_le (t : Tf) (b : Sg) {n m : Nat} (hl : n ≤ m) {ε : Ev} (hr : whN t b n ε ≠ .bad) : whN t b m ε = whN t b n ε := by
  induction hl with
  | refl => rfl
  | step _ ih => rw [whN_more t b _ ε (by rw [ih]; exact hr), ih]
open Classical in
noncomputable def whS (t : Tf) (b : Sg) : Sg := fun ε => if h : ∃ n, whN t b n ε ≠ .bad then whN t b (choose h) ε else .bad
theorem whS_eq {t : Tf} {b : Sg} {n : Nat} {ε : Ev} (hr : whN t b n ε ≠ .bad) : whS t b ε = whN t b n ε := by
  have hx : ∃ n, whN t b n ε ≠ .bad := ⟨n, hr⟩
  unfold whS
  rw [dif_pos hx]
  have hc := Classical.choose_spec hx
  rcases Nat.le_total n (Classical.choose hx) with z | z
  · exact whN_le t b z hr
  · exact (whN_le t b z hc).symm
theorem whS_some {t : Tf} {b : Sg} {ε : Ev} (h : whS t b ε ≠ .bad) : ∃ n, whS t b ε = whN t b n ε := by
  by_cases hx : ∃ n, whN t b n ε ≠ .bad
  · exact ⟨_, by unfold whS; rw [dif_pos hx]⟩
  · exact absurd (by unfold whS; rw [dif_neg hx]) h
/-- the loop's own equation -/
theorem whS_step (t : Tf) (b : Sg) (ε : Ev) : whS t b ε = whT t b (whS t b) ε := by
  have key : ∀ n, whT t b (whN t b n) ε ≠ .bad → whT t b (whS t b) ε = whT t b (whN t b n) ε := fun n hn => whT_of (fun ε' h => whS_eq h) hn
  by_cases h : whS t b ε = .bad
  · rw [h]
    cases hk : t ε with
    | bad => simp only [whT, hk, exS, Rz.bind]
    | ex c => exact absurd (whS_eq (n := 1) (t := t) (b := b) (ε := ε) (by simp only [whN, whT, hk, exS, Rz.bind]; simp)) (by rw [h]; simp only [whN, whT, hk, exS, Rz.bind]; simp)
    | ok k =>
      cases k with
      | false => exact absurd (whS_eq (n := 1) (t := t) (b := b) (ε := ε) (by simp only [whN, whT, hk, exS, Rz.bind]; simp)) (by rw [h]; simp only [whN, whT, hk, exS, Rz.bind]; simp)
      | true =>
        have e1 : ∀ k, whT t b k ε = afterB (b ε) k := fun k => by simp only [whT, hk, exS, Rz.bind, if_true]
        rw [e1]
        have e2 : ∀ n, whN t b (n + 1) ε = afterB (b ε) (whN t b n) := fun n => e1 _
        have e3 : ∀ n, afterB (b ε) (whN t b n) = .bad := fun n => by
          by_cases z : whN t b (n + 1) ε = .bad
          · rw [← e2, z]
          · exact absurd ((whS_eq z).symm.trans h) z
        cases hb : b ε with
        | bad => rfl
        | ex c => have z := e3 0; rw [hb] at z; cases z
        | ok q =>
          have sub : ∀ ε', (∀ n, whN t b n ε' = .bad) → Rz.bad = whS t b ε' := fun ε' hs => by
            by_cases h' : whS t b ε' = .bad
            · exact h'.symm
            · obtain ⟨n, hn⟩ := whS_some h'
              rw [hn, hs n]
          cases q with
          | nx ε' => exact sub ε' fun n => by have z := e3 n; rw [hb] at z; exact z
          | ct ε' => exact sub ε' fun n => by have z := e3 n; rw [hb] at z; exact z
          | bk ε' => have z := e3 0; rw [hb] at z; cases z
          | rt d => have z := e3 0; rw [hb] at z; cases z
          | ro d => have z := e3 0; rw [hb] at z; cases z
  · obtain ⟨n, hn⟩ := whS_some h
    cases n with
    | zero => exact absurd hn h
    | succ n =>
      rw [hn]
      rw [hn] at h
      exact (key n h).symm
theorem sd_while {body : List Stmt} {t : Tf} {g : Sg} (hp : PassesOwn (model X.prog X.w) X.A X.env X.xe) (hc : TD X W c t) (hb : SDs X W body g) : SD X W (.While c body [] pos) (whS t g) := fun F => ps_weak (ps_while hp hc (hb F)) fun D σ H ⟨ε, S, q⟩ => by
  obtain ⟨n, hn⟩ : ∃ n, whS t g ε = whN t g n ε := whS_some fun z => by rw [z] at q; exact q
  rw [hn] at q
  refine ⟨fun m σ H => ∃ ε, SOk X.K X.mg F σ H ε ∧ SOut X F W D (whN t g m ε), ⟨n, ε, S, q⟩, ?_⟩
  rintro m σ2 H2 ⟨ε2, S2, q⟩
  cases m with
  | zero => exact q.elim
  | succ m =>
    have q : SOut X F W D ((exS ε2 (t ε2)).bind fun q => if q = true then afterB (g ε2) (whN t g m) else .ok (.nx ε2)) := q
    refine ⟨_, ε2, S2.e, (q.exp S2).mono fun k q H3 x => ?_⟩
    have S3 := S2.ext x
    cases k with
    | false => exact q σ2 H3 S3
    | true =>
      have q : SOut X F W D (afterB (g ε2) (whN t g m)) := q
      refine iteT ?_
      refine ⟨fun σ' H' => ∃ ε, SOk X.K X.mg F σ' H' ε ∧ SOut X F W D (whN t g m ε), fun σ' H' z => ⟨m, Nat.lt_succ_self _, z⟩, ε2, S3, ?_⟩
      cases hr : g ε2 with
      | bad => rw [hr] at q; exact q
      | ex ce => rw [hr] at q; exact q
      | ok r =>
        rw [hr] at q
        cases r with
        | nx ε4 => exact fun σ4 H4 L4 => ⟨ε4, L4, q⟩
        | ct ε4 => exact fun σ4 H4 L4 => ⟨ε4, L4, q⟩
        | bk ε4 => exact q
        | rt d => exact q
        | ro xs => exact q
end DL
end
section
set_option Elab.async false
set_option linter.all false
set_option maxRecDepth 100000
set_option autoImplicit false
namespace DL
open PySem PySem.Spec PyProof.Rows L2
variable [TbC]
variable {X : Cx} {W : WX} {e a b c : Expr} {es rest : List Expr} {f g h : Fn} {pos p : Pos}
/-! ### defs -/
/-- what a def hands back: data, or a new list -/
inductive Oc where
  | va (d : Dt) | ow (xs : List Dt)
abbrev Fd := List Dt → Rz Str Oc
def Oc.dt : Oc → Dt
  | .va d => d
  | .ow xs => .lst xs
def OOut (K : PySem.W.Frag) (mg : Mg) (P : Pv) (H : Hp) (Q : VK) (E : XK) : Rz Str Oc → Prop
  | .bad => False
  | .ex c => ∃ C, mg c = some (.ref C) ∧ ∀ H', Ext H H' → E (.ref C) none H'
  | .ok (.va d) => ∀ v H', Ext H H' → Rep K mg H' P d v → Q v H'
  | .ok (.ow xs) => ∀ p vs H', Ext H H' → Fresh H p → H' p = some (.lst vs) → Reps K mg H' (more P p) xs vs → Q (.ref p) H'
/-- a def's promise by its function on data -/
def spD (K : PySem.W.Frag) (mg : Mg) (n : Nat) (G : Fd) : Sp := fun vs H Q E => ∃ P ds, ds.length = n ∧ (∀ a, P a → ∃ o, H a = some o ∧ ∀ ps, o ≠ .tbl ps) ∧ LamX.Tabs (TbC.T) H ∧ Reps K mg H P ds vs ∧ OOut K mg P H Q E (G ds)
def startE (n : Nat) (ds : List Dt) : Ev := ds.map .d ++ List.replicate (n - ds.length) .u
def bodyR : Rs → Rz Str Oc
  | .bad => .bad
  | .ex (c, _) => .ex c
  | .ok (.nx _) => .ok (.va .non)
  | .ok (.rt d) => .ok (.va d)
  | .ok (.ro xs) => .ok (.ow xs)
  | .ok (.bk _) => .bad
  | .ok (.ct _) => .bad
def bodyF (n : Nat) (g : Sg) : Fd := fun ds => bodyR (g (startE n ds))
theorem sok_start {K : PySem.W.Frag} {mg : Mg} {N : List Str} {P : Pv} {H : Hp} {ds : List Dt} {vs : List V} (hp : ∀ a, P a → ∃ o, H a = some o ∧ ∀ ps, o ≠ .tbl ps) (ht : LamX.Tabs (TbC.T) H) (r : Reps K mg H P ds vs) : SOk K mg ⟨H, P, no⟩ (L2.start N vs) H (startE N.length ds) := by
  have no_own : ∀ (i : Nat) (l : Lc), (startE N.length ds)[i]? = some l → ¬ l.isO := fun i l h o => by
    unfold startE at h
    rw [List.getElem?_append] at h
    split at h
    · rw [List.getElem?_map] at h
      cases q : ds[i]? with
      | none => rw [q] at h; cases h
      | some d => rw [q] at h; cases h; exact o
    · rw [List.getElem?_replicate] at h
      split at h
      · cases h; exact o
      · cases h
  have ow : ∀ a, ¬ ownA (L2.start N vs) (startE N.length ds) a := fun a ⟨i, l, h1, h2, _⟩ => no_own i l h1 h2
  have pp : ∀ a, prv ⟨H, P, no⟩ (L2.start N vs) (startE N.length ds) a → P a := fun a z => z.elim (fun z => z) fun z => (ow a z).elim
  refine ⟨⟨?_, fun a h => hp a (pp a h), fun i l h => ?_, ht⟩, Xt.refl, hp, fun i l a h1 h2 _ => (no_own i l h1 h2).elim, fun i xs a h1 _ => (no_own i _ h1 trivial).elim, fun i j l l' a _ h1 h2 _ _ _ => (no_own i l h1 h2).elim⟩
  · unfold startE L2.start
    rw [List.length_append, List.length_append, List.length_map, List.length_map, List.length_replicate, List.length_replicate, r.length]
  · unfold startE at h
    rw [List.getElem?_append] at h
    split at h
    · rename_i hi
      rw [List.getElem?_map] at h
      cases q : ds[i]? with
      | none => rw [q] at h; cases h
      | some d =>
        rw [q] at h
        cases h
        obtain ⟨v, h1, h2⟩ := r.get q
        refine ⟨v, ?_, Rep.tr (Tr.less pp) _ _ h2⟩
        have hv : i < vs.length := (List.getElem?_eq_some_iff.mp h1).1
        unfold L2.start
        rw [List.getElem?_append_left (by simpa using hv), List.getElem?_map, h1]
        rfl
    · rw [List.getElem?_replicate] at h
      split at h
      · cases h; trivial
      · cases h
section
variable {P : Program} {w : World} {K : PySem.W.Frag} {mg : Str → Option Value} {base : Heap}
/-- the wish of a def's body -/
abbrev wE (E : XK) : WX := fun cls d _ H => E cls d H
theorem fn_D {x qual : Str} {st : Stmt} {fa : Addr} {fd : FuncData} {N ps : List Str} {k : Nat} {g : Sg} (F : Fun K x qual st fa fd) (S : FnScope N ps (defScope st))
    (hbody : ∀ (cdv : Value) (A : Around) (outer : List Env) (s : Shared) (H : Hp) (E : XK), Room k (A.deeper (envOfC qual (defScope st) s.heap.objs.size fa cdv)) →
      SDs (cxOf (L2.CX P w) P w K mg base N qual (defScope st) fa cdv A outer s H E) (wE E) (defBody st) g) : FnOk P w K mg base (L2.CX P w) (k + 1) fa fd ps (spD K mg ps.length (bodyF N.length g)) := by
  refine F.okX S (fun vs H Q E ⟨_, _, hn, _, _, r, _⟩ => by rw [← r.length]; exact hn) (fun cdv A outer s H vs Q E hr h => ?_)
  obtain ⟨P', ds, hl, hp, ht, r, q⟩ := h
  refine ⟨_, hbody cdv A outer s H E hr ⟨H, P', no⟩, startE N.length ds, sok_start hp ht r, ?_⟩
  unfold bodyF at q
  cases hg : g (startE N.length ds) with
  | bad => rw [hg] at q; exact q
  | ex ce =>
    obtain ⟨c, ε⟩ := ce
    rw [hg] at q
    obtain ⟨C, h1, h2⟩ := q
    exact ⟨C, h1, fun σ H' S' => h2 H' S'.x⟩
  | ok re =>
    rw [hg] at q
    cases re with
    | nx ε => exact fun σ H' S' => q .non H' S'.x rfl
    | rt d => exact fun v H' x rv => q v H' x rv
    | ro xs => exact fun p vs H' x fr np hl rv => q p vs H' x (fr.resolve_right fun z => z) hl rv
    | bk ε => exact q.elim
    | ct ε => exact q.elim
end
/-! ### calls -/
def callF (n : Nat) (G : Fd) (fs : Fs) : Fn := fun ε => (fs ε).bind fun ds => if ds.length = n then (G ds).bind fun o => .ok o.dt else .bad
def callN (n : Nat) (G : Fd) (fs : Fs) : Fs := fun ε => (fs ε).bind fun ds => if ds.length = n then (G ds).bind fun o => match o with
  | .ow xs => .ok xs
  | .va _ => .bad else .bad
theorem OOut.toD {P : Pv} {σ : St} {H H1 : Hp} {Q : VK} {ε : Ev} {r : Rz Str Oc} (E : EOk X.K X.mg P σ H ε) (e : Ext H H1) (q : Out X W σ H (r.bind fun o => .ok o.dt) fun d => ∀ v H', Ext H H' → Rep X.K X.mg H' P d v → Q v H') : OOut X.K X.mg P H1 Q (WE W σ) r := by
  cases r with
  | bad => exact q
  | ex c => obtain ⟨C, h1, h2⟩ := q; exact ⟨C, h1, fun H' x => h2 H' (e.trans x)⟩
  | ok o =>
    cases o with
    | va d => exact fun v H' x rv => q v H' (e.trans x) rv
    | ow xs => exact fun p vs H' x fr hl rv => q (.ref p) H' (e.trans x) ⟨p, vs, rfl, hl, E.ne (e.fresh fr), Reps.tr (Tr.less fun a z => .inl z) _ _ rv⟩
theorem OOut.toN {P : Pv} {σ : St} {H H1 : Hp} {Q : VK} {r : Rz Str Oc} (e : Ext H H1) (q : Out X W σ H (r.bind fun o => match o with | .ow xs => .ok xs | .va _ => .bad) fun ds => ∀ p vs H', Ext H H' → Fresh H p → H' p = some (.lst vs) → Reps X.K X.mg H' (more P p) ds vs → Q (.ref p) H') : OOut X.K X.mg P H1 Q (WE W σ) r := by
  cases r with
  | bad => exact q
  | ex c => obtain ⟨C, h1, h2⟩ := q; exact ⟨C, h1, fun H' x => h2 H' (e.trans x)⟩
  | ok o =>
    cases o with
    | va d => exact q.elim
    | ow xs => exact fun p vs H' x fr hl rv => q p vs H' (e.trans x) (e.fresh fr) hl rv
section
variable {k : Nat} {fa C : Addr} {fd : FuncData} {ps : List Str} {x m : Str} {fs : Fs} {G : Fd} {n : Nat} {o : Expr} {apos : Pos}
theorem sp_of {P : Pv} {σ : St} {H H1 : Hp} {Q : VK} {ε : Ev} {ds : List Dt} {vs : List V} (E : EOk X.K X.mg P σ H ε) (e : Ext H H1) (r : Reps X.K X.mg H1 P ds vs) (q : Out X W σ H (if ds.length = n then (G ds).bind fun o => .ok o.dt else .bad) fun d => ∀ v H', Ext H H' → Rep X.K X.mg H' P d v → Q v H') :
    spD X.K X.mg n G vs H1 Q (WE W σ) := by
  by_cases z : ds.length = n
  · rw [if_pos z] at q
    exact ⟨P, ds, z, (E.ext e).tk, (E.ext e).tb, r, OOut.toD E e q⟩
  · rw [if_neg z] at q
    exact q.elim
theorem spN_of {P : Pv} {σ : St} {H H1 : Hp} {Q : VK} {ε : Ev} {ds : List Dt} {vs : List V} (E : EOk X.K X.mg P σ H ε) (e : Ext H H1) (r : Reps X.K X.mg H1 P ds vs) (q : Out X W σ H (if ds.length = n then (G ds).bind fun o => match o with | .ow xs => .ok xs | .va _ => .bad else .bad) fun ds => ∀ p vs H', Ext H H' → Fresh H p → H' p = some (.lst vs) → Reps X.K X.mg H' (more P p) ds vs → Q (.ref p) H') :
    spD X.K X.mg n G vs H1 Q (WE W σ) := by
  by_cases z : ds.length = n
  · rw [if_pos z] at q
    exact ⟨P, ds, z, (E.ext e).tk, (E.ext e).tb, r, OOut.toN e q⟩
  · rw [if_neg z] at q
    exact q.elim
theorem pd_call (Fk : FnOk X.prog X.w X.K X.mg X.base (L2.CX X.prog X.w) k fa fd ps (spD X.K X.mg n G)) (hr : Room k X.A) (hm : X.mg x = some (.ref fa)) (hk : PySem.W.keepIn X.K (.ref fa) = true) (hb : L2.Binds X.K fd ps []) (tk : Takes X W)
    (ha : AD X W (e :: es) fs) (hg : Gl X x := by rfl) (hdb : (x == ("__debug__" : Str)) = false := by decide) (he : starEach (e :: es) X.env = (false, eval e X.env) :: starEach es X.env := by rfl) (hpl : (backTo pos (starEach es X.env)).any (·.1) = false := by rfl) :
    PD X W (.Call (.Name x p) (e :: es) [] pos) (callF n G fs) := pe_weak (pe_callS Fk hr hg hm hk hb (fun σ => passAt tk σ) ha hdb he hpl) fun σ H Q ⟨P, ε, E, q⟩ =>
  ⟨P, ε, E, q.bind.mono fun ds q vs H1 e1 r => sp_of E e1 r q⟩
theorem pn_call (Fk : FnOk X.prog X.w X.K X.mg X.base (L2.CX X.prog X.w) k fa fd ps (spD X.K X.mg n G)) (hr : Room k X.A) (hm : X.mg x = some (.ref fa)) (hk : PySem.W.keepIn X.K (.ref fa) = true) (hb : L2.Binds X.K fd ps []) (tk : Takes X W)
    (ha : AD X W (e :: es) fs) (hg : Gl X x := by rfl) (hdb : (x == ("__debug__" : Str)) = false := by decide) (he : starEach (e :: es) X.env = (false, eval e X.env) :: starEach es X.env := by rfl) (hpl : (backTo pos (starEach es X.env)).any (·.1) = false := by rfl) :
    PN X W (.Call (.Name x p) (e :: es) [] pos) (callN n G fs) := pe_weak (pe_callS Fk hr hg hm hk hb (fun σ => passAt tk σ) ha hdb he hpl) fun σ H Q ⟨P, ε, E, q⟩ =>
  ⟨P, ε, E, q.bind.mono fun ds q vs H1 e1 r => spN_of E e1 r q⟩
/-! a module's constants -/
theorem pd_glob {x : Str} {d : Dt} {v : V} {u : Value} (hm : X.mg x = some u) (r : RelV v u) (hd : ∀ H P, Rep X.K X.mg H P d v) (hg : Gl X x := by rfl) (hdb : (x == ("__debug__" : Str)) = false := by decide) : PD X W (.Name x pos) (kc d) :=
  pe_weak (pe_glob hg hm r hdb) fun σ H Q ⟨P, ε, E, q⟩ => q v H Ext.refl (hd H P)
end
end DL
end
section
set_option Elab.async false
set_option linter.all false
set_option maxRecDepth 100000
set_option autoImplicit false
namespace DL
open PySem PySem.Spec PyProof.Rows L2
variable [TbC]
variable {X : Cx} {W : WX} {e a b c : Expr} {es rest : List Expr} {f g h : Fn} {pos p : Pos}
/-! ### minus -/
def negD : Dt → Option Dt
  | .int i => some (.int (-i))
  | _ => none
theorem dNeg (ha : PB X W a f) : PD X W (.UnaryOp .USub a pos) (un negD f) := pe_weak (pe_un un_neg ha) fun σ H Q ⟨P, ε, E, q⟩ =>
  ⟨P, ε, E, q.bind.mono fun d q v H1 e r => by
    obtain ⟨d', h1, q⟩ := q.ofO
    cases d with
    | int i => cases h1; exact ⟨i, r, q _ H1 e rfl⟩
    | _ => cases h1⟩
/-! ### slices -/
def cutG {α : Type} (xs : List α) (lo hi : Option Int) : List α := (xs.drop (HT.sIx xs.length 0 lo)).take (HT.sIx xs.length xs.length hi - HT.sIx xs.length 0 lo)
theorem Reps.cut {K : PySem.W.Frag} {mg : Mg} {H : Hp} {P : Pv} {ds : List Dt} {vs : List V} (r : Reps K mg H P ds vs) (lo hi : Option Int) : Reps K mg H P (cutG ds lo hi) (cutV vs lo hi) := by
  unfold cutG cutV
  rw [r.length]
  exact (r.drop _).take _
abbrev Pf := Ev → Rz Str (Option Int)
def tPo (X : Cx) (W : WX) (k : Pf) : TO := fun σ H Q => ∃ P ε, EOk X.K X.mg P σ H ε ∧ Out X W σ H (k ε) fun o => ∀ H', Ext H H' → Q o H'
def PoD (X : Cx) (W : WX) (e : Option Expr) (k : Pf) : Prop := PO X e (tPo X W k)
theorem po_weak {e : Option Expr} {t t' : TO} (h : PO X e t) (k : ∀ σ H Q, t' σ H Q → t σ H Q) : PO X e t' := by
  obtain ⟨r⟩ := h
  exact ⟨fun pins s σ H Q I q => r pins s σ H Q I (k σ H Q q)⟩
def noP : Pf := fun _ => .ok none
def soP (f : Fn) : Pf := fun ε => (f ε).bind fun d => match d with
  | .int i => .ok (some i)
  | _ => .bad
theorem po0 : PoD X W none noP := po_weak L2.po_none fun σ H Q ⟨P, ε, E, q⟩ => q H Ext.refl
theorem po1 (ha : PB X W e f) : PoD X W (some e) (soP f) := po_weak (L2.po_some ha) fun σ H Q ⟨P, ε, E, q⟩ =>
  ⟨P, ε, E, q.bind.mono fun d q v H1 x r => by
    cases d with
    | int i => exact ⟨i, r, q H1 x⟩
    | _ => exact q.elim⟩
def slD : Dt → Option Int → Option Int → Option Dt
  | .lst xs, lo, hi => some (.lst (cutG xs lo hi))
  | .frl xs, lo, hi => some (.lst (cutG xs lo hi))
  | .tup xs, lo, hi => if HT.sIx xs.length 0 lo = 0 ∧ HT.sIx xs.length xs.length hi = xs.length then none else some (.tup (cutG xs lo hi))
  | .str z, lo, hi => if z.length ≤ sizeLine then some (.str (cutS z lo hi)) else none
  | _, _, _ => none
def slF (f : Fn) (lo hi : Pf) : Fn := fun ε => (f ε).bind fun x => (lo ε).bind fun l => (hi ε).bind fun u => .ofO (slD x l u)
theorem dSl {lo hi : Option Expr} {l u : Pf} {p2 : Pos} (ha : PB X W e f) (hl : PoD X W lo l) (hu : PoD X W hi u) : PD X W (.Subscript e (.Slice lo hi none p2) pos) (slF f l u) :=
  pe_weak (pe_slice (sl_list.or (sl_tup.or sl_str)) ha hl hu) fun σ H Q ⟨P, ε, E, q⟩ =>
  ⟨P, ε, E, q.bind.mono fun d q v H1 e1 r => ⟨P, ε, E.ext e1, (q.bind.ext e1).mono fun lo q H2 e2 => ⟨P, ε, (E.ext e1).ext e2, (q.bind.ext (e1.trans e2)).mono fun hi q H3 e3 => by
    obtain ⟨d', h1, q⟩ := q.ofO
    have r3 := (r.ext e2).ext e3
    have e0 := (e1.trans e2).trans e3
    cases d with
    | lst xs =>
      cases h1
      obtain ⟨a, vs, rfl, h2, h3⟩ := r3
      exact .inl ⟨a, vs, rfl, .of h2, fun p hp => q _ _ (e0.trans (Ext.new hp)) ⟨p, _, rfl, upd_same, (((E.ext e1).ext e2).ext e3).ne (.of hp), (h3.cut lo hi).ext (Ext.new hp)⟩⟩
    | frl xs =>
      cases h1
      obtain ⟨a, vs, rfl, h2, h3⟩ := r3
      exact .inl ⟨a, vs, rfl, h2.sq, fun p hp => q _ _ (e0.trans (Ext.new hp)) ⟨p, _, rfl, upd_same, (((E.ext e1).ext e2).ext e3).ne (.of hp), (h3.cut lo hi).ext (Ext.new hp)⟩⟩
    | tup xs =>
      by_cases hz : HT.sIx xs.length 0 lo = 0 ∧ HT.sIx xs.length xs.length hi = xs.length
      · rw [slD, if_pos hz] at h1
        cases h1
      · rw [slD, if_neg hz] at h1
        cases h1
        obtain ⟨a, vs, rfl, h2, h3⟩ := r3
        exact .inr (.inl ⟨a, vs, rfl, h2, by rw [← h3.length]; exact hz, fun p hp => q _ _ (e0.trans (Ext.new hp)) ⟨p, _, rfl, .of upd_same, (h3.cut lo hi).ext (Ext.new hp)⟩⟩)
    | str z =>
      by_cases hz : z.length ≤ sizeLine
      · rw [slD, if_pos hz] at h1
        cases h1
        exact .inr (.inr ⟨z, r3, hz, q _ H3 e0 rfl⟩)
      · rw [slD, if_neg hz] at h1
        cases h1
    | non => cases h1
    | bl _ => cases h1
    | int _ => cases h1
    | ins _ _ _ => cases h1
    | fn _ _ _ _ _ => cases h1⟩⟩⟩
/-! ### sorted of whole numbers -/
def putI (x : Int) : List Int → List Int
  | [] => [x]
  | y :: r => if x ≤ y then x :: y :: r else y :: putI x r
def sortI : List Int → List Int
  | [] => []
  | x :: r => putI x (sortI r)
theorem putI_perm (x : Int) : ∀ r : List Int, (putI x r).Perm (x :: r)
  | [] => .refl _
  | y :: r => by
    unfold putI
    split
    · exact .refl _
    · exact ((putI_perm x r).cons y).trans (.swap x y r)
theorem sortI_perm : ∀ r : List Int, (sortI r).Perm r
  | [] => .refl _
  | x :: r => (putI_perm x (sortI r)).trans ((sortI_perm r).cons x)
theorem putI_up (x : Int) : ∀ r : List Int, r.Pairwise (· ≤ ·) → (putI x r).Pairwise (· ≤ ·)
  | [], _ => List.pairwise_singleton _ _
  | y :: r, h => by
    have h' := List.pairwise_cons.mp h
    unfold putI
    split
    · rename_i hxy
      refine List.pairwise_cons.mpr ⟨fun z hz => ?_, h⟩
      rcases List.mem_cons.mp hz with rfl | hz
      · exact hxy
      · exact Int.le_trans hxy (h'.1 z hz)
    · rename_i hxy
      refine List.pairwise_cons.mpr ⟨fun z hz => ?_, putI_up x r h'.2⟩
      rcases List.mem_cons.mp ((putI_perm x r).mem_iff.mp hz) with rfl | hz
      · omega
      · exact h'.1 z hz
theorem sortI_up : ∀ r : List Int, (sortI r).Pairwise (· ≤ ·)
  | [] => .nil
  | x :: r => putI_up x _ (sortI_up r)
theorem up_same : ∀ {xs ys : List Int}, xs.Perm ys → xs.Pairwise (· ≤ ·) → ys.Pairwise (· ≤ ·) → xs = ys
  | [], ys, h, _, _ => (List.Perm.nil_eq h)
  | x :: xs, [], h, _, _ => absurd h.symm.nil_eq (by simp)
  | x :: xs, y :: ys, h, h1, h2 => by
    have a1 := List.pairwise_cons.mp h1
    have a2 := List.pairwise_cons.mp h2
    have e : x = y := by
      have m1 : x ∈ y :: ys := h.mem_iff.mp List.mem_cons_self
      have m2 : y ∈ x :: xs := h.mem_iff.mpr List.mem_cons_self
      rcases List.mem_cons.mp m1 with e | m1
      · exact e
      · rcases List.mem_cons.mp m2 with e | m2
        · exact e.symm
        · have := a1.1 y m2
          have := a2.1 x m1
          omega
    subst e
    rw [up_same (List.perm_cons _ |>.mp h) a1.2 a2.2]
def sortD : Dt → Option (List Dt) := fun x => x.items.bind fun ds => (asI ds).bind fun ns => some ((sortI ns).map .int)
theorem sort_ok : UnN X (rSortedI X.K) sortD := fun x H Q P dx d tk r1 e q => by
  unfold sortD at e
  cases e1 : dx.items with
  | none => rw [e1] at e; cases e
  | some ds =>
    rw [e1, Option.bind_some] at e
    cases e2 : asI ds with
    | none => rw [e2] at e; cases e
    | some ns =>
      rw [e2] at e
      cases e
      rw [ints_some e2] at e1
      obtain ⟨a, vs, rfl, h3, h4⟩ := items_rep r1 e1
      rw [h4.ints] at h3
      exact ⟨a, ns, rfl, h3, fun ns' p h5 h6 hp => by
        rw [up_same (h5.trans (sortI_perm ns).symm) h6 (sortI_up ns)]
        exact q p _ _ (Ext.new hp) (.of hp) upd_same (Reps.ofInts _)⟩
theorem nSorted (hm : X.mg "sorted" = none) (ha : PB X W e f) (hg : Gl X "sorted" := by rfl) (he : starEach [e] X.env = [(false, eval e X.env)] := by rfl) : PN X W (.Call (.Name "sorted" p) [e] [] pos) (unN sortD f) :=
  pn_b1 cr_sortedI sort_ok (by decide +kernel) (by decide) (by decide) hm ha hg he
end DL
end
section
set_option Elab.async false
set_option linter.all false
set_option maxRecDepth 100000
set_option autoImplicit false
namespace DL
open PySem PySem.Spec PyProof.Rows L2
variable [TbC]
/-! ### a def of the text by its name -/
section
variable {P : Program} {w : World} {K : PySem.W.Frag} {mg : Str → Option Value} {base : Heap}
/-- the def named x, of n parameters, does G -/
structure Df (P : Program) (w : World) (K : PySem.W.Frag) (mg : Str → Option Value) (base : Heap) (lv : Nat) (x : Str) (n : Nat) (G : Fd) : Prop where
  ex : ∃ fa fd ps, FnOk P w K mg base (L2.CX P w) lv fa fd ps (spD K mg n G) ∧ mg x = some (.ref fa) ∧ PySem.W.keepIn K (.ref fa) = true ∧ L2.Binds K fd ps []
theorem fnD_ok {x qual : Str} {st : Stmt} {fa : Addr} {fd : FuncData} {N ps : List Str} {k : Nat} {g : Sg} (F : FunD K x qual (defArgs st) (defBody st) (defScope st) [] [] fa fd) (S : FnScope N ps (defScope st))
    (hbody : ∀ (cdv : Value) (A : Around) (outer : List Env) (s : Shared) (H : Hp) (E : XK), Room k (A.deeper (envOfC qual (defScope st) s.heap.objs.size fa cdv)) → Takes (cxOf (L2.CX P w) P w K mg base N qual (defScope st) fa cdv A outer s H E) (wE E) →
      SDs (cxOf (L2.CX P w) P w K mg base N qual (defScope st) fa cdv A outer s H E) (wE E) (defBody st) g) : FnOk P w K mg base (L2.CX P w) (k + 1) fa fd ps (spD K mg ps.length (bodyF N.length g)) := by
  refine F.ok S (fun vs H Q E ⟨_, _, hn, _, _, r, _⟩ => by rw [← r.length]; exact hn) (fun cdv A outer s H vs Q E hr h => ?_)
  obtain ⟨P', ds, hl, hp, ht, r, q⟩ := h
  refine ⟨_, hbody cdv A outer s H E hr (takes_of rfl rfl rfl rfl) ⟨H, P', no⟩, startE N.length ds, sok_start hp ht r, ?_⟩
  unfold bodyF at q
  cases hg : g (startE N.length ds) with
  | bad => rw [hg] at q; exact q
  | ex ce =>
    obtain ⟨c, ε⟩ := ce
    rw [hg] at q
    obtain ⟨C, h1, h2⟩ := q
    exact ⟨C, h1, fun σ H' S' => h2 H' S'.x⟩
  | ok re =>
    rw [hg] at q
    cases re with
    | nx ε => exact fun σ H' S' => q .non H' S'.x rfl
    | rt d => exact fun v H' x rv => q v H' x rv
    | ro xs => exact fun p vs H' x fr np hl rv => q p vs H' x (fr.resolve_right fun z => z) hl rv
    | bk ε => exact q.elim
    | ct ε => exact q.elim
theorem df_mk {x qual : Str} {st : Stmt} {fa : Addr} {fd : FuncData} {N ps : List Str} {k n : Nat} {g : Sg} {G : Fd} (F : FunD K x qual (defArgs st) (defBody st) (defScope st) [] [] fa fd) (S : FnScope N ps (defScope st)) (hm : mg x = some (.ref fa))
    (hb : ∀ (kV doc pm : Value) (an : Option Addr) (cdv ct : Value) (us : List Value), us.length = ps.length → bindArgs (PySem.W.fnOf x qual (defArgs st) (defBody st) (defScope st) .none kV doc pm an cdv ct) ⟨us, []⟩ = pure (ps.zip us))
    (hbody : ∀ (cdv : Value) (A : Around) (outer : List Env) (s : Shared) (H : Hp) (E : XK), Room k (A.deeper (envOfC qual (defScope st) s.heap.objs.size fa cdv)) → Takes (cxOf (L2.CX P w) P w K mg base N qual (defScope st) fa cdv A outer s H E) (wE E) →
      SDs (cxOf (L2.CX P w) P w K mg base N qual (defScope st) fa cdv A outer s H E) (wE E) (defBody st) g) (hn : n = ps.length := by rfl) (hG : G = bodyF N.length g := by rfl) : Df P w K mg base (k + 1) x n G := by
  subst hn hG
  exact ⟨fa, fd, ps, fnD_ok F S hbody, hm, F.kp, F.bindsN hb⟩
end
section
variable {X : Cx} {W : WX} {e : Expr} {es : List Expr} {pos p : Pos} {k j n : Nat} {x : Str} {fs : Fs} {G : Fd}
theorem dCall (Fk : Df X.prog X.w X.K X.mg X.base j x n G) (hr : Room k X.A) (hj : j ≤ k) (tk : Takes X W) (ha : AD X W (e :: es) fs) (hg : Gl X x := by rfl) (hdb : (x == ("__debug__" : Str)) = false := by decide) (he : starEach (e :: es) X.env = (false, eval e X.env) :: starEach es X.env := by rfl) (hpl : (backTo pos (starEach es X.env)).any (·.1) = false := by rfl) :
    PD X W (.Call (.Name x p) (e :: es) [] pos) (callF n G fs) := by
  obtain ⟨fa, fd, ps, h1, h2, h3, h4⟩ := Fk.ex
  exact pd_call h1 (hr.mono hj) h2 h3 h4 tk ha hg hdb he hpl
theorem nCall (Fk : Df X.prog X.w X.K X.mg X.base j x n G) (hr : Room k X.A) (hj : j ≤ k) (tk : Takes X W) (ha : AD X W (e :: es) fs) (hg : Gl X x := by rfl) (hdb : (x == ("__debug__" : Str)) = false := by decide) (he : starEach (e :: es) X.env = (false, eval e X.env) :: starEach es X.env := by rfl) (hpl : (backTo pos (starEach es X.env)).any (·.1) = false := by rfl) :
    PN X W (.Call (.Name x p) (e :: es) [] pos) (callN n G fs) := by
  obtain ⟨fa, fd, ps, h1, h2, h3, h4⟩ := Fk.ex
  exact pn_call h1 (hr.mono hj) h2 h3 h4 tk ha hg hdb he hpl
end
section
variable {X : Cx} {W : WX} {a b c : Expr} {f g h : Fn} {pos p : Pos} {k : Nat}
theorem tEq (hr : Room k X.A) (ha : PB X W a f) (hb : PB X W b g) : TD X W (.Compare a [.Eq] [b] pos) (tst (bin eqD f g)) := td_cmp (op_eqD hr.units) eq_ok ha hb (nomark _)
theorem tNe (hr : Room k X.A) (ha : PB X W a f) (hb : PB X W b g) : TD X W (.Compare a [.NotEq] [b] pos) (tst (bin neD f g)) := td_cmp (op_neD hr.units) ne_ok ha hb (nomark _)
theorem tLt (ha : PB X W a f) (hb : PB X W b g) : TD X W (.Compare a [.Lt] [b] pos) (tst (bin ltD f g)) := td_cmp op_lt cmp_ok ha hb (nomark _)
theorem tLe (ha : PB X W a f) (hb : PB X W b g) : TD X W (.Compare a [.LtE] [b] pos) (tst (bin leD f g)) := td_cmp op_le cmp_ok ha hb (nomark _)
theorem tGt (ha : PB X W a f) (hb : PB X W b g) : TD X W (.Compare a [.Gt] [b] pos) (tst (bin gtD f g)) := td_cmp op_gt cmp_ok ha hb (nomark _)
theorem tGe (ha : PB X W a f) (hb : PB X W b g) : TD X W (.Compare a [.GtE] [b] pos) (tst (bin geD f g)) := td_cmp op_ge cmp_ok ha hb (nomark _)
theorem tIsN (ha : PB X W a f) (hb : PB X W b g) : TD X W (.Compare a [.Is] [b] pos) (tst (bin isND f g)) := td_cmp op_isN isN_ok ha hb (nomark _)
theorem tNotN (ha : PB X W a f) (hb : PB X W b g) : TD X W (.Compare a [.IsNot] [b] pos) (tst (bin notND f g)) := td_cmp op_notN notN_ok ha hb (nomark _)
end
/-! ### a law's end -/
/-- a law's own promise: of a script of at most 63 whole numbers, True -/
def spLaw (K : PySem.W.Frag) : Sp := fun vs H Q _ => ∃ (a : Addr) (ns : List Int), vs = [.ref a] ∧ SqL K H a (ns.map V.int) ∧ LamX.Tabs (TbC.T) H ∧ ns.length ≤ 63 ∧ ∀ H', Q (.bl true) H'
theorem law_ok {P : Program} {w : World} {K : PySem.W.Frag} {mg : Str → Option Value} {base : Heap} {k : Nat} {fa : Addr} {fd : FuncData} {x : Str} {G : Fd} (F : FnOk P w K mg base (L2.CX P w) k fa fd [x] (spD K mg 1 G))
    (hG : ∀ ns : List Int, ns.length ≤ 63 → G [.frl (ns.map .int)] = .ok (.va (.bl true))) : FnOk P w K mg base CX0 k fa fd [x] (spLaw K) := by
  have key : ∀ vs H Q E, spLaw K vs H Q E → spD K mg 1 G vs H Q E0 := fun vs H Q E ⟨a, ns, e, hs, ht, hl, q⟩ => by
    subst e
    refine ⟨no, [.frl (ns.map .int)], rfl, fun _ z => z.elim, ht, ⟨_, _, rfl, ⟨a, _, rfl, SqF.of hs, Reps.ofInts ns⟩, rfl⟩, ?_⟩
    rw [hG ns hl]
    exact fun v H' _ r => by rw [show v = .bl true from r]; exact q H'
  refine ⟨fun vs H Q E h => F.len vs H Q E0 (key vs H Q E h), fun A outer s H args us vs Q E hr e0 hb hv hs => codeAny_mono (F.run A outer s H args us vs Q E0 hr e0 hb hv (key vs H Q E hs)) fun r s' hq => ?_⟩
  cases r with
  | error e =>
    obtain ⟨_, _, _, _, _, _, _, _, _, _, _, _, z⟩ := hq
    exact z.elim
  | ok fl => cases fl <;> exact hq
end DL
end
section
set_option Elab.async false
set_option linter.all false
set_option maxRecDepth 100000
set_option autoImplicit false
namespace DL
open PySem PySem.Spec PyProof.Rows L2
variable [TbC]
variable {X : Cx} {W : WX} {e a b c : Expr} {es rest : List Expr} {f g h : Fn} {pos p : Pos}
/-! ### is True, is False -/
def isBD : O2
  | .bl x, .bl y => some (.bl (decide (x = y)))
  | .tup _, .bl _ => some (.bl false)
  | _, _ => none
def rIsBo : R2 := fun x y H Q => ∃ k : Bool, y = .bl k ∧ ((∃ j : Bool, x = .bl j ∧ Q (.bl (decide (j = k))) H) ∨ ∃ a, x = .ref a ∧ Q (.bl false) H)
theorem op_isBo : OpR X (compareOp .Is) rIsBo := by
  intro pins s σ H x y v u Q I rx ry h
  obtain ⟨k, rfl, h⟩ := h
  cases (show u = Value.bool k from ry)
  rcases h with ⟨j, rfl, q⟩ | ⟨a, rfl, q⟩
  · cases (show v = Value.bool j from rx)
    by_cases e : j = k
    · subst e
      exact wpAny_is_self rfl ⟨.bl true, H, I, rfl, by simpa using q⟩
    · exact wpAny_is_other rfl (fun z => e (Value.bool.inj z)) ⟨.bl false, H, I, rfl, by simpa [e] using q⟩
  · cases (show v = Value.ref a from rx)
    exact wpAny_is_other rfl (fun z => nomatch z) ⟨.bl false, H, I, rfl, q⟩
theorem isB_ok : OpD X rIsBo isBD := fun x y H Q P dx dy d _ r1 r2 e q => by
  unfold isBD at e
  split at e
  · cases e
    exact ⟨_, r2, .inl ⟨_, r1, q _ H Ext.refl rfl⟩⟩
  · cases e
    obtain ⟨a, vs, rfl, _⟩ := r1
    exact ⟨_, r2, .inr ⟨a, rfl, q _ H Ext.refl rfl⟩⟩
  · cases e
theorem dIsB (ha : PB X W a f) (hb : PB X W b g) : PD X W (.Compare a [.Is] [b] pos) (bin isBD f g) := pd_cmp op_isBo isB_ok ha hb (nomark _)
theorem tIsB (ha : PB X W a f) (hb : PB X W b g) : TD X W (.Compare a [.Is] [b] pos) (tst (bin isBD f g)) := td_cmp op_isBo isB_ok ha hb (nomark _)
/-! ### in, of whole numbers -/
def inD : O2
  | .int i, .lst ds => (asI ds).map fun ns => .bl (ns.any fun j => j == i)
  | _, _ => none
theorem any_int (i : Int) (ns : List Int) : inV (.int i) (ns.map V.int) = ns.any fun j => j == i := by
  unfold inV
  rw [List.any_map]
  rfl
theorem flat_ints (ns : List Int) : (ns.map V.int).all flatV = true := by
  rw [List.all_map]
  exact List.all_eq_true.mpr fun _ _ => rfl
theorem in_ok : OpD X (rIn X.K false) inD := fun x y H Q P dx dy d _ r1 r2 e q => by
  unfold inD at e
  split at e
  · rename_i i ds
    cases e2 : asI ds with
    | none => rw [e2] at e; cases e
    | some ns =>
      rw [e2] at e
      cases e
      rw [ints_some e2] at r2
      obtain ⟨a, vs, rfl, h1, h2⟩ := r2
      rw [h2.ints] at h1
      refine ⟨a, _, rfl, .inl (.of h1), ?_, flat_ints ns, ?_⟩
      · rw [show x = V.int i from r1]; rfl
      · rw [show x = V.int i from r1, any_int]
        exact q _ H Ext.refl rfl
  · cases e
theorem dIn (ha : PB X W a f) (hb : PB X W b g) (hm : behindInMarks .In b = false := by rfl) : PD X W (.Compare a [.In] [b] pos) (bin inD f g) := pd_cmp op_in_seq in_ok ha hb hm
theorem tIn (ha : PB X W a f) (hb : PB X W b g) (hm : behindInMarks .In b = false := by rfl) : TD X W (.Compare a [.In] [b] pos) (tst (bin inD f g)) := td_cmp op_in_seq in_ok ha hb hm
/-! ### isinstance of a built-in class -/
def Dt.ty : Dt → Option String
  | .non => some "NoneType"
  | .bl _ => some "bool"
  | .int _ => some "int"
  | .str _ => some "str"
  | .tup _ => some "tuple"
  | .lst _ => some "list"
  | .frl _ => some "list"
  | .ins _ _ _ => none
  | .fn _ _ _ _ _ => none
def isiD (T : String) : Dt → Option Dt := fun d => d.ty.bind fun n => (kitB n T).map .bl
theorem rep_ty {H : Hp} {P : Pv} {d : Dt} {v : V} {n : String} (h : RepB X.K X.mg H P d v) (e : d.ty = some n) : TyX X.K H v (.type n) := by
  cases d with
  | non => cases e; rw [show v = V.non from h]; exact .base .non
  | bl x => cases e; rw [show v = V.bl x from h]; exact .base (.bl x)
  | int x => cases e; rw [show v = V.int x from h]; exact .base (.int x)
  | str x => cases e; rw [show v = V.str x from h]; exact .base (.str x)
  | tup ds =>
    cases e
    obtain ⟨a, vs, rfl, h1, _⟩ := h
    rcases h1 with (h1 | ⟨o, h1⟩) | ⟨o, its, n, h1, h2, _⟩
    · exact .base (.tup h1)
    · exact .fTuple h1
    · exact .kTuple h1 h2
  | lst ds =>
    cases e
    obtain ⟨a, vs, rfl, h1, _⟩ := h
    exact .base (.lst h1)
  | frl ds =>
    cases e
    obtain ⟨a, vs, rfl, h1, _⟩ := h
    rcases h1.sq with (h1 | ⟨o, h1⟩) | ⟨o, its, n, h1, h2, _⟩
    · exact .base (.lst h1)
    · exact .base (.frz h1)
    · exact .kList h1 h2
  | ins _ _ _ => cases e
  | fn _ _ _ _ _ => cases e
theorem dIsi {T : Str} {Ty : String} {p2 : Pos} (hm : X.mg "isinstance" = none) (hT : X.mg T = none) (ha : PB X W e f) (hv : bootBuiltins T = some (.type Ty) := by decide +kernel) (hg : Gl X "isinstance" := by rfl) (hgT : Gl X T := by rfl) (hn : T ≠ "__name__" := by decide) (hd : (T == ("__debug__" : Str)) = false := by decide)
    (he : starEach (e :: [.Name T p2]) X.env = (false, eval e X.env) :: starEach [.Name T p2] X.env := by rfl) (he2 : starEach [.Name T p2] X.env = [(false, eval (.Name T p2) X.env)] := by rfl) (hpl : (backTo pos (starEach [.Name T p2] X.env)).any (·.1) = false := by rfl) :
    PD X W (.Call (.Name "isinstance" p) [e, .Name T p2] [] pos) (un (isiD Ty) f) :=
  pe_weak (pe_callB call_isi hg hm boot_isinstance (pa_cons ha (pa_cons (pe_bltn (v := .ty Ty) hgT hT hv rfl hn hd) pa_nil he2) he) (by decide) (by decide) he hpl) fun σ H Q ⟨P, ε, E, q⟩ =>
    ⟨P, ε, E, q.bind.mono fun dx q x H1 e1 r1 => by
      obtain ⟨d, hh, q⟩ := q.ofO
      unfold isiD at hh
      cases e2 : dx.ty with
      | none => rw [e2] at hh; cases hh
      | some n =>
        rw [e2, Option.bind_some] at hh
        cases e3 : kitB n Ty with
        | none => rw [e3] at hh; cases hh
        | some bb =>
          rw [e3] at hh
          cases hh
          exact ⟨x, .ty Ty, .type n, .type Ty, bb, rfl, .ty Ty, rep_ty r1 e2, kit_ty e3, q _ H1 e1 rfl⟩⟩
/-! ### the module's tuples of whole numbers -/
theorem pd_tupI {x : Str} {ns : List Int} (hm : X.mg x = some (.ref (He.ga X.K x))) (hs : ∀ H, SqT X.K H (He.ga X.K x) (ns.map V.int)) (hg : Gl X x := by rfl) (hdb : (x == ("__debug__" : Str)) = false := by decide) : PD X W (.Name x pos) (kc (.tup (ns.map .int))) :=
  pd_glob (v := .ref (He.ga X.K x)) hm rfl (fun H P => ⟨_, _, rfl, hs H, Reps.ofInts ns⟩) hg hdb
theorem pd_intK {x : Str} {i : Int} (h : ∃ t, X.mg x = some (.int i t)) (hg : Gl X x := by rfl) (hdb : (x == ("__debug__" : Str)) = false := by decide) : PD X W (.Name x pos) (kc (.int i)) := by
  obtain ⟨t, h⟩ := h
  exact pd_glob (v := .int i) h ⟨t, rfl⟩ (fun _ _ => rfl) hg hdb
theorem pd_strK {x z : Str} (h : ∃ t, X.mg x = some (.str z t)) (hg : Gl X x := by rfl) (hdb : (x == ("__debug__" : Str)) = false := by decide) : PD X W (.Name x pos) (kc (.str z)) := by
  obtain ⟨t, h⟩ := h
  exact pd_glob (v := .str z) h ⟨t, rfl⟩ (fun _ _ => rfl) hg hdb
/-! ### one's own list is changed -/
/-- what an argument gives, and what the list is then -/
def chS (i : Nat) (f : Fs) (k : List Dt → List Dt → Option (List Dt)) : Sg := fun ε => match ε[i]? with
  | some (.o ds) => (exS ε (f ε)).bind fun xs => match k ds xs with
    | some es => .ok (.nx (ε.set i (.o es)))
    | none => .bad
  | _ => .bad
theorem ch_of {F : Frm} {D : Ends} {i : Nat} {fs : Fs} {k : List Dt → List Dt → Option (List Dt)} {ε : Ev} {σ : St} {H : Hp} {r : V → List V → Hp → VK → Prop} (S : SOk X.K X.mg F σ H ε) (q : SOut X F W D (chS i fs k ε))
    (hr : ∀ (a : Addr) (vs ws : List V) (ds xs es : List Dt) (H1 : Hp) (Q : VK), H1 a = some (.lst vs) → Reps X.K X.mg H1 (prv F σ ε) ds vs → Reps X.K X.mg H1 (prv F σ ε) xs ws → k ds xs = some es → (∀ us, Reps X.K X.mg H1 (prv F σ ε) es us → ∀ v, Q v (upd H1 a (.lst us))) → r (.ref a) ws H1 Q) :
    ∃ v, σ[i]? = some (some v) ∧ tyV X.K "list" v H ∧ tA X W fs σ H fun ws H1 => r v ws H1 fun _ H2 => D.nx σ H2 := by
  unfold chS at q
  split at q
  · rename_i ds hs
    obtain ⟨a, vs, h1, h2, h3, rr⟩ := S.slotO hs
    refine ⟨.ref a, h1, .inl ⟨rfl, vs, .of h3⟩, _, ε, S.e, (q.exp S).mono fun xs q ws H1 x rx => ?_⟩
    have S1 := S.ext x
    obtain ⟨b, us, g1, g2, g3, r1⟩ := S1.slotO hs
    rw [h2] at g2
    cases g2
    cases hk : k ds xs with
    | none => rw [hk] at q; exact q.elim
    | some es =>
      rw [hk] at q
      exact hr a us ws ds xs es H1 _ g3 r1 rx hk fun us2 r2 _ => by
        have S2 := S1.wr hs h2 r2
        have e : σ.set i (σ[i]?.join) = σ := by
          apply List.ext_getElem?
          intro j
          by_cases hj : i = j
          · subst hj
            rw [List.getElem?_set]
            simp only [if_true]
            rw [h1]
            split
            · rfl
            · rename_i hl
              rw [List.getElem?_eq_none (by omega)] at h1
              cases h1
          · rw [List.getElem?_set_ne hj]
        exact q σ _ S2
  · exact q.elim
theorem Reps.sing {K : PySem.W.Frag} {mg : Mg} {H : Hp} {P : Pv} {d : Dt} {ws : List V} (h : Reps K mg H P [d] ws) : ∃ w, ws = [w] ∧ Rep K mg H P d w := by
  obtain ⟨w, r, rfl, h1, h2⟩ := h
  exact ⟨w, by rw [show r = [] from h2], h1⟩
/-- xs.append(e) -/
def appK (ds xs : List Dt) : Option (List Dt) := match xs with
  | [x] => if ds.length < sizeLine then some (ds ++ [x]) else none
  | _ => none
def appS (i : Nat) (f : Fn) : Sg := chS i (consF f nilF) appK
theorem sd_append (i : Nat) {x : Str} {px p2 p3 : Pos} (he : PD X W e f) (hN : X.N[i]? = some x := by rfl) (hv : Vis X.env.scope x := by first | exact Or.inl rfl | exact Or.inr (Or.inl rfl) | exact Or.inr (Or.inr rfl)) (hd : (x == ("__debug__" : Str)) = false := by decide)
    (hcd : (x == ("__classdict__" : Str)) = false := by decide) (hbase : attributeBase (.Name x px) "append" X.env (eval (.Name x px) X.env) = eval (.Name x px) X.env := by rfl)
    (hfew : ((backTo p3 (starEach (e :: []) X.env)).all (fun x => !x.1) && (backToKw p3 (keywordEach [] X.env)).all (fun x => x.1.isSome) && decide ((e :: ([] : List Expr)).length + ([] : List Keyword).length + (if ([] : List Keyword).isEmpty then 0 else 1) < 30)) = true := by rfl)
    (hline : (p2.endLine == p3.line) = true := by rfl) (hs : starEach (e :: []) X.env = (false, eval e X.env) :: starEach [] X.env := by rfl) (hplain : (backTo p3 (starEach [] X.env)).any (·.1) = false := by rfl)
    (hsw : swapsWith (.Call (.Attribute (.Name x px) "append" p2) [e] [] p3) none pos.line X.env = pure false := by rfl) :
    SD X W (.Expr (.Call (.Attribute (.Name x px) "append" p2) [e] [] p3) pos) (appS i f) := fun F =>
  ps_weak (ps_expr (pe_bm PySem.F.plainAttrs_list PySem.F.slot_list_append PySem.F.type_list_append mt_append (pe_var (i := i) hN hv hd hcd) (ad_cons he ad_nil hs) hbase hfew hline hs hplain) hsw) fun D σ H ⟨ε, S, q⟩ =>
    ch_of S q fun a vs ws ds xs es H1 Q h1 r1 r2 hk k => by
      unfold appK at hk
      split at hk
      · rename_i x
        by_cases hl : ds.length < sizeLine
        · rw [if_pos hl] at hk
          cases hk
          obtain ⟨w, rfl, r3⟩ := Reps.sing r2
          exact ⟨a, vs, w, rfl, rfl, h1, by rw [← r1.length]; exact hl, k _ (Reps.append r1 ⟨w, [], rfl, r3, rfl⟩) _⟩
        · rw [if_neg hl] at hk; cases hk
      · cases hk
/-- xs.insert(i, e) -/
def insK (ds xs : List Dt) : Option (List Dt) := match xs with
  | [.int i, x] => if ds.length < sizeLine ∧ 0 ≤ i ∧ i < 2 ^ 63 then some (ds.take i.toNat ++ [x] ++ ds.drop i.toNat) else none
  | _ => none
def rInsert : V → List V → Hp → VK → Prop := fun x vs H Q => ∃ (l : Addr) (xs : List V) (i : Int) (y : V), x = .ref l ∧ vs = [.int i, y] ∧ H l = some (.lst xs) ∧ xs.length < sizeLine ∧ 0 ≤ i ∧ i < 2 ^ 63 ∧ Q .non (upd H l (.lst (xs.take i.toNat ++ [y] ++ xs.drop i.toNat)))
theorem mt_ins : MtR X "list.insert" rInsert := mt_insert
def insS (i : Nat) (f g : Fn) : Sg := chS i (consF f (consF g nilF)) insK
theorem sd_insert (i : Nat) {x : Str} {px p2 p3 : Pos} (ha : PD X W a f) (he : PD X W e g) (hN : X.N[i]? = some x := by rfl) (hv : Vis X.env.scope x := by first | exact Or.inl rfl | exact Or.inr (Or.inl rfl) | exact Or.inr (Or.inr rfl)) (hd : (x == ("__debug__" : Str)) = false := by decide)
    (hcd : (x == ("__classdict__" : Str)) = false := by decide) (hbase : attributeBase (.Name x px) "insert" X.env (eval (.Name x px) X.env) = eval (.Name x px) X.env := by rfl)
    (hfew : ((backTo p3 (starEach (a :: [e]) X.env)).all (fun x => !x.1) && (backToKw p3 (keywordEach [] X.env)).all (fun x => x.1.isSome) && decide ((a :: ([e] : List Expr)).length + ([] : List Keyword).length + (if ([] : List Keyword).isEmpty then 0 else 1) < 30)) = true := by rfl)
    (hline : (p2.endLine == p3.line) = true := by rfl) (hs : starEach (a :: [e]) X.env = (false, eval a X.env) :: starEach [e] X.env := by rfl) (hs2 : starEach (e :: []) X.env = (false, eval e X.env) :: starEach [] X.env := by rfl) (hplain : (backTo p3 (starEach [e] X.env)).any (·.1) = false := by rfl)
    (hsw : swapsWith (.Call (.Attribute (.Name x px) "insert" p2) [a, e] [] p3) none pos.line X.env = pure false := by rfl) :
    SD X W (.Expr (.Call (.Attribute (.Name x px) "insert" p2) [a, e] [] p3) pos) (insS i f g) := fun F =>
  ps_weak (ps_expr (pe_bm PySem.F.plainAttrs_list PySem.F.slot_list_insert PySem.F.type_list_insert mt_ins (pe_var (i := i) hN hv hd hcd) (ad_cons ha (ad_cons he ad_nil hs2) hs) hbase hfew hline hs hplain) hsw) fun D σ H ⟨ε, S, q⟩ =>
    ch_of S q fun a vs ws ds xs es H1 Q h1 r1 r2 hk k => by
      unfold insK at hk
      split at hk
      · rename_i i x
        by_cases hl : ds.length < sizeLine ∧ 0 ≤ i ∧ i < 2 ^ 63
        · rw [if_pos hl] at hk
          cases hk
          obtain ⟨w0, _, rfl, r3, r4⟩ := r2
          obtain ⟨w, rfl, r5⟩ := Reps.sing r4
          rw [show w0 = V.int i from r3]
          exact ⟨a, vs, i, w, rfl, rfl, h1, by rw [← r1.length]; exact hl.1, hl.2.1, hl.2.2, k _ (Reps.append (Reps.append (r1.take _) ⟨w, [], rfl, r5, rfl⟩) (r1.drop _)) _⟩
        · rw [if_neg hl] at hk; cases hk
      · cases hk
/-! ### what is looked at behind the head: facts, defs, and more -/
abbrev AlX : Type := He.AlD × Bool
section
variable {fa : List He.Fa} {fn : List He.DefD} {xs : List (PySem.W.Frag → Bool)}
def obsX (fa : List He.Fa) (fn : List He.DefD) (xs : List (PySem.W.Frag → Bool)) (K : PySem.W.Frag) : AlX := (He.obsD fa fn K, xs.all fun t => t K)
def obsXG (n : Nat) (fa : List He.Fa) (fn : List He.DefD) (xs : List (PySem.W.Frag → Bool)) (g : Addr → Option Obj) : AlX := obsX fa fn xs (He.frG g (He.asD g n))
def SaysX (fa : List He.Fa) (fn : List He.DefD) (xs : List (PySem.W.Frag → Bool)) (K : PySem.W.Frag) : Prop := obsX fa fn xs K = (He.valD fn, true)
def hookX (n : Nat) (fa : List He.Fa) (fn : List He.DefD) (xs : List (PySem.W.Frag → Bool)) : PySem.W.Hook where
  α := AlX
  obs := fun sh => obsXG n fa fn xs sh.heap.get?
  val := fun _w => (He.valD fn, true)
  says := fun _w hp => ∃ K : PySem.W.Frag, K.In hp ∧ SaysX fa fn xs K
  of := fun _w _hp heq => ⟨_, He.frG_in, heq⟩
  keeps := fun _w _h _h' ⟨Kx, hKx, cx⟩ kx => ⟨Kx, PySem.W.Frag.In.keeps hKx kx, cx⟩
theorem obsXG_eq {n : Nat} {g : Addr → Option Obj} {sh : Shared} (hg : ∀ a, g a = sh.heap.get? a) : obsXG n fa fn xs g = (hookX n fa fn xs).obs sh := by
  rw [show g = sh.heap.get? from funext hg]
  rfl
theorem SaysX.d {K : PySem.W.Frag} (c : SaysX fa fn xs K) : He.SaysD fa fn K := congrArg (fun z : AlX => z.1) c
theorem SaysX.x {K : PySem.W.Frag} (c : SaysX fa fn xs K) (i : Nat) {t : PySem.W.Frag → Bool} (h : xs[i]? = some t := by rfl) : t K = true := by
  have e : (xs.all fun t => t K) = true := congrArg (fun z : AlX => z.2) c
  exact List.all_eq_true.mp e t (List.mem_of_getElem? h)
end
def tupX (x : Str) (ns : List Int) : PySem.W.Frag → Bool := fun K => He.tupB K x (ns.map .int)
theorem tupX_ok {K : PySem.W.Frag} {x : Str} {ns : List Int} (h : tupX x ns K = true) (H : Hp) : SqT K H (He.ga K x) (ns.map V.int) := by
  have z := He.tupB_ok h H
  rw [List.map_map] at z
  exact z
/-! ### raise -/
structure ExcF (K : PySem.W.Frag) (mg : Mg) (x : Str) : Prop where
  ex : ∃ C, mg x = some (.ref C) ∧ PySem.W.excIn K C He.veBase "ValueError.__new__" = true ∧ PySem.W.keepIn K (.ref C) = true ∧ PySem.W.subIn K (.ref C) (.type "BaseException") = some true ∧ PySem.W.typeIn K (.ref C) = some (.type "type")
theorem excF_of {K : PySem.W.Frag} {h : Heap} {mg : Str → Option Value} (Xi : K.In h) (G : h.Ns mainGlobals mg) {x : Str} (c : (He.Fa.glo x).ok K = true) (d : (He.Fa.exc x).ok K = true) : ExcF K mg x :=
  let ⟨h1, h2, h3, h4⟩ := He.exc_ok d
  ⟨_, He.glo_ok Xi G c, h1, h2, h3, h4⟩
def raS (c : Str) : Sg := fun ε => .ex (c, ε)
theorem sd_raise {x m : Str} {j : Nat} {p2 p3 : Pos} (tk : Takes X W) (hx : ExcF X.K X.mg x) (hc : X.calm = true := by rfl) (hg : Gl X x := by rfl) (hdb : (x == ("__debug__" : Str)) = false := by decide) :
    SD X W (.Raise (some (.Call (.Name x p) [.Constant (.str m) j p2] [] p3)) none pos) (raS x) := fun F => by
  obtain ⟨C, h1, h2, h3, h4, h5⟩ := hx
  exact ps_weak (ps_raise hc tk (pmk_own PySem.F.excBase_ValueError h2 h1 h3 (raises_own h4 h5) hg hdb)) fun D σ H ⟨ε, S, q⟩ => by
    obtain ⟨C', g1, g2⟩ := q
    rw [h1] at g1
    cases g1
    exact g2 σ H S
end DL
end
section
set_option Elab.async false
set_option linter.all false
set_option maxRecDepth 100000
set_option autoImplicit false
namespace DL
open PySem PySem.Spec PyProof.Rows L2
variable [TbC]
variable {X : Cx} {W : WX} {e a b c : Expr} {es rest : List Expr} {f g h : Fn} {pos p : Pos}
/-! ### xs[i] = e -/
theorem Reps.put {K : PySem.W.Frag} {mg : Mg} {H : Hp} {P : Pv} {d : Dt} {v : V} (r1 : Rep K mg H P d v) : ∀ {ds : List Dt} {vs : List V} (j : Nat), Reps K mg H P ds vs → Reps K mg H P (ds.set j d) (vs.set j v)
  | [], vs, j, h => by rw [show vs = [] from h]; exact rfl
  | _ :: ds, vs, 0, h => by
    obtain ⟨w, ws, rfl, h1, h2⟩ := h
    exact ⟨v, ws, rfl, r1, h2⟩
  | _ :: ds, vs, j + 1, h => by
    obtain ⟨w, ws, rfl, h1, h2⟩ := h
    exact ⟨w, ws.set j v, rfl, h1, Reps.put r1 j h2⟩
def itmS (i : Nat) (ix f : Fn) : Sg := fun ε => (exS ε (f ε)).bind fun d => match ε[i]? with
  | some (.o ds) => (exS ε (ix ε)).bind fun y => match y with
    | .int k => (match ixN ds.length k with
      | some j => .ok (.nx (ε.set i (.o (ds.set j d))))
      | none => .bad)
    | _ => .bad
  | _ => .bad
theorem sd_item (i : Nat) {x : Str} {px p2 : Pos} (ha : PB X W a g) (he : PD X W e f) (hN : X.N[i]? = some x := by rfl) (hv : Vis X.env.scope x := by first | exact Or.inl rfl | exact Or.inr (Or.inl rfl) | exact Or.inr (Or.inr rfl)) (hd : (x == ("__debug__" : Str)) = false := by decide)
    (hcd : (x == ("__classdict__" : Str)) = false := by decide)
    (hass : ∀ v, assign (.Subscript (.Name x px) a p2) X.env v = (do
      let ov ← holding [v] (eval (.Name x px) X.env)
      let iv ← holding [v, ov] (eval a X.env)
      standAt p2
      holding [v, ov, iv] (setItem ov iv v)
      release [v, ov, iv] []) := by intro _; rfl)
    (hs : swapsWithSole [.Subscript (.Name x px) a p2] e pos.line X.env = pure false := by rfl) (hw : swappedStores [.Subscript (.Name x px) a p2] e X.env = pure none := by rfl)
    (h1 : (assignEach [.Subscript (.Name x px) a p2] X.env).map (·.2) = [assign (.Subscript (.Name x px) a p2) X.env] := by rfl) :
    SD X W (.Assign [.Subscript (.Name x px) a p2] e pos) (itmS i g f) := fun F =>
  ps_weak (ps_asg he (pg_sub (pe_var (i := i) hN hv hd hcd) ha set_list hass) hs hw h1) fun D σ H ⟨ε, S, q⟩ =>
    ⟨_, ε, S.e, (q.exp S).mono fun d q v H1 x1 r1 => by
      have S1 := S.ext x1
      cases hs : ε[i]? with
      | none => rw [hs] at q; exact q.elim
      | some l =>
        rw [hs] at q
        cases l with
        | o ds =>
          obtain ⟨a', vs, h1, h2, h3, rr⟩ := S1.slotO hs
          refine ⟨.ref a', h1, _, ε, S1.e, (SOut.exp S1 q).mono fun y q w H2 x2 r2 => ?_⟩
          have S2 := S1.ext x2
          obtain ⟨b', us, g1, g2, g3, r3⟩ := S2.slotO hs
          rw [h2] at g2
          cases g2
          cases y with
          | int k =>
            cases hj : ixN ds.length k with
            | none => simp only [hj] at q; exact q.elim
            | some j =>
              simp only [hj] at q
              refine ⟨a', us, k, j, rfl, r2, g3, by rw [← r3.length]; exact hj, ?_⟩
              exact q σ _ (S2.wr hs h2 (Reps.put (r1.ext x2) j r3))
          | _ => exact q.elim
        | _ => exact q.elim⟩
/-! ### a, b, c = x, y, z -/
def prS3 (i j l : Nat) (fs : Fs) : Sg := fun ε => (exS ε (fs ε)).bind fun ds => match ds with
  | [x, y, z] => .ok (.nx (((ε.set i (.d x)).set j (.d y)).set l (.d z)))
  | _ => .bad
theorem own_set {σ : St} {ε : Ev} {i : Nat} {v : V} {d : Dt} {a : Addr} (h : ownA (σ.set i (some v)) (ε.set i (.d d)) a) : ownA σ ε a := by
  obtain ⟨k, l, h1, h2, h3⟩ := h
  by_cases hk : i = k
  · subst hk
    by_cases hi : i < ε.length
    · rw [List.getElem?_set_self hi] at h1; cases h1; exact h2.elim
    · rw [List.getElem?_eq_none (by rw [List.length_set]; omega)] at h1; cases h1
  · rw [List.getElem?_set_ne hk] at h1 h3
    exact ⟨k, l, h1, h2, h3⟩
theorem sd_par3 {i j l : Nat} {x y z : Str} {px py pz pt : Pos} {kt k2 : Nat} {pt2 : Pos} {fs : Fs} (hc : X.calm = true) (hN : X.N.Nodup) (hi : X.N[i]? = some x) (hj : X.N[j]? = some y) (hl : X.N[l]? = some z) (hij : i ≠ j) (hil : i ≠ l) (hjl : j ≠ l)
    (hx : X.env.scope.names.lookup x = some .local) (hy : X.env.scope.names.lookup y = some .local) (hz : X.env.scope.names.lookup z = some .local) (ha : AD X W [a, b, c] fs)
    (hw : swappedStores [.Tuple [.Name x px, .Name y py, .Name z pz] kt pt] (.Tuple [a, b, c] k2 pt2) X.env = pure (some [x, y, z]) := by rfl)
    (hs : swapsWithSole [.Tuple [.Name x px, .Name y py, .Name z pz] kt pt] (.Tuple [a, b, c] k2 pt2) pos.line X.env = pure false := by rfl) :
    SD X W (.Assign [.Tuple [.Name x px, .Name y py, .Name z pz] kt pt] (.Tuple [a, b, c] k2 pt2) pos) (prS3 i j l fs) := fun F => ps_weak (ps_par3 hc hN hi hj hl hij hil hjl hx hy hz ha hw hs) fun D σ H ⟨ε, S, q⟩ =>
  ⟨_, ε, S.e, (q.exp S).mono fun ds q vs H' x r => by
    match ds, q, r with
    | [x, y, z], q, ⟨v, _, e1, r1, w, _, e2, r2, u, _, e3, r3, e4⟩ =>
      cases e4
      cases e3
      cases e2
      cases e1
      have S' := S.ext (by assumption)
      have S1 := S'.set r1 i
      have S2 := S1.set (Rep.tr (Tr.less fun a z => z.imp_right own_set) _ _ r2) j
      exact ⟨v, w, u, rfl, q _ H' (S2.set (Rep.tr (Tr.less fun a z => z.imp_right fun q => own_set (own_set q)) _ _ r3) l)⟩
    | [], q, _ => exact q.elim
    | [_], q, _ => exact q.elim
    | [_, _], q, _ => exact q.elim
    | _ :: _ :: _ :: _ :: _, q, _ => exact q.elim⟩
end DL
end
section
set_option Elab.async false
set_option linter.all false
set_option maxRecDepth 100000
set_option maxHeartbeats 400000
set_option autoImplicit false
namespace DL
open PySem PySem.Spec PyProof.Rows L2
variable [TbC]
/-! ### a lambda of one parameter -/
/-- its names: the parameter tn, captured ones, globals -/
structure LamP (sc scope : Scope) (tn : Str) : Prop where
  kind : scope.kind = .function
  co : scope.isCoroutine = false
  gen : scope.isGenerator = false
  own : ∀ y ∈ scope.names, y.2 ≠ .cell ∧ (y.2 = .local → y.1 = tn)
  par : scope.names.lookup tn = some .local
  free : ∀ y ∈ scope.names, y.2 = .free → sc.names.lookup y.1 = some .cell ∨ sc.names.lookup y.1 = some .free
def lamPB (sc scope : Scope) (tn : Str) : Bool :=
  decide (scope.kind = .function) && (!scope.isCoroutine && (!scope.isGenerator && (decide (scope.names.lookup tn = some .local) && scope.names.all fun y =>
    !decide (y.2 = .cell) && ((!decide (y.2 = .local) || decide (y.1 = tn)) && (!decide (y.2 = .free) || (decide (sc.names.lookup y.1 = some .cell) || decide (sc.names.lookup y.1 = some .free)))))))
theorem lamP_by {sc scope : Scope} {tn : Str} (h : lamPB sc scope tn = true) : LamP sc scope tn := by
  unfold lamPB at h
  simp only [Bool.and_eq_true, Bool.or_eq_true, Bool.not_eq_true', decide_eq_true_eq, decide_eq_false_iff_not, List.all_eq_true] at h
  obtain ⟨h1, h2, h3, h4, h5⟩ := h
  refine ⟨h1, h2, h3, fun y hy => ⟨(h5 y hy).1, fun e => (h5 y hy).2.1.resolve_left fun n => n e⟩, h4, fun y hy e => (h5 y hy).2.2.resolve_left fun n => n e⟩
theorem LamP.has {X : Cx} {scope : Scope} {tn : Str} (L : LamP X.env.scope scope tn) (ok : X.Ok) : ∀ y ∈ scope.names, y.2 = .free → ∃ c, X.env.cells.lookup y.1 = some c := fun y hy e =>
  (L.free y hy e).elim (fun k => ok.has _ (.inl k)) fun k => ok.has _ (.inr k)
section
variable {X : Cx} {pins : List (Addr × Obj)} {σ : L2.St} {H HZ : Hp} {s s1 : Shared}
/-- its frame as it is entered, the parameter bound -/
theorem lamP_start {A : Around} {outer : List Env} {E : XK} {scope : Scope} {tn : Str} {it : Nat} {f c' : Addr} {h₁ : Heap} {tk : Nat} {u : Value} {v : V} (I : Inv X pins σ H s) (L : LamP X.env.scope scope tn) (hNd : X.N.Nodup) (hit : X.N[it]? = some tn) (rv : RelV v u)
    (e0 : Env0 X.prog X.w X.K X.mg X.base A outer s1 HZ) (hd : A.handled = none) (un : Un (frs X.stack) [] H HZ s.heap s1.heap) (hns : h₁.Ns s1.heap.objs.size fun y => ([(tn, u)] : List (Str × Value)).reverse.lookup y) (kp : ∀ b o, s1.heap.get? b = some o → h₁.get? b = some o) :
    Inv (LamX.lamCx X A outer s1 HZ E scope f c') [] (σ.set it (some v)) HZ { s1 with heap := h₁, toks := tk } := by
  have hfree := L.has I.ok
  have cm : ∀ {y c}, (cloFrom X.env.cells scope.names []).lookup y = some c → X.env.cells.lookup y = some c := fun {y c} e => by
    rcases cloFrom_mem (PySem.mem_of_lookup e) with hm | ⟨k1, k2⟩
    · cases hm
    · obtain ⟨c1, hc⟩ := hfree _ k1 rfl
      have hc : X.env.cells.lookup y = some c1 := hc
      have e2 : c = c1 := by rw [k2, hc] <;> rfl
      rw [e2]
      exact hc
  have look : ∀ {y}, scope.names.lookup y = some .free → ∃ c, (cloFrom X.env.cells scope.names []).lookup y = some c := fun {y} hl =>
    mem_lookup (cloFrom_has (cells := X.env.cells) (acc := []) (show (y, NameKind.free) ∈ scope.names from PySem.mem_of_lookup hl))
  have cellK : ∀ {c : Addr} {z : Option Value}, H c = none → s.heap.IsCell c z → h₁.IsCell c z := fun {c z} n ⟨o, ho, hdd⟩ => by
    obtain ⟨sl, q⟩ := un.any ho n (by simp)
    exact ⟨_, kp _ _ q, hdd⟩
  have noA : ∀ b : Addr, b ∉ (LamX.lamCx X A outer s1 HZ E scope f c').ex := fun b z => absurd (show b ∈ ([] : List Addr) from z) (by simp)
  have slots : ∀ (i : Nat) (y : Str) (w : V), X.N[i]? = some y → (σ.set it (some v))[i]? = some (some w) → (y = tn ∧ w = v) ∨ (y ≠ tn ∧ σ[i]? = some (some w)) := fun i y w e1 e2 => by
    by_cases hi : it = i
    · subst hi
      rw [hit] at e1
      cases e1
      have hl : it < σ.length := by
        rcases Nat.lt_or_ge it σ.length with z | z
        · exact z
        · rw [List.getElem?_eq_none (by rw [List.length_set]; exact z)] at e2
          cases e2
      rw [List.getElem?_set_self hl] at e2
      cases e2
      exact .inl ⟨rfl, rfl⟩
    · rw [List.getElem?_set_ne hi] at e2
      refine .inr ⟨fun z => hi ?_, e2⟩
      subst z
      have l1 := (List.getElem?_eq_some_iff.mp hit)
      have l2 := (List.getElem?_eq_some_iff.mp e1)
      exact (List.getElem_inj hNd).mp (l1.2.trans l2.2.symm)
  refine ⟨⟨e0.mod, L.kind, rfl, rfl, Nat.le_refl _, fun y z c e1 e2 => I.ok.inj y z c (cm e1) (cm e2), fun y hy => ?_, fun y c z _ => ?_, fun _ => hd, Around.frames_deeper e0.frames, .inr ⟨rfl, rfl⟩, fun b z => absurd z (noA b), e0.bs, e0.bsz, fun b _ _ => noA b,
      fun b z => absurd z (noA b), e0.funs, e0.frf⟩, rfl, e0.bare, Un.kept kp, ⟨_, hns, fun i y w e1 e2 e3 => ?_⟩, fun y c e => ?_, e0.hok.fresh (Nat.le_refl _), fun y c e => ?_, fun q hq => absurd (show q ∈ ([] : List (Addr × Obj)) ++ [] from hq) (by simp), e0.hok.kept kp, by rw [List.length_set]; exact I.len⟩
  · have hy : scope.names.lookup y = some .cell ∨ scope.names.lookup y = some .free := hy
    rcases hy with hy | hy
    · exact absurd rfl (L.own _ (PySem.mem_of_lookup hy)).1
    · exact look hy
  · have z : false = true := z
    cases z
  · have e3 : Vis scope y := e3
    rcases slots i y w e1 e2 with ⟨rfl, rfl⟩ | ⟨hne, e2'⟩
    · exact ⟨u, rv, .inl ⟨L.par, by simp [List.lookup]⟩⟩
    · rcases e3 with k | k | k
      · exact absurd ((L.own _ (PySem.mem_of_lookup k)).2 rfl) hne
      · exact absurd rfl (L.own _ (PySem.mem_of_lookup k)).1
      · obtain ⟨m, hn, hl⟩ := I.loc
        have hvis : Vis X.env.scope y := (L.free _ (PySem.mem_of_lookup k) rfl).elim (fun k => .inr (.inl k)) fun k => .inr (.inr k)
        obtain ⟨w', r, q⟩ := hl i y w e1 e2' hvis
        obtain ⟨c2, h2⟩ := look k
        refine ⟨w', r, .inr ⟨.inr k, c2, h2, ?_⟩⟩
        have c1 := cm h2
        rcases q with ⟨k', _⟩ | ⟨_, c3, e', z⟩
        · have k' : X.env.scope.names.lookup y = some .local := k'
          rcases L.free _ (PySem.mem_of_lookup k) rfl with k2 | k2 <;> (rw [show X.env.scope.names.lookup y = _ from k2] at k'; cases k')
        · rw [c1] at e'
          cases e'
          exact cellK (I.freeC y _ c1) z
  · obtain ⟨w', z⟩ := I.cell y c (cm e)
    exact ⟨w', cellK (I.freeC y c (cm e)) z⟩
  · obtain ⟨z, o, ho, hdd⟩ := I.cell y c (cm e)
    exact un.free c o ho (I.freeC y c (cm e)) (by simp)
/-- a(e), in the def that got the lambda; that def was entered at s, behind the making -/
theorem lamP_act {CXg : CXT} {Eg : XK} {Ng : List Str} {qg : Str} {sg : Scope} {g f c' : Addr} {cdg pm ctv : Value} {params : Arguments} {body : Expr} {scope : Scope} {k i it : Nat} {a tn : Str} {W : WX} {E : XK} {tb te : TE} {p1 p2 : Pos} {e : Expr}
    (I : Inv X pins σ H s) (L : LamP X.env.scope scope tn) (hNd : X.N.Nodup) (hit : X.N[it]? = some tn)
    (hf : s.heap.get? f = some (PySem.W.kla_obj "<lambda>" (X.env.qual ++ "<lambda>") params body scope (cloFrom X.env.cells scope.names []) pm c' ctv)) (hfn : H f = none) (hfr : f ∉ frs X.stack)
    (hbind : ∀ u : Value, bindArgs (PySem.W.kla_fn "<lambda>" (X.env.qual ++ "<lambda>") params body scope (cloFrom X.env.cells scope.names []) pm (.ref c') ctv) ⟨[u], []⟩ = pure [(tn, u)])
    (tk : Takes (cxOf CXg X.prog X.w X.K X.mg X.base Ng qg sg g cdg X.A X.stack s H Eg) W) (hW : ∀ cls d σ' H', E cls d H' → W cls d σ' H') (hr : Room (k + 1) (X.A.deeper (envOfC qg sg s.heap.objs.size g cdg)))
    (hbody : ∀ (A : Around) (outer : List Env) (s : Shared) (H : Hp), Room k (A.deeper (LamX.lamEnv X scope s.heap.objs.size f c')) → PE (LamX.lamCx X A outer s H E scope f c') body tb)
    (he : PE (cxOf CXg X.prog X.w X.K X.mg X.base Ng qg sg g cdg X.A X.stack s H Eg) e te)
    (hN : Ng[i]? = some a) (hv : Vis sg a) (hst : starEach [e] (cxOf CXg X.prog X.w X.K X.mg X.base Ng qg sg g cdg X.A X.stack s H Eg).env = [(false, eval e (cxOf CXg X.prog X.w X.K X.mg X.base Ng qg sg g cdg X.A X.stack s H Eg).env)])
    (hd : (a == ("__debug__" : Str)) = false := by decide) (hcd : (a == ("__classdict__" : Str)) = false := by decide) :
    PE (cxOf CXg X.prog X.w X.K X.mg X.base Ng qg sg g cdg X.A X.stack s H Eg) (.Call (.Name a p1) [e] [] p2)
      (fun σZ HZ Q => σZ[i]? = some (some (.ref f)) ∧ te σZ HZ fun v H1 => H1 c' = some (LamX.CodeO c' (X.env.qual ++ "<lambda>")) ∧ tb (σ.set it (some v)) H1 Q) := by
  refine ⟨fun pinsZ sZ σZ HZ Q IZ h => ?_⟩
  obtain ⟨hs, ht⟩ := h
  refine wpAny_Call_Name_kw (thn ((pe_var (pos := p1) (i := i) hN hv hd hcd).run pinsZ sZ σZ HZ (fun v H1 => v = .ref f ∧ H1 = HZ) IZ ⟨.ref f, hs, rfl, rfl⟩) fun u0 s1 ⟨v0, H1, I1, r1, q1⟩ => ?_)
  obtain ⟨ev, eH⟩ := q1
  subst ev
  rw [eH] at I1
  obtain rfl : u0 = Value.ref f := r1
  have at_f : ∀ {s1 : Shared} {σ1 : L2.St} {HZ : Hp} {pn : List (Addr × Obj)}, Inv (cxOf CXg X.prog X.w X.K X.mg X.base Ng qg sg g cdg X.A X.stack s H Eg) pn σ1 HZ s1 → s1.heap.get? f = some (PySem.W.kla_obj "<lambda>" (X.env.qual ++ "<lambda>") params body scope (cloFrom X.env.cells scope.names []) pm c' ctv) :=
    fun J => J.base.keep f _ hf hfn hfr (fun z => nomatch (show f ∈ ([] : List Addr) from z))
  have ha : PA (cxOf CXg X.prog X.w X.K X.mg X.base Ng qg sg g cdg X.A X.stack s H Eg) [e] (tCons te tNil) := pa_cons he pa_nil hst
  refine PySem.W.callWith_F ⟨_, _, _, _, at_f I1⟩ (thn (ha.run p2 pinsZ s1 σZ HZ (fun vs H1 => match vs with
    | [v] => H1 c' = some (LamX.CodeO c' (X.env.qual ++ "<lambda>")) ∧ tb (σ.set it (some v)) H1 Q
    | _ => False) I1 ht) fun us s2 ⟨vs, H2, I2, rvs, q2⟩ => ?_) hst rfl
  refine ⟨⟨_, _, _, _, at_f I2⟩, ?_⟩
  obtain ⟨v, u, rfl, rfl, rv, hc, htb⟩ : ∃ v u, vs = [v] ∧ us = [u] ∧ RelV v u ∧ H2 c' = some (LamX.CodeO c' (X.env.qual ++ "<lambda>")) ∧ tb (σ.set it (some v)) H2 Q := by
    clear at_f ha hbody he hbind hf I2 I1 IZ I
    cases rvs with
    | nil => exact q2.elim
    | cons rv rest =>
      cases rest with
      | nil => exact ⟨_, _, rfl, rfl, rv, q2⟩
      | cons _ _ => exact q2.elim
  show wpAny _ _ (call (.ref f) [u]) _ _ _
  have of1 := at_f I2
  have un : Un (frs X.stack) [] H H2 s.heap s2.heap := I2.base
  obtain ⟨⟨oc, ws, t, hoc, hdc, hvc⟩, _, _⟩ := I2.hok c' _ hc
  have rc : codeAny (model X.prog X.w) (X.A.deeper (envOfC qg sg s.heap.objs.size g cdg)) (.call (.ref f) ⟨[u], []⟩) (CR (L2.CX X.prog X.w) (envOfC qg sg s.heap.objs.size g cdg :: X.stack) X.prog X.w H2 s2 Q E) s2 := by
    refine PySem.W.kla_callFunE hr.depth of1 rfl L.co L.gen rfl ⟨c', oc, ws, t, rfl, hoc, hdc, hvc⟩ ?_
    rw [hbind u]
    refine wpAny_pure (wpAny_newFunctionEnv (fun y hy => (L.own y hy).1) (fun y hy => ?_) (fun h₁ hns hsb => ⟨I2.nolimit.fresh _ hsb, ?_⟩) L.kind)
    · rw [List.mem_singleton.mp hy]
      exact L.par
    · show codeAny _ _ (.expr body (LamX.lamEnv X scope s2.heap.objs.size f c')) _ _
      have kp : ∀ b o, s2.heap.get? b = some o → h₁.get? b = some o := fun b o e => hsb.extBut b o (Nat.ne_of_lt (Heap.lt_size e)) (Heap.get?_push_of_some _ e)
      have J : Inv (LamX.lamCx X (X.A.deeper (envOfC qg sg s.heap.objs.size g cdg)) (envOfC qg sg s.heap.objs.size g cdg :: X.stack) s2 H2 E scope f c') [] (σ.set it (some v)) H2 { s2 with heap := h₁, toks := s2.toks + ([(tn, u)] : List (Str × Value)).length } :=
        lamP_start I L hNd hit rv I2.env0 hr.hd un hns kp
      refine PySem.W.kla_codeExpr (wpAny_mono ((hbody _ _ s2 H2 (hr.deeper _)).run [] _ _ H2 Q J htb) (fun w s' hq => ?_) fun _ _ hq => hq)
      obtain ⟨w', H', J', rw', q⟩ := hq
      exact ⟨w', H', J'.os, J'.bare, J'.base, J'.hok, rw', q⟩
  have hx : Passes (L2.CX X.prog X.w) (cxOf CXg X.prog X.w X.K X.mg X.base Ng qg sg g cdg X.A X.stack s H Eg) E := passes_call tk hW
  refine wpAny_call (codeAny_mono rc fun r s' hq => ?_)
  cases r with
  | error er => exact hx pinsZ σZ H2 s2 er s' I2 hq
  | ok fl =>
    cases fl with
    | ret u => exact I2.after hq
    | _ => exact False.elim hq
end
end DL
end
section
set_option Elab.async false
set_option linter.all false
set_option maxRecDepth 100000
set_option maxHeartbeats 800000
set_option autoImplicit false
namespace DL
open PySem PySem.Spec PyProof.Rows L2
variable [TbC]
/-! ### a def that is handed a lambda -/
open Classical in
/-- what does not depend on the lambda's identity -/
noncomputable def oneOf {ε α : Type} (h : Dt → Rz ε α) : Rz ε α := if z : ∃ r, ∀ L, h L = r then Classical.choose z else .bad
theorem oneOf_eq {ε α : Type} {h : Dt → Rz ε α} {r : Rz ε α} (k : ∀ L, h L = r) : oneOf h = r := by
  have z : ∃ r, ∀ L, h L = r := ⟨r, k⟩
  unfold oneOf
  rw [dif_pos z, ← Classical.choose_spec z .non, k]
theorem oneOf_at {ε α : Type} {h : Dt → Rz ε α} (hn : oneOf h ≠ .bad) (L : Dt) : oneOf h = h L := by
  by_cases z : ∃ r, ∀ L, h L = r
  · unfold oneOf
    rw [dif_pos z]
    exact (Classical.choose_spec z L).symm
  · exact absurd (by unfold oneOf; rw [dif_neg z]) hn
open Classical in
/-- a(e), a holds the lambda L that does φ -/
noncomputable def appF (i : Nat) (L : Dt) (φ : Dt → Rz Str Dt) (f : Fn) : Fn := fun ε => if ε[i]? = some (.d L) then (f ε).bind φ else .bad
theorem appF_eq {i : Nat} {L : Dt} {φ : Dt → Rz Str Dt} {f : Fn} {ε : Ev} (h : ε[i]? = some (.d L)) : appF i L φ f ε = (f ε).bind φ := by
  unfold appF
  rw [if_pos h]
/-- what a lambda sees of its maker's slots -/
def Lc.see : Lc → Lc
  | .d x => .d x
  | _ => .u
def lamE (ε : Ev) : Ev := ε.map Lc.see
def Lc.cap : Lc → Dt
  | .d x => x
  | _ => .non
def capD (ε : Ev) : List Dt := ε.map Lc.cap
def Lc.capV (l : Lc) (o : Option V) : V := match l with
  | .d _ => o.getD .non
  | _ => .non
def capV (ε : Ev) (σ : St) : List V := List.zipWith Lc.capV ε σ
section
variable {K : PySem.W.Frag} {mg : Mg} {P : Pv} {σ : St} {H H1 : Hp} {ε : Ev}
theorem EOk.caps (E : EOk K mg P σ H ε) : Reps K mg H P (capD ε) (capV ε σ) := by
  refine Reps.mk (by simp [capD, capV, E.ln]) fun i d v h1 h2 => ?_
  unfold capD at h1
  rw [List.getElem?_map] at h1
  cases hl : ε[i]? with
  | none => rw [hl] at h1; cases h1
  | some l =>
    rw [hl] at h1
    have s := E.sl i l hl
    unfold capV at h2
    rw [List.getElem?_zipWith, hl] at h2
    cases hs : σ[i]? with
    | none => rw [hs] at h2; cases h2
    | some o =>
      rw [hs] at h2 s
      cases l with
      | d x =>
        cases h1
        cases h2
        obtain ⟨w, e, r⟩ := s
        have e : o = some w := e
        rw [e]
        exact r
      | _ => cases h1; cases h2; rfl
/-- the lambda's own slots, wherever it is called -/
theorem EOk.lam {P' : Pv} {it : Nat} {d : Dt} {v : V} (E : EOk K mg P σ H ε) (tk : ∀ a, P' a → ∃ o, H1 a = some o ∧ ∀ ps, o ≠ .tbl ps) (tb : LamX.Tabs TbC.T H1) (r : Reps K mg H1 P' (capD ε) (capV ε σ)) (rv : Rep K mg H1 P' d v) : EOk K mg P' (σ.set it (some v)) H1 ((lamE ε).set it (.d d)) := by
  refine EOk.set (ε := lamE ε) ⟨by rw [lamE, List.length_map, E.ln], tk, fun i l h => ?_, tb⟩ rv it
  unfold lamE at h
  rw [List.getElem?_map] at h
  cases hl : ε[i]? with
  | none => rw [hl] at h; cases h
  | some l0 =>
    rw [hl] at h
    have s := E.sl i l0 hl
    cases l0 with
    | d x =>
      cases h
      obtain ⟨w, e, _⟩ := s
      obtain ⟨u, h1, h2⟩ := r.get (i := i) (d := x) (by unfold capD; rw [List.getElem?_map, hl]; rfl)
      unfold capV at h1
      rw [List.getElem?_zipWith, hl, slot_some e] at h1
      cases h1
      exact ⟨w, e, h2⟩
    | _ => cases h; trivial
theorem EOk.lam0 {P' : Pv} (E : EOk K mg P σ H ε) (tk : ∀ a, P' a → ∃ o, H1 a = some o ∧ ∀ ps, o ≠ .tbl ps) (tb : LamX.Tabs TbC.T H1) (r : Reps K mg H1 P' (capD ε) (capV ε σ)) : EOk K mg P' σ H1 (lamE ε) := by
  refine ⟨by rw [lamE, List.length_map, E.ln], tk, fun i l h => ?_, tb⟩
  unfold lamE at h
  rw [List.getElem?_map] at h
  cases hl : ε[i]? with
  | none => rw [hl] at h; cases h
  | some l0 =>
    rw [hl] at h
    have s := E.sl i l0 hl
    cases l0 with
    | d x =>
      cases h
      obtain ⟨w, e, _⟩ := s
      obtain ⟨u, h1, h2⟩ := r.get (i := i) (d := x) (by unfold capD; rw [List.getElem?_map, hl]; rfl)
      unfold capV at h1
      rw [List.getElem?_zipWith, hl, slot_some e] at h1
      cases h1
      exact ⟨w, e, h2⟩
    | _ => cases h; trivial
theorem ext_of (e : LamX.ExtN H H1) (t : LamX.Tabs TbC.T H1) : Ext H H1 := ⟨fun b o h n _ => e b o h n, fun b q m _ => t (b, q) m⟩
end
/-- from what a def is to hand back, to its body's ends -/
theorem sout_body {X : Cx} {P : Pv} {H : Hp} {Q : VK} {E : XK} {D : Ends} {r : Rs} (hn : ∀ σ H', D.nx σ H' = Q .non H') (hr : D.rt = Q) (q : OOut X.K X.mg P H Q E (bodyR r)) : SOut X ⟨H, P, no⟩ (wE E) D r := by
  cases r with
  | bad => exact q
  | ex ce =>
    obtain ⟨c, ε⟩ := ce
    obtain ⟨C, h1, h2⟩ := q
    exact ⟨C, h1, fun σ H' S' => h2 H' S'.x⟩
  | ok re =>
    cases re with
    | nx ε => exact fun σ H' S' => by rw [hn]; exact q .non H' S'.x rfl
    | rt d => exact fun v H' x rv => by rw [hr]; exact q v H' x rv
    | ro xs => exact fun p vs H' x fr np hl rv => by rw [hr]; exact q p vs H' x (fr.resolve_right fun z => z) hl rv
    | bk ε => exact q.elim
    | ct ε => exact q.elim
noncomputable def lam2F (n : Nat) (gg : Dt → (Dt → Rz Str Dt) → Sg) (it : Nat) (fe kb : Fn) : Fn := fun ε => (fe ε).bind fun d => oneOf fun L => (bodyF n (gg L fun x => kb ((lamE ε).set it (.d x))) [d, L]).bind fun o => .ok o.dt
section
variable {X : Cx} {W : WX}
/-- x(e, lambda tn: body), x a def of the text that calls what it got -/
theorem pd_lam2 {x a1 a2 tn : Str} {g c P : Addr} {k it i n : Nat} {pg params : Arguments} {bg : List Stmt} {sg scope : Scope} {fd : FuncData} {Ng : List Str} {body e : Expr} {p lpos pos : Pos} {fe kb : Fn} {gg : Dt → (Dt → Rz Str Dt) → Sg}
    (Fg : FunD X.K x x pg bg sg [] [] g fd) (hm : X.mg x = some (.ref g))
    (hbg : ∀ (kV doc pm : Value) (an : Option Addr) (cdv ct : Value) (us : List Value), us.length = [a1, a2].length → bindArgs (PySem.W.fnOf x x pg bg sg .none kV doc pm an cdv ct) ⟨us, []⟩ = pure ([a1, a2].zip us))
    (Sg : FnScope Ng [a1, a2] sg) (hNg : Ng[i]? = some a2) (hva : Vis sg a2)
    (TB : LamX.TabB X.base X.mg c P) (hcode : X.env.code = .ref c) {q0 : Str} (hq : X.env.qual = q0) (hmT : (P, q0 ++ "<lambda>") ∈ TbC.T) (hu : ∀ p ∈ TbC.T, p.1 = P → p.2 = q0 ++ "<lambda>") (hr : Room (k + 2) X.A) (tk : Takes X W)
    (L : LamP X.env.scope scope tn) (hNd : X.N.Nodup) (hit : X.N[it]? = some tn)
    (hbind : ∀ (q : Str) (cl : List (Str × Addr)) (pm cv ctv u : Value), bindArgs (PySem.W.kla_fn "<lambda>" q params body scope cl pm cv ctv) ⟨[u], []⟩ = pure [(tn, u)])
    (ha : PD X W e fe)
    (hbody : ∀ (A : Around) (outer : List Env) (s : Shared) (H : Hp) (E : XK) (f c' : Addr), Room k (A.deeper (LamX.lamEnv X scope s.heap.objs.size f c')) → Takes (LamX.lamCx X A outer s H E scope f c') (wE E) → PD (LamX.lamCx X A outer s H E scope f c') (wE E) body kb)
    (hG : ∀ (cdg : Value) (s : Shared) (H : Hp) (E : XK) (L : Dt) (φ : Dt → Rz Str Dt), Room (k + 1) (X.A.deeper (envOfC x sg s.heap.objs.size g cdg)) → Takes (cxOf (L2.CX X.prog X.w) X.prog X.w X.K X.mg X.base Ng x sg g cdg X.A X.stack s H E) (wE E) →
      (∀ (e : Expr) (fe : Fn) (p1 p2 : Pos), PD (cxOf (L2.CX X.prog X.w) X.prog X.w X.K X.mg X.base Ng x sg g cdg X.A X.stack s H E) (wE E) e fe →
        starEach [e] (cxOf (L2.CX X.prog X.w) X.prog X.w X.K X.mg X.base Ng x sg g cdg X.A X.stack s H E).env = [(false, eval e (cxOf (L2.CX X.prog X.w) X.prog X.w X.K X.mg X.base Ng x sg g cdg X.A X.stack s H E).env)] →
        PD (cxOf (L2.CX X.prog X.w) X.prog X.w X.K X.mg X.base Ng x sg g cdg X.A X.stack s H E) (wE E) (.Call (.Name a2 p1) [e] [] p2) (appF i L φ fe)) →
      SDs (cxOf (L2.CX X.prog X.w) X.prog X.w X.K X.mg X.base Ng x sg g cdg X.A X.stack s H E) (wE E) bg (gg L φ))
    (hnl : n = Ng.length := by rfl) (hdef : defaultsOf params X.env = ([], []) := by rfl) (hg : Gl X x := by rfl) (hdb : (x == ("__debug__" : Str)) = false := by decide) (hd : (a2 == ("__debug__" : Str)) = false := by decide) (hcd : (a2 == ("__classdict__" : Str)) = false := by decide)
    (he : starEach (e :: [.Lambda params body scope lpos]) X.env = (false, eval e X.env) :: starEach [.Lambda params body scope lpos] X.env := by rfl) (hpl : (backTo pos (starEach [.Lambda params body scope lpos] X.env)).any (·.1) = false := by rfl) :
    PD X W (.Call (.Name x p) [e, .Lambda params body scope lpos] [] pos) (lam2F n gg it fe kb) := by
  subst hq hnl
  have hb := Fg.bindsN (ps := [a1, a2]) hbg
  obtain ⟨oc, od, dV, kV, doc, pm, an, cdv, ct, osl, efd, lk, hcg, _, _⟩ := Fg.ex
  subst efd
  refine ⟨fun pins s σ H Q I ⟨Pv, ε, E, q⟩ => ?_⟩
  refine wpAny_Call_Name_kw (ld_glob I hg hm ?_ hdb)
  refine PySem.W.callWith_K (h₀ := X.base) I.ok.mod.kin Fg.kp ?_ he hpl
  rw [he]
  refine Calls.spliced_cons (thn (ha.run pins s σ H (fun v H1 => Ext H H1 ∧ ∃ d, Rep X.K X.mg H1 Pv d v ∧ Out X W σ H (oneOf fun L => (bodyF Ng.length (gg L fun x => kb ((lamE ε).set it (.d x))) [d, L]).bind fun o => .ok o.dt) fun d => ∀ v H', Ext H H' → Rep X.K X.mg H' Pv d v → Q v H') I
    ⟨Pv, ε, E, q.bind.mono fun d q v H1 e1 r1 => ⟨e1, d, r1, q⟩⟩) fun u s1 ⟨v, H1, I1, ru, e1, d, r1, q⟩ => ?_)
  have E1 := E.ext e1
  refine Calls.spliced_cons (LamX.lam_make2 I1 TB hcode hmT hu E1.tb hdef (L.has I1.ok) fun f c' pm' ctv H2 s2 I2 eN T2 hf hfn hfr hco => ?_)
  refine Calls.spliced_nil ⟨I2.kIn, ?_⟩
  have e2 : Ext H1 H2 := ext_of eN T2
  have E2 := E1.ext e2
  have hOne := oneOf_at (h := fun L => (bodyF Ng.length (gg L fun x => kb ((lamE ε).set it (.d x))) [d, L]).bind fun o => Rz.ok (ε := Str) o.dt) (fun z => by rw [z] at q; exact q) (.fn f c' (X.env.qual ++ "<lambda>") (capV ε σ) (capD ε))
  rw [hOne] at q
  have rL : Rep X.K X.mg H2 Pv (.fn f c' (X.env.qual ++ "<lambda>") (capV ε σ) (capD ε)) (.ref f) := ⟨rfl, hco, E2.caps⟩
  have rc : codeAny (model X.prog X.w) X.A (.call (.ref g) ⟨[u, .ref f], []⟩) (CR (L2.CX X.prog X.w) X.stack X.prog X.w H2 s2 Q (WE W σ)) s2 := by
    refine LamX.run_ofS (N := Ng) (ps := [a1, a2]) (us := [u, .ref f]) (vs := [v, .ref f]) lk hcg Sg hr I2.env0 (hb s2 [u, .ref f] I2.kIn rfl) (.cons ru (.cons rfl .nil)) rfl fun hr' => ?_
    have tkZ : Takes (cxOf (L2.CX X.prog X.w) X.prog X.w X.K X.mg X.base Ng x sg g cdv X.A X.stack s2 H2 (WE W σ)) (wE (WE W σ)) := takes_of rfl rfl rfl rfl
    have hS := hG cdv s2 H2 (WE W σ) (.fn f c' (X.env.qual ++ "<lambda>") (capV ε σ) (capD ε)) (fun x => kb ((lamE ε).set it (.d x))) hr' tkZ ?_
    · refine ⟨_, hS ⟨H2, Pv, no⟩, startE Ng.length [d, .fn f c' (X.env.qual ++ "<lambda>") (capV ε σ) (capD ε)], sok_start E2.tk E2.tb ⟨v, _, rfl, r1.ext e2, _, _, rfl, rL, rfl⟩, ?_⟩
      exact sout_body (fun _ _ => rfl) rfl (OOut.toD E (e1.trans e2) q)
    · intro e' fe' p1 p2 he' hst'
      refine pe_weak (lamP_act (E := WE W σ) (tb := tD X (wE (WE W σ)) kb) I2 L hNd hit hf hfn hfr (fun u => hbind _ _ _ _ _ u) tkZ (fun _ _ _ _ z => z) hr' (fun A outer s H hr2 => hbody A outer s H (WE W σ) f c' hr2 (takes_of rfl rfl rfl rfl)) he' hNg hva hst' hd hcd) fun σZ HZ QZ ⟨PZ, εZ, EZ, qZ⟩ => ?_
      by_cases hi : εZ[i]? = some (.d (.fn f c' (X.env.qual ++ "<lambda>") (capV ε σ) (capD ε)))
      · rw [appF_eq hi] at qZ
        obtain ⟨w, ew, eF, hcZ, rZ⟩ := EZ.sl i _ hi
        subst eF
        refine ⟨slot_some ew, PZ, εZ, EZ, qZ.bind.mono fun dd qd vv HH ee rr => ?_⟩
        have EH := EZ.ext ee
        refine ⟨ee.at_ hcZ LamX.codeO_ne, PZ, _, E.lam EH.tk EH.tb (rZ.ext ee) rr, ?_⟩
        have z := Out.ext qd ee
        cases hk : kb ((lamE ε).set it (.d dd)) with
        | bad => rw [hk] at z; exact z
        | ex cc =>
          rw [hk] at z
          obtain ⟨C, z1, z2⟩ := z
          exact ⟨C, z1, z2⟩
        | ok a =>
          rw [hk] at z
          exact fun v' H' x' r' => z v' H' (ee.trans x') r'
      · unfold appF at qZ
        rw [if_neg hi] at qZ
        exact qZ.elim
  have hx := passAt tk σ
  refine wpAny_call (codeAny_mono rc fun r s3 hq => ?_)
  cases r with
  | error er => exact hx pins H2 s2 er s3 I2 hq
  | ok fl =>
    cases fl with
    | ret u => exact I2.after hq
    | _ => exact False.elim hq
end
end DL
end
section
set_option Elab.async false
set_option linter.all false
set_option maxRecDepth 100000
set_option maxHeartbeats 800000
set_option autoImplicit false
namespace DL
open PySem PySem.Spec PyProof.Rows L2
section
variable [TbC]
variable {P : Program} {w : World} {K : PySem.W.Frag} {mg : Str → Option Value} {base : Heap}
/-- a def whose code object is told by its place -/
theorem fnD_okC {x qual : Str} {st : Stmt} {p : He.Defn} {fd : FuncData} {N ps : List Str} {k : Nat} {g : Sg} (F : FunD K x qual (defArgs st) (defBody st) (defScope st) [] [] (He.fAd K p) fd) (S : FnScope N ps (defScope st))
    (hbody : ∀ (A : Around) (outer : List Env) (s : Shared) (H : Hp) (E : XK), Room k (A.deeper (envOfC qual (defScope st) s.heap.objs.size (He.fAd K p) (.ref (He.codeOf K p)))) → Takes (cxOf (L2.CX P w) P w K mg base N qual (defScope st) (He.fAd K p) (.ref (He.codeOf K p)) A outer s H E) (wE E) →
      SDs (cxOf (L2.CX P w) P w K mg base N qual (defScope st) (He.fAd K p) (.ref (He.codeOf K p)) A outer s H E) (wE E) (defBody st) g) : FnOk P w K mg base (L2.CX P w) (k + 1) (He.fAd K p) fd ps (spD K mg ps.length (bodyF N.length g)) := by
  obtain ⟨oc, od, dV, kV, doc, pm, an, cdv, ct, osl, rfl, lk, hcd, _, _⟩ := F.ex
  obtain ⟨c, rfl⟩ := He.codeIn_ref hcd
  obtain rfl : He.codeOf K p = c := He.codeOf_eq lk rfl
  refine fn_of lk hcd S (fun vs H Q E ⟨_, _, hn, _, _, r, _⟩ => by rw [← r.length]; exact hn) fun A outer s H vs Q E hr h => ?_
  obtain ⟨P', ds, hl, hp, ht, r, q⟩ := h
  exact ⟨_, hbody A outer s H E hr (takes_of rfl rfl rfl rfl) ⟨H, P', no⟩, startE N.length ds, sok_start hp ht r, sout_body (fun _ _ => rfl) rfl q⟩
theorem df_mkC {x qual : Str} {st : Stmt} {p : He.Defn} {fd : FuncData} {N ps : List Str} {k n : Nat} {g : Sg} {G : Fd} (F : FunD K x qual (defArgs st) (defBody st) (defScope st) [] [] (He.fAd K p) fd) (S : FnScope N ps (defScope st)) (hm : mg x = some (.ref (He.fAd K p)))
    (hb : ∀ (kV doc pm : Value) (an : Option Addr) (cdv ct : Value) (us : List Value), us.length = ps.length → bindArgs (PySem.W.fnOf x qual (defArgs st) (defBody st) (defScope st) .none kV doc pm an cdv ct) ⟨us, []⟩ = pure (ps.zip us))
    (hbody : ∀ (A : Around) (outer : List Env) (s : Shared) (H : Hp) (E : XK), Room k (A.deeper (envOfC qual (defScope st) s.heap.objs.size (He.fAd K p) (.ref (He.codeOf K p)))) → Takes (cxOf (L2.CX P w) P w K mg base N qual (defScope st) (He.fAd K p) (.ref (He.codeOf K p)) A outer s H E) (wE E) →
      SDs (cxOf (L2.CX P w) P w K mg base N qual (defScope st) (He.fAd K p) (.ref (He.codeOf K p)) A outer s H E) (wE E) (defBody st) g) (hn : n = ps.length := by rfl) (hG : G = bodyF N.length g := by rfl) : Df P w K mg base (k + 1) x n G := by
  subst hn hG
  exact ⟨_, fd, ps, fnD_okC F S hbody, hm, F.kp, F.bindsN hb⟩
end
/-! ### the end of a law with tables -/
section
variable {fa : List He.Fa} {fn : List He.DefD} {tf : List He.Defn} {xs : List (PySem.W.Frag → Bool)}
abbrev exOf (xs : List (PySem.W.Frag → Bool)) : PySem.W.Frag → Bool := fun K => xs.all fun t => t K
theorem exOf_at {K : PySem.W.Frag} (c : exOf xs K = true) (i : Nat) {t : PySem.W.Frag → Bool} (h : xs[i]? = some t := by rfl) : t K = true := List.all_eq_true.mp c t (List.mem_of_getElem? h)
/-- the tables' addresses differ -/
def apart (tf : List He.Defn) : PySem.W.Frag → Bool := fun K => decide ((tf.map fun p => (He.cT K p).2).Nodup)
def tabsOf (K : PySem.W.Frag) (ts : List (He.Defn × Str)) : List (Addr × Str) := ts.map fun p => ((He.cT K p.1).2, p.2)
theorem tabs_mem {K : PySem.W.Frag} {ts : List (He.Defn × Str)} {p : He.Defn} {q : Str} (h : (p, q) ∈ ts) : ((He.cT K p).2, q) ∈ tabsOf K ts := List.mem_map.mpr ⟨(p, q), h, rfl⟩
theorem tabs_one {K : PySem.W.Frag} : ∀ {ts : List (He.Defn × Str)} {p : He.Defn} {q : Str}, ((ts.map (·.1)).map fun p => (He.cT K p).2).Nodup → (p, q) ∈ ts → ∀ r ∈ tabsOf K ts, r.1 = (He.cT K p).2 → r.2 = q
  | [], _, _, _, h, _, _, _ => nomatch h
  | t :: ts, p, q, nd, h, r, hr, e => by
    have nd' := List.nodup_cons.mp nd
    have key : ∀ p q, (p, q) ∈ ts → (He.cT K p).2 ≠ (He.cT K t.1).2 := fun p q h z => nd'.1 (by
      show (He.cT K t.1).2 ∈ _
      rw [← z]
      exact List.mem_map.mpr ⟨p, List.mem_map.mpr ⟨(p, q), h, rfl⟩, rfl⟩)
    rcases List.mem_cons.mp h with rfl | h
    · rcases List.mem_cons.mp hr with rfl | hr
      · rfl
      · obtain ⟨u, hu, rfl⟩ := List.mem_map.mp hr
        exact absurd e (key u.1 u.2 hu)
    · rcases List.mem_cons.mp hr with rfl | hr
      · exact absurd e.symm (key p q h)
      · exact tabs_one nd'.2 h r hr e
theorem law_at {l : PySem.W.OpenLaw} {w : World} {K : PySem.W.Frag} {k n : Nat} {x : Str} {mg : Str → Option Value} {f : Addr} {h : Heap} {ts : List (He.Defn × Str)} {tst : List He.Tab} {ex : PySem.W.Frag → Bool} {fd : FuncData} (hn : n = 63) (X : K.In h) (c : He.SaysX fa fn tst (ts.map (·.1)) ex w h K)
    (hb : ∀ (s : Shared) (v : Value), BindsTo s fd ⟨[v], []⟩ [(x, v)])
    (hF : ∀ base : Heap, K.In base → base.Ns mainGlobals mg → (∀ p ∈ ts.map (·.1), LamX.TabB base mg (He.cT K p).1 (He.cT K p).2) → FnOk l.prog w K mg base CX0 k f fd [x] (@spLaw ⟨tabsOf K ts, w⟩ K)) : LamX.LawAtS l w K CX0 k n x mg f h := by
  subst hn
  refine ⟨fd, (ts.map (·.1)).map (He.cT K), @spLaw ⟨tabsOf K ts, w⟩ K, ?_, ?_, ?_, hb, ?_, fun base a b t => hF base a b fun p hp => t _ (List.mem_map_of_mem hp)⟩
  · intro p hp
    obtain ⟨q, hq, rfl⟩ := List.mem_map.mp hp
    exact c.empty q hq
  · intro p hp
    obtain ⟨q, hq, rfl⟩ := List.mem_map.mp hp
    exact c.out q hq
  · intro p hp
    obtain ⟨q, hq, rfl⟩ := List.mem_map.mp hp
    exact PySem.W.codeHd_of_K X (c.hd q hq)
  · intro H a ns hl _ hT hS
    refine ⟨a, ns, rfl, hS, fun p hp => ?_, hl, fun _ => rfl⟩
    obtain ⟨q, hq, rfl⟩ := List.mem_map.mp hp
    exact LamX.TabS.nil (hT (He.cT K q.1) (List.mem_map_of_mem (List.mem_map_of_mem hq)))
end
end DL
end
section
set_option Elab.async false
set_option linter.all false
set_option maxRecDepth 100000
set_option maxHeartbeats 800000
set_option autoImplicit false
namespace DL
open PySem PySem.Spec PyProof.Rows L2
variable [TbC]
/-! ### dicts whose keys are tuples of tuples -/
section
variable {X : Cx} {pins : List (Addr × Obj)} {σ : L2.St} {H : Hp} {s : Shared} {P : Pv}
mutual
theorem nk_is (I : Inv X pins σ H s) : ∀ (d : Dt) (v : V) (u : Value) (k : NestedKey), Rep X.K X.mg H P d v → nk d = some k → RelV v u → NestedIs s.heap k u
  | .non, v, u, k, h, e, r => by
    cases e
    rw [show v = .non from h] at r
    rw [show u = .none from r]
    exact .none
  | .int i, v, u, k, h, e, r => by
    cases e
    rw [show v = .int i from h] at r
    obtain ⟨t, rfl⟩ := r
    exact .int i t
  | .str x, v, u, k, h, e, r => by
    cases e
    rw [show v = .str x from h] at r
    obtain ⟨t, rfl⟩ := r
    exact .text x t
  | .tup ds, v, u, k, ⟨a, vs, ev, h1, h2⟩, e, r => by
    subst ev
    rw [nk] at e
    obtain ⟨ks, e1, rfl⟩ := Option.map_eq_some_iff.mp e
    obtain rfl : u = Value.ref a := r
    obtain ⟨its, rv, ⟨o, g1, g2, n, g3⟩, _⟩ := I.tuple h1
    exact .tup g1 g2 g3 (nks_is I ds vs its ks h2 e1 rv)
  | .bl _, _, _, _, _, e, _ => by cases e
  | .lst _, _, _, _, _, e, _ => by cases e
  | .frl _, _, _, _, _, e, _ => by cases e
  | .ins _ _ _, _, _, _, _, e, _ => by cases e
  | .fn _ _ _ _ _, _, _, _, _, e, _ => by cases e
theorem nks_is (I : Inv X pins σ H s) : ∀ (ds : List Dt) (vs : List V) (us : List Value) (ks : List NestedKey), Reps X.K X.mg H P ds vs → nks ds = some ks → Vals vs us → NestedAll s.heap ks us
  | [], vs, us, ks, h, e, r => by
    cases e
    rw [show vs = [] from h] at r
    cases r
    exact .nil
  | d :: ds, vs, us, ks, ⟨v, rest, ev, h1, h2⟩, e, r => by
    subst ev
    rw [nks] at e
    obtain ⟨k, e1, e⟩ := Option.bind_eq_some_iff.mp e
    obtain ⟨ks', e2, rfl⟩ := Option.map_eq_some_iff.mp e
    cases r with
    | cons r1 r2 => exact .cons (nk_is I d v _ k h1 e1 r1) (nks_is I ds rest _ ks' h2 e2 r2)
end
/-- a tuple, not too deep -/
def okK (d : Dt) : Option NestedKey := match d with
  | .tup ds => (nk (.tup ds)).bind fun k => if k.depth ≤ 8 then some k else none
  | _ => none
theorem okK_some {d : Dt} {k : NestedKey} (h : okK d = some k) : nk d = some k ∧ k.depth ≤ 8 ∧ ∃ ds, d = .tup ds := by
  cases d with
  | tup ds =>
    unfold okK at h
    cases e : nk (.tup ds) with
    | none => simp only [e] at h; cases h
    | some j =>
      simp only [e, Option.bind_some] at h
      by_cases z : j.depth ≤ 8
      · rw [if_pos z] at h
        cases h
        exact ⟨rfl, z, ds, rfl⟩
      · rw [if_neg z] at h
        cases h
  | _ => cases h
def deepOk (xs : List (Dt × Int)) : Bool := xs.all fun x => (okK x.1).isSome
theorem dco_ok {w : World} {Pr : Program} {h : Heap} {a : Addr} {ys : List (NestedKey × Addr × Int)} (d : dcV w a ys h) : ObjOk Pr w H h a (dcO w a ys) :=
  ⟨d, let ⟨o, _, _, _, h1, _⟩ := d; ⟨o, h1⟩, fun _ _ ⟨o, es, ep, vs, h1, r⟩ st => ⟨o, es, ep, vs, st o h1, r⟩⟩
/-- the dict in the library's words -/
theorem dco_of (I : Inv X pins σ H s) {a : Addr} {ys : List (NestedKey × Addr × Int)} {xs : List (Dt × Int)} (d : dcV X.w a ys s.heap) (r : DcOk X.K X.mg H P xs ys) (hd : deepOk xs = true) :
    ∃ vs : List (NestedKey × Addr × Value), s.heap.DictOfH (nestedKind X.prog X.w) a vs ∧ Paired (fun (y : NestedKey × Addr × Int) (v : NestedKey × Addr × Value) => y.1 = v.1 ∧ y.2.1 = v.2.1 ∧ RelV (.int y.2.2) v.2.2) ys vs ∧ ys.length ≤ sizeLine ∧ (a == sysModules) = false := by
  obtain ⟨o, es, ep, vs, h1, h2, h3, h4, h5, h6, h7, h8⟩ := d
  have ek : vs.map (·.1) = ys.map (·.1) := by
    clear h4 h6 h7 r
    induction h5 with
    | nil => rfl
    | cons p _ ih => rw [List.map_cons, List.map_cons, ih, p.1]
  refine ⟨vs, ⟨o, es, ep, h1, h2, h3, h4, fun v hv => ?_, by rw [ek]; exact h6⟩, h5, h7, h8⟩
  obtain ⟨i, hi⟩ := List.mem_iff_getElem?.mp hv
  have key : ∃ y, ys[i]? = some y ∧ y.1 = v.1 ∧ y.2.1 = v.2.1 := by
    clear h4 h6 h7 r ek hv
    induction h5 generalizing i with
    | nil => cases hi
    | cons p q ih =>
      cases i with
      | zero => cases hi; exact ⟨_, rfl, p.1, p.2.1⟩
      | succ i => exact ih i (by simpa using hi)
  obtain ⟨y, hy, e1, e2⟩ := key
  have q := congrArg (fun z => z[i]?) r.2
  simp only [List.getElem?_map, hy, Option.map_some] at q
  obtain ⟨x, hx, ex⟩ := Option.map_eq_some_iff.mp q
  have ex1 : nk x.1 = some y.1 := congrArg Prod.fst ex
  obtain ⟨v', g1, g2⟩ := r.1.get (i := i) (d := x.1) (by rw [List.getElem?_map, hx]; rfl)
  rw [List.getElem?_map, hy] at g1
  cases g1
  have dp : (okK x.1).isSome = true := List.all_eq_true.mp hd x (List.mem_of_getElem? hx)
  obtain ⟨k, hk⟩ := Option.isSome_iff_exists.mp dp
  obtain ⟨k1, k2, _⟩ := okK_some hk
  rw [ex1] at k1
  cases k1
  rw [← e1, ← e2]
  exact ⟨nk_is I x.1 _ _ _ g2 ex1 rfl, k2⟩
/-! look, store -/
def dcGet (xs : List (Dt × Int)) (k : NestedKey) : Option Int := (xs.find? fun x => decide (nk x.1 = some k)).map (·.2)
def dcPut (xs : List (Dt × Int)) (d : Dt) (k : NestedKey) (v : Int) : List (Dt × Int) := if (dcGet xs k).isSome then xs.map fun x => if nk x.1 = some k then (x.1, v) else x else xs ++ [(d, v)]
theorem dc_get {xs : List (Dt × Int)} {ys : List (NestedKey × Addr × Int)} {vs : List (NestedKey × Addr × Value)} (k : NestedKey) (h : (xs.map fun x => (nk x.1, x.2)) = ys.map fun y => (some y.1, y.2.2)) (p : Paired (fun (y : NestedKey × Addr × Int) (v : NestedKey × Addr × Value) => y.1 = v.1 ∧ y.2.1 = v.2.1 ∧ RelV (.int y.2.2) v.2.2) ys vs) :
    (dcGet xs k = none ∧ atKey vs k = none) ∨ ∃ n b u, dcGet xs k = some n ∧ atKey vs k = some (b, u) ∧ RelV (.int n) u := by
  induction p generalizing xs with
  | nil =>
    cases xs with
    | nil => exact .inl ⟨rfl, rfl⟩
    | cons x xs => cases h
  | @cons y v ys vs q r ih =>
    cases xs with
    | nil => cases h
    | cons x xs =>
      rw [List.map_cons, List.map_cons] at h
      injection h with h1 h2
      injection h1 with h3 h4
      by_cases e : y.1 = k
      · refine .inr ⟨x.2, v.2.1, v.2.2, ?_, ?_, by rw [h4]; exact q.2.2⟩
        · unfold dcGet
          rw [List.find?_cons_of_pos (by rw [h3, e]; exact decide_eq_true rfl)]
          rfl
        · unfold atKey
          rw [List.find?_cons_of_pos (by rw [← q.1, e]; exact decide_eq_true rfl)]
          rfl
      · have e1 : dcGet (x :: xs) k = dcGet xs k := by
          unfold dcGet
          rw [List.find?_cons_of_neg (by rw [h3]; simpa using e)]
        have e2 : atKey (v :: vs) k = atKey vs k := by
          unfold atKey
          rw [List.find?_cons_of_neg (by rw [← q.1]; simpa using e)]
        rw [e1, e2]
        exact ih h2
end
/-- the dict of slot i, also while it is walked -/
def dictAt (ε : Ev) (i : Nat) : Option (List (Dt × Int)) := match ε[i]? with
  | some (.m xs) => if deepOk xs = true then some xs else none
  | some (.mf xs) => if deepOk xs = true then some xs else none
  | _ => none
section
variable {X : Cx} {W : WX} {pins : List (Addr × Obj)} {σ : L2.St} {H : Hp} {s : Shared} {P : Pv} {ε : Ev} {i : Nat} {xs : List (Dt × Int)}
/-- where it stands -/
def DcAt (X : Cx) (H : Hp) (P : Pv) (a : Addr) (xs : List (Dt × Int)) : Prop := ∃ ys, (H a = some (dcO X.w a ys) ∨ ∃ o, H a = some (.frz o (dcO X.w a ys))) ∧ DcOk X.K X.mg H P xs ys
theorem dictAt_slot (hw : X.w = TbC.w) (E : EOk X.K X.mg P σ H ε) (h : dictAt ε i = some xs) : deepOk xs = true ∧ ∃ a, σ[i]?.join = some (.ref a) ∧ DcAt X H P a xs := by
  unfold dictAt at h
  unfold DcAt
  rw [hw]
  cases e : ε[i]? with
  | none => rw [e] at h; cases h
  | some l =>
    have z := E.sl i l e
    rw [e] at h
    cases l with
    | m zs =>
      dsimp only at h
      split at h
      · cases h
        obtain ⟨a, ys, q, _, h1, r⟩ := z
        exact ⟨by assumption, a, q, ys, .inl h1, r⟩
      · cases h
    | mf zs =>
      dsimp only at h
      split at h
      · cases h
        obtain ⟨a, o, ys, q, h1, r⟩ := z
        exact ⟨by assumption, a, q, ys, .inr ⟨o, h1⟩, r⟩
      · cases h
    | _ => cases h
theorem DcAt.ext {H1 : Hp} {a : Addr} (h : DcAt X H P a xs) (e : Ext H H1) : DcAt X H1 P a xs := by
  obtain ⟨ys, z, r⟩ := h
  refine ⟨ys, z.imp (fun z => e.at_ z nt_dc) (fun ⟨o, z⟩ => ⟨o, e.at_ z nt_frz⟩), r.tr (Tr.of e)⟩
theorem DcAt.dc (I : Inv X pins σ H s) {a : Addr} (h : DcAt X H P a xs) : ∃ ys, dcV X.w a ys s.heap ∧ DcOk X.K X.mg H P xs ys := by
  obtain ⟨ys, z | ⟨o, z⟩, r⟩ := h
  · exact ⟨ys, (I.hok a _ z).1, r⟩
  · exact ⟨ys, (I.hok a _ z).2.1, r⟩
theorem dc_type {a : Addr} {ys : List (NestedKey × Addr × Int)} (d : dcV X.w a ys s.heap) : s.TypeIs (.ref a) "dict" ∧ ∀ b, Value.ref a = .ref b → ∃ ob, s.heap.get? b = some ob ∧ ob.dict = none := by
  obtain ⟨o, _, _, _, h1, h2, _⟩ := d
  exact ⟨⟨o, h1, h2.1⟩, fun b e => by cases e; exact ⟨o, h1, h2.2.1⟩⟩
/-- d.get(k, e) -/
def dgetF (i : Nat) (f g : Fn) : Fn := fun ε => match dictAt ε i with
  | some xs => (f ε).bind fun kd => (g ε).bind fun e => match okK kd, e with
    | some k, .int n => .ok (.int ((dcGet xs k).getD n))
    | _, _ => .bad
  | none => .bad
theorem pd_dget2 (i : Nat) {x : Str} {px apos cpos : Pos} {k e : Expr} {f g : Fn} (hw : X.w = TbC.w) (hu : X.A.units + 64 < cLine) (hk : PD X W k f) (he : PD X W e g) (m : M2 X (.Name x px) "get" apos k e cpos := by exact ⟨rfl, rfl, rfl, rfl⟩) (hN : X.N[i]? = some x := by rfl)
    (hv : Vis X.env.scope x := by first | exact Or.inl rfl | exact Or.inr (Or.inl rfl) | exact Or.inr (Or.inr rfl)) (hd : (x == ("__debug__" : Str)) = false := by decide) (hcd : (x == ("__classdict__" : Str)) = false := by decide) :
    PD X W (.Call (.Attribute (.Name x px) "get" apos) [k, e] [] cpos) (dgetF i f g) := by
  refine ⟨fun pins s σ H Q I ⟨P, ε, E, q⟩ => ?_⟩
  unfold dgetF at q
  cases hx : dictAt ε i with
  | none => rw [hx] at q; exact q.elim
  | some xs =>
    rw [hx] at q
    obtain ⟨dp, a, hs, D⟩ := dictAt_slot hw E hx
    refine wpAny_Call_method m.base m.few m.line PySem.F.plainAttrs_dict PySem.F.slot_dict_get PySem.F.type_dict_get (thn ((pe_var (pos := px) (i := i) hN hv hd hcd).run pins s σ H (fun v H1 => v = .ref a ∧ H1 = H) I ⟨.ref a, slot_some hs, rfl, rfl⟩) fun u s1 ⟨v, H1, I1, ru, ev, eH⟩ => ?_)
    subst ev eH
    obtain rfl : u = Value.ref a := ru
    obtain ⟨ys1, d1, _⟩ := D.dc I1
    refine ⟨(dc_type d1).1, (dc_type d1).2, ?_⟩
    rw [m.trees]
    refine Calls.callWith_builtin rfl (Calls.evalArgs_plain (Calls.spliced_cons (thn (hk.run pins s1 σ H1 (fun v H2 => Ext H1 H2 ∧ ∃ kd, Rep X.K X.mg H2 P kd v ∧ Out X W σ H1 ((g ε).bind fun e => match okK kd, e with
      | some k, .int n => .ok (.int ((dcGet xs k).getD n))
      | _, _ => .bad) fun d => ∀ v H', Ext H1 H' → Rep X.K X.mg H' P d v → Q v H') I1 ⟨P, ε, E, q.bind.mono fun kd q v H2 x2 r2 => ⟨x2, kd, r2, q⟩⟩) fun ku s2 ⟨kv, H2, I2, rk, x2, kd, r2, q2⟩ =>
      Calls.spliced_cons (thn (he.run pins s2 σ H2 (fun v H3 => Ext H2 H3 ∧ ∃ d, Rep X.K X.mg H3 P d v ∧ Out X W σ H1 (match okK kd, d with
      | some k, .int n => .ok (.int ((dcGet xs k).getD n))
      | _, _ => .bad) fun d => ∀ v H', Ext H1 H' → Rep X.K X.mg H' P d v → Q v H') I2 ⟨P, ε, E.ext x2, (q2.bind.ext x2).mono fun d q v H3 x3 r3 => ⟨x3, d, r3, q⟩⟩) fun eu s3 ⟨evv, H3, I3, re, x3, d, r3, q3⟩ => Calls.spliced_nil ?_))))
    cases ok : okK kd with
    | none => rw [ok] at q3; exact q3.elim
    | some key =>
      cases d with
      | int n =>
        rw [ok] at q3
        have q3 : ∀ v H', Ext H1 H' → Rep X.K X.mg H' P (.int ((dcGet xs key).getD n)) v → Q v H' := q3
        obtain ⟨n1, n2, ds, rfl⟩ := okK_some ok
        · obtain ⟨b, vs, rfl, g1, g2⟩ := r2.ext x3
          obtain rfl : ku = Value.ref b := rk
          have D3 := (D.ext x2).ext x3
          obtain ⟨ys, d3, ro⟩ := D3.dc I3
          obtain ⟨vs', hm, pr, hl, hsm⟩ := dco_of I3 d3 ro dp
          have hkey : (nestedKind X.prog X.w).is s3.heap key b := ⟨nk_is I3 (.tup ds) (.ref b) (.ref b) key ⟨b, vs, rfl, g1, g2⟩ n1 rfl, n2⟩
          refine getOr_keyed (knd := nestedKind X.prog X.w) (show X.A.units + 1 + 8 < cLine by omega) hkey hsm ⟨vs', hm, rfl⟩ ?_
          rw [valueAt_pairsH]
          have re : RelV (V.int n) eu := by rw [← show evv = V.int n from r3]; exact re
          rcases dc_get key ro.2 pr with ⟨h1, h2⟩ | ⟨nn, bb, uu, h1, h2, h3⟩
          · rw [h1] at q3
            rw [h2]
            exact ⟨.int n, H3, I3.tok _, re, q3 _ H3 (x2.trans x3) rfl⟩
          · rw [h1] at q3
            rw [h2]
            exact ⟨.int nn, H3, I3.tok _, h3, q3 _ H3 (x2.trans x3) rfl⟩
      | _ => rw [ok] at q3; exact q3.elim
/-- d[k], it is there -/
def dixF (i : Nat) (f : Fn) : Fn := fun ε => match dictAt ε i with
  | some xs => (f ε).bind fun kd => .ofO ((okK kd).bind fun k => (dcGet xs k).map .int)
  | none => .bad
theorem pd_dix (i : Nat) {x : Str} {px pos : Pos} {k : Expr} {f : Fn} (hw : X.w = TbC.w) (hu : X.A.units + 64 < cLine) (hk : PD X W k f) (hs : NoSl k := by exact fun _ _ => rfl) (hN : X.N[i]? = some x := by rfl)
    (hv : Vis X.env.scope x := by first | exact Or.inl rfl | exact Or.inr (Or.inl rfl) | exact Or.inr (Or.inr rfl)) (hd : (x == ("__debug__" : Str)) = false := by decide) (hcd : (x == ("__classdict__" : Str)) = false := by decide) :
    PD X W (.Subscript (.Name x px) k pos) (dixF i f) := by
  refine ⟨fun pins s σ H Q I ⟨P, ε, E, q⟩ => ?_⟩
  unfold dixF at q
  cases hx : dictAt ε i with
  | none => rw [hx] at q; exact q.elim
  | some xs =>
    rw [hx] at q
    obtain ⟨dp, a, hs', D⟩ := dictAt_slot hw E hx
    refine subD_of PySem.F.slot_dict_getitem.lookup hs (thn ((pe_var (pos := px) (i := i) hN hv hd hcd).run pins s σ H (fun v H1 => v = .ref a ∧ H1 = H) I ⟨.ref a, slot_some hs', rfl, rfl⟩) fun u s1 ⟨v, H1, I1, ru, ev, eH⟩ =>
      thn (hk.run pins s1 σ H1 (fun v H2 => Ext H1 H2 ∧ ∃ kd, Rep X.K X.mg H2 P kd v ∧ Out X W σ H1 (.ofO ((okK kd).bind fun k => (dcGet xs k).map .int)) fun d => ∀ v H', Ext H1 H' → Rep X.K X.mg H' P d v → Q v H') I1 ⟨P, ε, by rw [eH]; exact E, by rw [eH]; exact q.bind.mono fun kd q v H2 x2 r2 => ⟨x2, kd, r2, q⟩⟩) fun ku s2 ⟨kv, H2, I2, rk, x2, kd, r2, q2⟩ => ?_)
    subst ev eH
    obtain rfl : u = Value.ref a := ru
    obtain ⟨d, hd', q3⟩ := q2.ofO
    obtain ⟨key, ok, hd'⟩ := Option.bind_eq_some_iff.mp hd'
    obtain ⟨n, hn, rfl⟩ := Option.map_eq_some_iff.mp hd'
    obtain ⟨n1, n2, ds, rfl⟩ := okK_some ok
    obtain ⟨b, vs, rfl, g1, g2⟩ := r2
    obtain rfl : ku = Value.ref b := rk
    obtain ⟨ys, d3, ro⟩ := (D.ext x2).dc I2
    obtain ⟨vs', hm, pr, hl, hsm⟩ := dco_of I2 d3 ro dp
    have hkey : (nestedKind X.prog X.w).is s2.heap key b := ⟨nk_is I2 (.tup ds) (.ref b) (.ref b) key ⟨b, vs, rfl, g1, g2⟩ n1 rfl, n2⟩
    refine ⟨(dc_type d3).1, ?_⟩
    rcases dc_get key ro.2 pr with ⟨h1, h2⟩ | ⟨nn, bb, uu, h1, h2, h3⟩
    · rw [h1] at hn; cases hn
    · rw [h1] at hn
      cases hn
      exact getItem_keyed (knd := nestedKind X.prog X.w) (show X.A.units + 1 + 8 < cLine by omega) hkey ⟨vs', hm, rfl⟩ (by rw [valueAt_pairsH, h2]; rfl) ⟨.int n, H2, I2.tok _, h3, q3 _ H2 x2 rfl⟩
/-! d = {} -/
def dnewS (i : Nat) : Sg := fun ε => .ok (.nx (ε.set i (.m [])))
theorem pe_dnew0 {pos : Pos} : PE X (.Dict [] [] pos) (fun _ H Q => ∀ d, H d = none → Q (.ref d) (upd H d (dcO X.w d []))) := ⟨fun pins s σ H Q I h => by
  have at_ : (s.heap.push { cls := .type "dict", data := .dict #[] }).get? s.heap.objs.size = some { cls := .type "dict", data := .dict #[] } := Heap.get?_push_size _ rfl
  refine wpAny_Dict_empty ⟨.ref s.heap.objs.size, _, I.laid (a := s.heap.objs.size) (o := dcO X.w s.heap.objs.size []) (t' := s.toks) (fun _ _ z => Heap.get?_push_of_some _ z) (Nat.le_refl _) (dco_ok ?_), rfl, h _ (I.hok.fresh (Nat.le_refl _))⟩
  have hb : sysModules < s.heap.objs.size := I.big
  exact ⟨_, #[], _, [], at_, ⟨rfl, rfl, rfl⟩, rfl, rfl, .nil, .nil, Nat.zero_le _, by rw [beq_eq_false_iff_ne]; exact fun z => by rw [z] at hb; exact Nat.lt_irrefl _ hb⟩⟩
/-- a new thing of one's own -/
theorem SOk.ownX {K : PySem.W.Frag} {mg : Mg} {F : Frm} {σ : L2.St} {H H' : Hp} {ε : Ev} (S : SOk K mg F σ H ε) (e : Ext H H') {p : Addr} (hp : Fresh H p) (i : Nat) (l1 : Lc) (h1 : l1.isO) (hk : OwnK H' p) (sl : SlotOk K mg H' (more (prv F σ ε) p) l1 (some (.ref p))) : SOk K mg F (σ.set i (some (.ref p))) H' (ε.set i l1) := by
  have S1 := S.ext e
  have npv : ¬ prv F σ ε p := S.e.ne hp
  have at_ : ∀ (j : Nat) (l : Lc), (ε.set i l1)[j]? = some l → (j = i ∧ l = l1 ∧ i < ε.length) ∨ (j ≠ i ∧ ε[j]? = some l) := fun j l h => by
    by_cases hj : i = j
    · subst hj
      by_cases hi : i < ε.length
      · rw [List.getElem?_set_self hi] at h; cases h; exact .inl ⟨rfl, rfl, hi⟩
      · rw [List.getElem?_eq_none (by rw [List.length_set]; omega)] at h; cases h
    · rw [List.getElem?_set_ne hj] at h
      exact .inr ⟨fun z => hj z.symm, h⟩
  have at_i : i < ε.length → (σ.set i (some (V.ref p)))[i]?.join = some (.ref p) := fun hi => by rw [List.getElem?_set_self (by rw [← S.e.ln]; exact hi)]; rfl
  have at_j : ∀ {j : Nat}, j ≠ i → (σ.set i (some (V.ref p)))[j]? = σ[j]? := fun hj => List.getElem?_set_ne (fun z => hj z.symm)
  have ow : ∀ a, ownA (σ.set i (some (.ref p))) (ε.set i l1) a → ownA σ ε a ∨ a = p := fun a ⟨j, l, h1, h2, h3⟩ => by
    rcases at_ j l h1 with ⟨rfl, rfl, hi⟩ | ⟨hj, h⟩
    · rw [at_i hi] at h3
      cases h3
      exact .inr rfl
    · rw [at_j hj] at h3
      exact .inl ⟨j, l, h, h2, h3⟩
  have nt : ∃ o, H' p = some o ∧ ∀ ps, o ≠ .tbl ps := by
    rcases hk with ⟨xs, h⟩ | ⟨C, dx, fs, h⟩ | ⟨w, a, ys, h⟩
    · exact ⟨_, h, nt_lst⟩
    · exact ⟨_, h, nt_ins⟩
    · exact ⟨_, h, nt_dc⟩
  have E2 : EOk K mg (more (prv F σ ε) p) (σ.set i (some (.ref p))) H' (ε.set i l1) := by
    refine ⟨by rw [List.length_set, List.length_set, S.e.ln], fun a h => ?_, fun j l h => ?_, S1.e.tb⟩
    · rcases h with h | h
      · exact S1.e.tk a h
      · rw [h]; exact nt
    · rcases at_ j l h with ⟨rfl, rfl, hi⟩ | ⟨hj, h⟩
      · rw [at_i hi]
        exact sl
      · rw [at_j hj]
        exact ((S.e.sl j l h).more hp).ext e
  refine ⟨E2.less (fun a h => ?_) fun a h => .inr h, S1.x, S.p, fun j l a h1 h2 h3 => ?_, fun j xs a h1 h3 => ?_, fun j k l l' a hn h1 h2 h3 h4 h5 => ?_⟩
  · rcases h with h | h
    · exact .inl (.inl h)
    · rcases ow a h with h | h
      · exact .inl (.inr h)
      · exact .inr h
  · rcases at_ j l h1 with ⟨rfl, rfl, hi⟩ | ⟨hj, h⟩
    · rw [at_i hi] at h3
      cases h3
      by_cases hm : F.M p
      · exact .inr hm
      · exact .inl (S.x.fresh hp hm)
    · rw [at_j hj] at h3
      exact S.f j l a h h2 h3
  · rcases at_ j _ h1 with ⟨rfl, _, hi⟩ | ⟨hj, h⟩
    · rw [at_i hi] at h3
      cases h3
      exact fun z => npv (.inl z)
    · rw [at_j hj] at h3
      exact S.n j xs a h h3
  · rcases at_ j l h1 with ⟨rfl, rfl, hi⟩ | ⟨hj, h⟩
    · rw [at_i hi] at h5
      cases h5
      rcases at_ k l' h3 with ⟨rfl, _⟩ | ⟨hk', h⟩
      · exact absurd rfl hn
      · rw [at_j hk']
        exact fun z => npv (.inr ⟨k, l', h, h4, z⟩)
    · rw [at_j hj] at h5
      rcases at_ k l' h3 with ⟨rfl, rfl, hi⟩ | ⟨hk', h'⟩
      · rw [at_i hi]
        intro z
        cases z
        exact npv (.inr ⟨j, l, h, h2, h5⟩)
      · rw [at_j hk']
        exact S.d j k l l' a hn h h2 h' h4 h5
theorem sd_dnew {i : Nat} {x : Str} {pos pos' pos2 : Pos} (hw : X.w = TbC.w) (hN : X.N.Nodup) (hi : X.N[i]? = some x := by rfl) (hx : Loc X.env.scope x := by first | exact Or.inl rfl | exact Or.inr rfl) (hs : swapsWith (.Dict [] [] pos2) (some (.Name x pos')) pos.line X.env = pure false := by rfl)
    (hf : X.fn x = true ∨ X.env.scope.names.lookup x = some .local := by first | exact .inl rfl | exact .inr rfl | assumption) : SD X W (.Assign [.Name x pos'] (.Dict [] [] pos2) pos) (dnewS i) := fun F => ps_weak (ps_set hN hi hx pe_dnew0 hs hf) fun D σ H ⟨ε, S, q⟩ => by
  intro d hd
  rw [hw]
  exact q _ _ (S.ownX (Ext.new hd) (.of hd) i (.m []) trivial (.inr (.inr ⟨_, _, _, upd_same⟩)) ⟨d, [], rfl, .inr rfl, upd_same, rfl, rfl⟩)
/-! d[k] = v -/
def dputR (i : Nat) (ε : Ev) (xs : List (Dt × Int)) (kd v : Dt) : Rs := match okK kd, v with
  | some k, .int n => if deepOk xs = true ∧ xs.length < sizeLine then .ok (.nx (ε.set i (.m (dcPut xs kd k n)))) else .bad
  | _, _ => .bad
def dputV (i : Nat) (f : Fn) (ε : Ev) (v : Dt) : Rs := match ε[i]? with
  | some (.m xs) => (exS ε (f ε)).bind fun kd => dputR i ε xs kd v
  | _ => .bad
def dputS (i : Nat) (f g : Fn) : Sg := fun ε => (exS ε (g ε)).bind fun v => dputV i f ε v
theorem storedH_pr {ys : List (NestedKey × Addr × Int)} {vs : List (NestedKey × Addr × Value)} (p : Paired (fun (y : NestedKey × Addr × Int) (v : NestedKey × Addr × Value) => y.1 = v.1 ∧ y.2.1 = v.2.1 ∧ RelV (.int y.2.2) v.2.2) ys vs) (k : NestedKey) (n : Int) (u : Value) (ru : RelV (.int n) u) :
    Paired (fun (y : NestedKey × Addr × Int) (v : NestedKey × Addr × Value) => y.1 = v.1 ∧ y.2.1 = v.2.1 ∧ RelV (.int y.2.2) v.2.2) (ys.map fun y => if y.1 = k then (y.1, y.2.1, n) else y) (vs.map (putAt k u)) := by
  induction p with
  | nil => exact .nil
  | @cons y v ys vs q r ih =>
    refine .cons ?_ ih
    unfold putAt
    dsimp only
    by_cases e : y.1 = k
    · rw [if_pos e, if_pos (by rw [← q.1]; exact e)]
      exact ⟨q.1, q.2.1, ru⟩
    · rw [if_neg e, if_neg (by rw [← q.1]; exact e)]
      exact q
theorem dc_put {K : PySem.W.Frag} {mg : Mg} {xs : List (Dt × Int)} {ys : List (NestedKey × Addr × Int)} {kd : Dt} {k : NestedKey} {b : Addr} {n : Int} (r : DcOk K mg H P xs ys) (hk : Rep K mg H P kd (.ref b)) (nk_ : nk kd = some k) :
    DcOk K mg H P (dcPut xs kd k n) (if (dcGet xs k).isSome then ys.map (fun y => if y.1 = k then (y.1, y.2.1, n) else y) else ys ++ [(k, b, n)]) := by
  unfold dcPut
  by_cases hh : (dcGet xs k).isSome = true
  · rw [if_pos hh, if_pos hh]
    clear hh
    have e1 : (xs.map fun x => if nk x.1 = some k then (x.1, n) else x).map (·.1) = xs.map (·.1) := by
      rw [List.map_map]
      refine List.map_congr_left fun x _ => ?_
      show (if nk x.1 = some k then (x.1, n) else x).1 = x.1
      split <;> rfl
    have e2 : (ys.map fun y => if y.1 = k then (y.1, y.2.1, n) else y).map (fun y => V.ref y.2.1) = ys.map fun y => V.ref y.2.1 := by
      rw [List.map_map]
      refine List.map_congr_left fun y _ => ?_
      show V.ref (if y.1 = k then (y.1, y.2.1, n) else y).2.1 = V.ref y.2.1
      split <;> rfl
    refine ⟨by rw [e1, e2]; exact r.1, ?_⟩
    have z := r.2
    clear r e1 e2 hk
    induction xs generalizing ys with
    | nil =>
      cases ys with
      | nil => rfl
      | cons _ _ => cases z
    | cons x xs ih =>
      cases ys with
      | nil => cases z
      | cons y ys =>
        rw [List.map_cons, List.map_cons] at z
        injection z with z1 z2
        injection z1 with z3 z4
        rw [List.map_cons, List.map_cons, List.map_cons, List.map_cons, ih z2]
        congr 1
        by_cases e : y.1 = k
        · rw [if_pos e, if_pos (by rw [z3, e])]
          exact Prod.ext z3 rfl
        · rw [if_neg e, if_neg (fun w => e (by rw [z3] at w; exact Option.some.inj w))]
          exact Prod.ext z3 z4
  · rw [if_neg hh, if_neg hh]
    refine ⟨?_, ?_⟩
    · rw [List.map_append, List.map_append]
      exact r.1.append ⟨_, _, rfl, hk, rfl⟩
    · rw [List.map_append, List.map_append, r.2]
      show _ ++ [(nk kd, n)] = _ ++ [(some k, n)]
      rw [nk_]
theorem paired_app {α β : Type} {R : α → β → Prop} {as cs : List α} {bs ds : List β} (p : Paired R as bs) (q : Paired R cs ds) : Paired R (as ++ cs) (bs ++ ds) := by
  induction p with
  | nil => exact q
  | cons h _ ih => exact .cons h ih
theorem find_same {xs : List (Dt × Int)} {ys : List (NestedKey × Addr × Int)} {vs : List (NestedKey × Addr × Value)} {k : NestedKey} (h : (xs.map fun x => (nk x.1, x.2)) = ys.map fun y => (some y.1, y.2.2)) (p : Paired (fun (y : NestedKey × Addr × Int) (v : NestedKey × Addr × Value) => y.1 = v.1 ∧ y.2.1 = v.2.1 ∧ RelV (.int y.2.2) v.2.2) ys vs) :
    (dcGet xs k).isSome = (atKey vs k).isSome := by
  rcases dc_get k h p with ⟨h1, h2⟩ | ⟨_, _, _, h1, h2, _⟩ <;> (rw [h1, h2]; try rfl)
theorem sd_dput (i : Nat) {x : Str} {px pos' pos : Pos} {k e : Expr} {f g : Fn} (hw : X.w = TbC.w) (hu : X.A.units + 64 < cLine) (hk : PD X W k f) (he : PD X W e g) (hN : X.N[i]? = some x := by rfl) (hs : swapsWith e (some (.Subscript (.Name x px) k pos')) pos.line X.env = pure false := by rfl)
    (hv : Vis X.env.scope x := by first | exact Or.inl rfl | exact Or.inr (Or.inl rfl) | exact Or.inr (Or.inr rfl)) (hd : (x == ("__debug__" : Str)) = false := by decide) (hcd : (x == ("__classdict__" : Str)) = false := by decide) :
    SD X W (.Assign [.Subscript (.Name x px) k pos'] e pos) (dputS i f g) := fun F => by
  refine ⟨fun pins s σ H D I ⟨ε, S, q⟩ => ?_⟩
  unfold dputS at q
  refine wpAny_Assign_Subscript (thn (he.run pins s σ H (fun v H1 => Ext H H1 ∧ ∃ d, Rep X.K X.mg H1 (prv F σ ε) d v ∧ SOut X F W D (dputV i f ε d)) I ⟨_, ε, S.e, (q.exp S).mono fun d q v H1 x1 r1 => ⟨x1, d, r1, q⟩⟩) fun eu s1 ⟨ev, H1, I1, re, x1, d, r1, q1⟩ => ?_) hs
  unfold dputV at q1
  cases hx : ε[i]? with
  | none => rw [hx] at q1; exact q1.elim
  | some l =>
    cases l with
    | m xs =>
      rw [hx] at q1
      have q1 : SOut X F W D ((exS ε (f ε)).bind fun kd => dputR i ε xs kd d) := q1
      have S1 := S.ext x1
      obtain ⟨a, ys0, hs', _, h0, _⟩ := S1.e.sl i _ hx
      refine thn ((pe_var (pos := px) (i := i) hN hv hd hcd).run pins s1 σ H1 (fun v H2 => v = .ref a ∧ H2 = H1) I1 ⟨.ref a, slot_some hs', rfl, rfl⟩) fun u s2 ⟨v, H2, I2, ru, e1, e2⟩ => ?_
      subst e1 e2
      obtain rfl : u = Value.ref a := ru
      refine thn (hk.run pins s2 σ H2 (fun v H3 => Ext H2 H3 ∧ ∃ kd, Rep X.K X.mg H3 (prv F σ ε) kd v ∧ SOut X F W D (dputR i ε xs kd d)) I2 ⟨_, ε, S1.e, (SOut.exp S1 q1).mono fun kd q v H3 x3 r3 => ⟨x3, kd, r3, q⟩⟩) fun ku s3 ⟨kv, H3, I3, rk, x3, kd, r3, q3⟩ => ?_
      unfold dputR at q3
      cases ok : okK kd with
      | none => rw [ok] at q3; exact q3.elim
      | some key =>
        cases d with
        | int n =>
          rw [ok] at q3
          dsimp only at q3
          by_cases z : deepOk xs = true ∧ xs.length < sizeLine
          · rw [if_pos z] at q3
            obtain ⟨n1, n2, ds, rfl⟩ := okK_some ok
            obtain ⟨b, vs, rfl, g1, g2⟩ := r3
            obtain rfl : ku = Value.ref b := rk
            have S3 := S1.ext x3
            obtain ⟨a', ys, hs3, p3, h3, ro⟩ := S3.e.sl i _ hx
            rw [hs'] at hs3
            cases hs3
            rw [← hw] at h3
            have d3 : dcV X.w a ys s3.heap := (I3.hok a _ h3).1
            obtain ⟨vs', hm, pr, hl, hsm⟩ := dco_of I3 d3 ro z.1
            have hkey : (nestedKind X.prog X.w).is s3.heap key b := ⟨nk_is I3 (.tup ds) (.ref b) (.ref b) key ⟨b, vs, rfl, g1, g2⟩ n1 rfl, n2⟩
            have re : RelV (V.int n) eu := by rw [← show ev = V.int n from r1]; exact re
            have lxy : xs.length = ys.length := by simpa using congrArg List.length ro.2
            have lyv : ys.length = vs'.length := Paired.length pr
            refine wpAny_setItem_heap (knd := nestedKind X.prog X.w) (show X.A.units + 1 + 8 < cLine by omega) hkey hm (fun h' hm' sb => ?_) (by omega)
            let ys' := if (dcGet xs key).isSome then ys.map (fun y => if y.1 = key then (y.1, y.2.1, n) else y) else ys ++ [(key, b, n)]
            have hpr : Paired (fun (y : NestedKey × Addr × Int) (v : NestedKey × Addr × Value) => y.1 = v.1 ∧ y.2.1 = v.2.1 ∧ RelV (.int y.2.2) v.2.2) ys' (storedH vs' key b eu) := by
              show Paired _ (if (dcGet xs key).isSome then _ else _) (if (atKey vs' key).isSome then _ else _)
              rw [find_same ro.2 pr]
              split
              · exact storedH_pr pr key n eu re
              · exact paired_app pr (.cons ⟨rfl, rfl, re⟩ .nil)
            obtain ⟨o', es', ep', g1', g2', g3', g4', _, g6'⟩ := hm'
            have ek : ys'.map (·.1) = (storedH vs' key b eu).map (·.1) := by
              clear g4' g6'
              revert hpr
              generalize storedH vs' key b eu = zs
              generalize ys' = ws
              intro hpr
              induction hpr with
              | nil => rfl
              | cons p _ ih => rw [List.map_cons, List.map_cons, ih, p.1]
            have ly : ys'.length ≤ sizeLine := by
              show (if (dcGet xs key).isSome then ys.map (fun y => if y.1 = key then (y.1, y.2.1, n) else y) else ys ++ [(key, b, n)]).length ≤ _
              split
              · rw [List.length_map]; omega
              · rw [List.length_append, List.length_singleton]; omega
            have dv : dcV X.w a ys' h' := ⟨o', es', ep', _, g1', g2', g3', g4', hpr, by rw [ek]; exact g6', ly, hsm⟩
            have I4 : Inv X pins σ (upd H3 a (dcO X.w a ys')) { s3 with heap := h', toks := s3.toks + (nestedKind X.prog X.w).draws key } :=
              I3.write (x := a) (e := a) (by rw [h3]; exact trivial) (.inl rfl) (fun c u hc hu => (sb.2 c hc).trans hu) ⟨o', g1'⟩ (dco_ok dv)
            refine ⟨σ, _, I4, q3 σ _ ?_⟩
            rw [hw]
            refine S3.put (l1 := .m (dcPut xs (.tup ds) key n)) hx trivial trivial (fun _ z => nomatch z) hs' nt_dc ⟨a, ys', rfl, p3, upd_same, ?_⟩
            refine DcOk.tr (Tr.write p3 (.inr (.inr ⟨_, _, _, h3⟩))) (dc_put ro ⟨b, vs, rfl, g1, g2⟩ n1)
          · rw [if_neg z] at q3; exact q3.elim
        | _ => rw [ok] at q3; exact q3.elim
    | _ => rw [hx] at q1; exact q1.elim
end
end DL
end
section
set_option Elab.async false
set_option linter.all false
set_option maxRecDepth 100000
set_option maxHeartbeats 800000
set_option autoImplicit false
namespace DL
open PySem PySem.Spec PyProof.Rows L2
variable [TbC]
/-! ### a dict is walked -/
def Itm (w : World) (d : Addr) (o : Obj) (ys : List (NestedKey × Addr × Int)) : It where
  go := fun i H => H d = some (.frz o (dcO w d ys)) ∧ i < ys.length
  yld := fun i H x H' => H' = H ∧ ∃ y : NestedKey × Addr × Int, ys[i]? = some y ∧ x = .ref y.2.1
  stop := fun i H => H d = some (.frz o (dcO w d ys)) ∧ ys.length ≤ i
theorem paired_at {α β : Type} {R : α → β → Prop} {as : List α} {bs : List β} {i : Nat} {a : α} (p : Paired R as bs) (h : as[i]? = some a) : ∃ b, bs[i]? = some b ∧ R a b := by
  induction p generalizing i with
  | nil => cases h
  | cons q _ ih =>
    cases i with
    | zero => cases h; exact ⟨_, rfl, q⟩
    | succ i => exact ih (by simpa using h)
section
variable {X : Cx} {W : WX} {pins : List (Addr × Obj)} {σ : L2.St} {H : Hp} {s : Shared} {P : Pv} {d : Addr} {o : Obj} {ys : List (NestedKey × Addr × Int)}
theorem frzM (I : Inv X pins σ H s) (h : H d = some (.frz o (dcO X.w d ys))) : (d == sysModules) = false ∧ s.heap.get? d = some o ∧ o.ExactDict ∧ ∃ (es : Array DictEntry) (ep : Nat), o.data = .dict es ep ∧ es.size = ys.length ∧
    ∀ (i : Nat) (y : NestedKey × Addr × Int), ys[i]? = some y → ∃ en : DictEntry, es[i]? = some en ∧ en.key = .ref y.2.1 := by
  obtain ⟨hg, ⟨o', es, ep, vs, h1, h2, h3, h4, h5, h6, h7, h8⟩, _⟩ := I.hok d _ h
  rw [hg] at h1
  cases h1
  have ly : ys.length = vs.length := Paired.length h5
  refine ⟨h8, hg, h2, es, ep, h3, ?_, fun i y hy => ?_⟩
  · have := congrArg List.length h4
    rw [List.length_map, Array.length_toList] at this
    omega
  · obtain ⟨v, hv, _, e, _⟩ := paired_at h5 hy
    refine ⟨⟨v.1.hash X.w, .ref v.2.1, v.2.2⟩, ?_, by rw [e]⟩
    rw [← Array.getElem?_toList, h4, List.getElem?_map, hv]
    rfl
end
theorem turn_m {Pr : Program} {w : World} {K : PySem.W.Frag} {tg : Expr} {d : Addr} {o : Obj} {es : Array DictEntry} {ep : Nat} {ys : List (NestedKey × Addr × Int)} (it : Addr) (hdat : o.data = .dict es ep) :
    Turn Pr w K tg (Itm w d o ys) [it] it (fun n hp => hp.IsKeyIter it d n ys.length ep) where
  mem := List.mem_singleton.mpr rfl
  obj := fun n hp ki b mb => by
    rw [List.mem_singleton.mp mb]
    obtain ⟨ob, g1, _, g3⟩ := ki
    exact ⟨ob, g1, fun v z => by rw [g3] at z; exact nomatch z⟩
  keep := fun n hp hp' ki kk => ki.at fun ob g => kk it (List.mem_singleton.mpr rfl) ob g
  item := by
    intro X eP eW eK calm n pins s σ H E I fp ki hgo
    subst eP eW eK
    obtain ⟨hfz, hlt⟩ := hgo
    obtain ⟨p0, p1, p2, p3, p4, p5⟩ := fp it (List.mem_singleton.mpr rfl)
    obtain ⟨q1, q2, q3, es2, ep2, q4, q5, q6⟩ := frzM I hfz
    rw [hdat] at q4
    cases q4
    obtain ⟨y, hy⟩ : ∃ y, ys[n]? = some y := ⟨ys[n], List.getElem?_eq_getElem hlt⟩
    obtain ⟨en, e1, e2⟩ := q6 n y hy
    refine next_key_item ki q2 hdat q5 e1 fun hp' ki' same => ?_
    have J : Inv X pins σ H { s with heap := hp' } := I.turned (t' := s.toks) (fun b u hb g => (same.2 b hb).trans g) p0 p1 p3 p4 p5
    obtain ⟨ob, g1, g2, g3⟩ := id ki'
    exact ⟨en.key, rfl, go_of (s := { s with heap := hp' }) g1 g2 g3 (by decide) ⟨.ref y.2.1, H, J, e2, ⟨rfl, y, hy, rfl⟩, ki', fun b mb => (fp b mb).1⟩⟩
  done := by
    intro X eP eW eK calm n pins s σ H E I fp ki hst
    subst eP eW eK
    obtain ⟨hfz, hle⟩ := hst
    obtain ⟨p0, p1, p2, p3, p4, p5⟩ := fp it (List.mem_singleton.mpr rfl)
    obtain ⟨q1, q2, q3, es2, ep2, q4, q5, q6⟩ := frzM I hfz
    rw [hdat] at q4
    cases q4
    exact next_key_end (I.ok.hd calm) ki q2 hdat q5 hle fun hp' keep => ⟨rfl, I.turned (t' := s.toks) (fun b u hb g => keep b u hb g) p0 p1 p3 p4 p5⟩
  self := fun A n s Q E ki hq => by
    have ty := ki.typeIs
    refine wpAny_pyIter_slot ty F.slot_dict_keyiterator_iter (wpAny_call_entry F.slot_dict_keyiterator_iter ty F.entry_dict_keyiterator_iter ?_ (F.args_dict_keyiterator_iter_1 _))
    exact wpAny_pure ⟨_, rfl, "dict_keyiterator", _, ty, F.slot_dict_keyiterator_next.lookup, hq⟩
section
variable {X : Cx} {W : WX} {i : Nat} {x : Str} {px : Pos} {tg : Expr}
theorem pi_m (hN : X.N[i]? = some x) (hv : Vis X.env.scope x) (hd : (x == ("__debug__" : Str)) = false) (hcd : (x == ("__classdict__" : Str)) = false) :
    PI X tg (.Name x px) (fun σ H R => ∃ d o ys, σ[i]? = some (some (.ref d)) ∧ H d = some (.frz o (dcO X.w d ys)) ∧ R (Itm X.w d o ys) H) := by
  refine ⟨fun pins s σ H R I ⟨d, o, ys, hs, hf, q⟩ => ?_⟩
  refine thn ((pe_var (pos := px) (i := i) hN hv hd hcd).run pins s σ H (fun v H1 => v = .ref d ∧ H1 = H) I ⟨.ref d, hs, rfl, rfl⟩) fun u s1 ⟨v, H1, I1, ru, e1, e2⟩ => ?_
  subst e1 e2
  obtain rfl : u = Value.ref d := ru
  obtain ⟨q1, q2, q3, es, ep, q4, q5, _⟩ := frzM I1 hf
  refine iter_keys q1 q2 q3 q4 (pi_one (tk := s1.toks) I1 _ (turn_m _ q4) ⟨_, Heap.get?_push_size _ rfl, rfl, ?_⟩ q)
  rw [q5]
  rfl
/-- the keys of a dict that is walked -/
def itM (i : Nat) : Fs := fun ε => match ε[i]? with
  | some (.mf xs) => .ok (xs.map (·.1))
  | _ => .bad
theorem idM (i : Nat) (hw : X.w = TbC.w) (hN : X.N[i]? = some x := by rfl) (hv : Vis X.env.scope x := by first | exact Or.inl rfl | exact Or.inr (Or.inl rfl) | exact Or.inr (Or.inr rfl)) (hd : (x == ("__debug__" : Str)) = false := by decide)
    (hcd : (x == ("__classdict__" : Str)) = false := by decide) : ID X W tg (.Name x px) (itM i) := pi_weak (pi_m hN hv hd hcd) fun σ H R ⟨P, ε, E, q⟩ => by
  unfold itM at q
  cases e : ε[i]? with
  | none => rw [e] at q; exact q.elim
  | some l =>
    rw [e] at q
    have z := E.sl i l e
    cases l with
    | mf xs =>
      obtain ⟨a, o, ys, hs, hf, ro⟩ := z
      rw [← hw] at hf
      refine ⟨a, o, ys, slot_some hs, hf, q _ H Ext.refl ⟨fun n H2 d k hn => ?_, fun n H2 k hn => ⟨k.at_ hf nt_frz, ?_⟩⟩⟩
      · have hl : n < xs.length := by
          have := (List.getElem?_eq_some_iff.mp hn).1
          simpa using this
        have lxy : xs.length = ys.length := by simpa using congrArg List.length ro.2
        refine ⟨⟨k.at_ hf nt_frz, by omega⟩, fun v H3 ⟨h3, y, hy, ev⟩ => ⟨h3, ?_⟩⟩
        obtain ⟨v', g1, g2⟩ := ro.1.get hn
        rw [List.getElem?_map, hy] at g1
        cases g1
        rw [ev]
        exact g2
      · have lxy : xs.length = ys.length := by simpa using congrArg List.length ro.2
        rw [List.length_map] at hn
        omega
    | _ => exact q.elim
/-- a dict is locked, while an expression walks it -/
def lockN (i : Nat) (f : Fs) : Fs := fun ε => match ε[i]? with
  | some (.m xs) => (match f ((lamE ε).set i (.mf xs)) with
    | .ok ds => .ok ds
    | _ => .bad)
  | _ => .bad
theorem pn_lock {e : Expr} {f : Fs} (i : Nat) (h : PN X W e f) : PN X W e (lockN i f) := pe_weak (pe_lock h) fun σ H Q ⟨P, ε, E, q⟩ => by
  unfold lockN at q
  cases hx : ε[i]? with
  | none => rw [hx] at q; exact q.elim
  | some l =>
    rw [hx] at q
    cases l with
    | m xs =>
      obtain ⟨a, ys, hs, pa, h0, ro⟩ := E.sl i _ hx
      have hi : i < ε.length := (List.getElem?_eq_some_iff.mp hx).1
      cases hf : f ((lamE ε).set i (.mf xs)) with
      | bad => simp only [hf] at q; exact q.elim
      | ex c => simp only [hf] at q; exact q.elim
      | ok ds =>
        simp only [hf] at q
        have q : ∀ p vs H', Ext H H' → Fresh H p → H' p = some (.lst vs) → Reps X.K X.mg H' (more P p) ds vs → Q (.ref p) H' := q
        refine ⟨a, dcO TbC.w a ys, h0, trivial, fun od => ?_⟩
        have ok0 : OwnK H a := .inr (.inr ⟨_, _, _, h0⟩)
        have tw : Tr P P H (upd H a (.frz od (dcO TbC.w a ys))) := Tr.write pa ok0
        refine ⟨P, (lamE ε).set i (.mf xs), ⟨by rw [List.length_set, lamE, List.length_map, E.ln], fun b hb => ?_, fun j l hj => ?_, (Xt.put (M := fun b => b = a) Xt.refl (.inr rfl) ok0).tabs E.tb⟩, ?_⟩
        · by_cases eb : b = a
          · rw [eb, upd_same]; exact ⟨_, rfl, nt_frz⟩
          · rw [upd_ne eb]; exact E.tk b hb
        · by_cases hji : i = j
          · subst hji
            rw [List.getElem?_set_self (by rw [lamE, List.length_map]; exact hi)] at hj
            cases hj
            exact ⟨a, od, ys, hs, upd_same, ro.tr tw⟩
          · rw [List.getElem?_set_ne hji] at hj
            unfold lamE at hj
            rw [List.getElem?_map] at hj
            cases hl : ε[j]? with
            | none => rw [hl] at hj; cases hj
            | some l0 =>
              rw [hl] at hj
              have z := E.sl j l0 hl
              cases l0 with
              | d y =>
                cases hj
                obtain ⟨v, g1, g2⟩ := z
                exact ⟨v, g1, Rep.tr tw _ _ g2⟩
              | _ => cases hj; trivial
        · rw [hf]
          intro p vs H' e fr hl r
          have fz : H' a = some (.frz od (dcO TbC.w a ys)) := e.at_ upd_same nt_frz
          have npa : p ≠ a := fun z => by
            obtain ⟨ps, w⟩ := fr (.frz od (dcO TbC.w a ys)) (by rw [z]; exact upd_same)
            cases w
          have e2 : Ext H (upd H' a (dcO TbC.w a ys)) := by
            refine ⟨fun b o hb n _ => ?_, fun b q' hm t => ?_⟩
            · by_cases eb : b = a
              · rw [eb] at hb ⊢
                rw [h0] at hb
                cases hb
                exact upd_same
              · rw [upd_ne eb]
                exact e.at_ (by rw [upd_ne eb]; exact hb) n
            · have t1 := (Xt.put (M := fun b => b = a) (o := .frz od (dcO TbC.w a ys)) Xt.refl (.inr rfl) ok0).tabS b q' hm t
              have t2 := e.tabS b q' hm t1
              exact (Xt.upd (M := fun b => b = a) (o := dcO TbC.w a ys) fun u hu => by
                rw [fz] at hu
                cases hu
                exact ⟨fun _ z => (nomatch z), fun _ _ z => (nomatch z), rfl⟩).tabS b q' hm t2
          refine ⟨fz, q p vs _ e2 (fun u hu => fr u (by rw [upd_ne npa]; exact hu)) (by rw [upd_ne npa]; exact hl) ?_⟩
          refine Reps.tr ⟨fun b o hb n np => ?_, fun b o u hb nd => ?_, fun b xs hb => ?_, fun _ _ _ _ n => n, fun b c q' hb => ?_⟩ _ _ r
          · rw [upd_ne (fun eb => np (.inl (by rw [eb]; exact pa)))]; exact hb
          · rw [upd_ne (fun eb => ?_)]
            · exact hb
            · rw [eb, fz] at hb
              cases hb
              exact nd _ _ _ rfl
          · rw [upd_ne (fun eb => ?_)]
            · exact hb
            · rw [eb, fz] at hb
              cases hb
          · rw [upd_ne (fun eb => ?_)]
            · exact hb
            · rw [eb, fz] at hb
              cases hb
    | _ => exact q.elim
end
end DL
end
section
set_option Elab.async false
set_option linter.all false
set_option maxRecDepth 100000
set_option autoImplicit false
namespace DL
open PySem PySem.Spec PyProof.Rows L2
variable [TbC]
variable {X : Cx} {W : WX} {e a b c : Expr} {es : List Expr} {f g : Fn} {pos p : Pos}
theorem hu64 {k : Nat} {A : Around} (r : Room k A) : A.units + 65 < cLine := by have := r.un; omega
theorem hu63 {k : Nat} {A : Around} (r : Room k A) : A.units + 64 < cLine := r.units
/-! ### looking at a list: how often, where -/
def lmF (k : List Dt → Dt → Option Dt) (f g : Fn) : Fn := fun ε => (f ε).bind fun x => match x with
  | .lst ds => (g ε).bind fun y => .ofO (k ds y)
  | _ => .bad
def LmD (X : Cx) (r : V → List V → Hp → VK → Prop) (k : List Dt → Dt → Option Dt) : Prop := ∀ (l : Addr) (vs : List V) (y : V) (H : Hp) (Q : VK) (P : Pv) (ds : List Dt) (dy d : Dt), H l = some (.lst vs) → Reps X.K X.mg H P ds vs → Rep X.K X.mg H P dy y → k ds dy = some d →
  (∀ v H', Ext H H' → Rep X.K X.mg H' P d v → Q v H') → r (.ref l) [y] H Q
theorem pd_lm {name : Str} {id : String} {r : V → List V → Hp → VK → Prop} {k : List Dt → Dt → Option Dt} {p2 p3 : Pos} (slot : Slot "list" name id) (hty : typeOf (.builtin id) = pure (.type "method_descriptor")) (hm : MtR X id r) (hk : LmD X r k) (ha : PB X W a f) (hb : PD X W b g)
    (hbase : attributeBase a name X.env (eval a X.env) = eval a X.env)
    (hfew : ((backTo p3 (starEach (b :: []) X.env)).all (fun x => !x.1) && (backToKw p3 (keywordEach [] X.env)).all (fun x => x.1.isSome) && decide ((b :: ([] : List Expr)).length + ([] : List Keyword).length + (if ([] : List Keyword).isEmpty then 0 else 1) < 30)) = true)
    (hline : (p2.endLine == p3.line) = true) (hs : starEach (b :: []) X.env = (false, eval b X.env) :: starEach [] X.env) (hplain : (backTo p3 (starEach [] X.env)).any (·.1) = false) :
    PD X W (.Call (.Attribute a name p2) [b] [] p3) (lmF k f g) := pe_weak (pe_bm PySem.F.plainAttrs_list slot hty hm ha (ad_cons hb ad_nil hs) hbase hfew hline hs hplain) fun σ H Q ⟨P, ε, E, q⟩ =>
  ⟨P, ε, E, q.bind.mono fun dx q x H1 e1 r1 => by
    cases dx with
    | lst ds =>
      obtain ⟨l, vs, rfl, h1, rs⟩ := r1
      refine ⟨.inl ⟨rfl, vs, .of h1⟩, P, ε, E.ext e1, ?_⟩
      have q1 := q.ext e1
      show Out X W σ H1 ((g ε).bind fun x => .ok [x]) _
      cases hg : g ε with
      | ok dy =>
        rw [hg] at q1
        obtain ⟨d, hd, q2⟩ := q1.ofO
        intro ws H2 e2 r2
        obtain ⟨w, rfl, r3⟩ := Reps.sing r2
        exact hk l vs w H2 Q P ds dy d (e2.at_ h1 nt_lst) (rs.ext e2) r3 hd fun v H' x => q2 v H' (e1.trans (e2.trans x))
      | ex t => rw [hg] at q1; exact q1
      | bad => rw [hg] at q1; exact q1
    | _ => exact q.elim⟩
def cntD : List Dt → Dt → Option Dt := fun ds y => (pys ds).bind fun xs => (py y).bind fun b => if SeqAt.shaped (.list xs) = true ∧ SeqAt.shaped b = true then some (.int ((xs.countP fun z => PyData.eqv z b : Nat) : Int)) else none
def idxD : List Dt → Dt → Option Dt := fun ds y => (pys ds).bind fun xs => (py y).bind fun b => if SeqAt.shaped (.list xs) = true ∧ SeqAt.shaped b = true then (xs.findIdx? fun z => PyData.eqv z b).map fun (n : Nat) => .int (n : Int) else none
def rCntD (K : PySem.W.Frag) : V → List V → Hp → VK → Prop := fun x xs H Q => ∃ (l : Addr) (y : V) (d : PyData) (ds : List PyData), x = V.ref l ∧ xs = [y] ∧ Dp K H (V.ref l) (.list ds) ∧ Dp K H y d ∧ SeqAt.shaped (.list ds) = true ∧ SeqAt.shaped d = true ∧
  Q (.int ((ds.countP fun z => PyData.eqv z d : Nat) : Int)) H
theorem mt_cntD (hu : X.A.units + 65 < cLine) : MtR X "list.count" (rCntD X.K) := by
  intro pins s σ H x xs v us Q I rx rxs h
  obtain ⟨l, y, d, ds, rfl, rfl, hl, hy, sl, sd, q⟩ := h
  cases rx
  obtain ⟨u, rfl, ry⟩ := rxs.one
  obtain ⟨bs, r1⟩ := Dp.reads I d y u hy ry
  have lay : PyData.canLayAll0 ds = true := SeqAt.canLay_of_shaped sl
  have room : X.A.units + 1 + min (PyData.depthAll ds) d.depth < cLine := room_in_shaped sd hu
  cases hl with
  | lst hs hds =>
    obtain ⟨its, rv, ⟨⟨cls, dd, data, sls⟩, n, ho, hc, hdn, hdt⟩, _⟩ := I.list hs
    simp only at hc hdt
    subst hc hdt
    obtain ⟨as, r2⟩ := Dp.readsAll I ds _ its hds rv
    exact SeqAt.count_list_data (vs := its.toArray) ⟨_, ho, rfl, n, rfl⟩ r2 r1 (PyData.plainAll_of_canLay0 ds lay) (PyData.plain_of_canLay0 d (SeqAt.canLay_of_shaped sd)) room ⟨.int _, H, I.tok _, ⟨_, rfl⟩, q⟩
theorem cnt_ok : LmD X (rCntD X.K) cntD := fun l vs y H Q P ds dy d h1 rs r e q => by
  unfold cntD at e
  obtain ⟨xs, e1, e⟩ := Option.bind_eq_some_iff.mp e
  obtain ⟨b, e2, e⟩ := Option.bind_eq_some_iff.mp e
  split at e
  · rename_i hs
    cases e
    exact ⟨l, y, b, xs, rfl, rfl, .lst (.of h1) (reps_py _ _ _ rs e1), rep_py _ _ _ r e2, hs.1, hs.2, q _ H Ext.refl rfl⟩
  · cases e
theorem idx_ok : LmD X (rIndexD X.K) idxD := fun l vs y H Q P ds dy d h1 rs r e q => by
  unfold idxD at e
  obtain ⟨xs, e1, e⟩ := Option.bind_eq_some_iff.mp e
  obtain ⟨b, e2, e⟩ := Option.bind_eq_some_iff.mp e
  split at e
  · rename_i hs
    obtain ⟨j, e3, rfl⟩ := Option.map_eq_some_iff.mp e
    obtain ⟨g1, g2, g3⟩ := List.findIdx?_eq_some_iff_getElem.mp e3
    refine ⟨l, y, b, xs, j, xs[j], rfl, rfl, .lst (.of h1) (reps_py _ _ _ rs e1), rep_py _ _ _ r e2, hs.1, hs.2, List.getElem?_eq_getElem g1, g2, fun m z hm hz => ?_, q _ H Ext.refl rfl⟩
    obtain ⟨m1, rfl⟩ := List.getElem?_eq_some_iff.mp hz
    have := g3 m hm
    simpa using this
  · cases e
theorem pd_count {k : Nat} {p2 p3 : Pos} (hr : Room k X.A) (ha : PB X W a f) (hb : PD X W b g)
    (hbase : attributeBase a "count" X.env (eval a X.env) = eval a X.env := by rfl)
    (hfew : ((backTo p3 (starEach (b :: []) X.env)).all (fun x => !x.1) && (backToKw p3 (keywordEach [] X.env)).all (fun x => x.1.isSome) && decide ((b :: ([] : List Expr)).length + ([] : List Keyword).length + (if ([] : List Keyword).isEmpty then 0 else 1) < 30)) = true := by rfl)
    (hline : (p2.endLine == p3.line) = true := by rfl) (hs : starEach (b :: []) X.env = (false, eval b X.env) :: starEach [] X.env := by rfl) (hplain : (backTo p3 (starEach [] X.env)).any (·.1) = false := by rfl) :
    PD X W (.Call (.Attribute a "count" p2) [b] [] p3) (lmF cntD f g) := pd_lm PySem.F.slot_list_count PySem.F.type_list_count (mt_cntD (hu64 hr)) cnt_ok ha hb hbase hfew hline hs hplain
theorem pd_index {k : Nat} {p2 p3 : Pos} (hr : Room k X.A) (ha : PB X W a f) (hb : PD X W b g)
    (hbase : attributeBase a "index" X.env (eval a X.env) = eval a X.env := by rfl)
    (hfew : ((backTo p3 (starEach (b :: []) X.env)).all (fun x => !x.1) && (backToKw p3 (keywordEach [] X.env)).all (fun x => x.1.isSome) && decide ((b :: ([] : List Expr)).length + ([] : List Keyword).length + (if ([] : List Keyword).isEmpty then 0 else 1) < 30)) = true := by rfl)
    (hline : (p2.endLine == p3.line) = true := by rfl) (hs : starEach (b :: []) X.env = (false, eval b X.env) :: starEach [] X.env := by rfl) (hplain : (backTo p3 (starEach [] X.env)).any (·.1) = false := by rfl) :
    PD X W (.Call (.Attribute a "index" p2) [b] [] p3) (lmF idxD f g) := pd_lm PySem.F.slot_list_index PySem.F.type_list_index (mt_indexD (hu64 hr)) idx_ok ha hb hbase hfew hline hs hplain
/-! ### two lists put together are a new list -/
def catD : Dt → Dt → Option (List Dt)
  | .lst xs, .lst ys => if xs.length + ys.length ≤ sizeLine then some (xs ++ ys) else none
  | _, _ => none
def binN (h : Dt → Dt → Option (List Dt)) (f g : Fn) : Fs := fun ε => (f ε).bind fun x => (g ε).bind fun y => .ofO (h x y)
theorem nAdd (ha : PB X W a f) (hb : PB X W b g) : PN X W (.BinOp a .Add b pos) (binN catD f g) := pe_weak (pe_op op_cat ha hb) fun σ H Q ⟨P, ε, E, q⟩ => by
  refine two_of (T := fun _ P H ds => ∀ p vs H', Ext H H' → Fresh H p → H' p = some (.lst vs) → Reps X.K X.mg H' (more P p) ds vs → Q (.ref p) H') E q fun x y H1 dx dy E1 e r1 r2 q => ?_
  obtain ⟨ds, hd, q⟩ := q.ofO
  unfold catD at hd
  split at hd
  · split at hd
    · rename_i hz
      cases hd
      obtain ⟨l, vs, rfl, h1, s1⟩ := r1
      obtain ⟨l', vs', rfl, h1', s1'⟩ := r2
      exact ⟨l, l', vs, vs', rfl, rfl, h1, h1', by rw [← s1.length, ← s1'.length]; exact hz, fun m hm => q _ _ _ (e.trans (Ext.new hm)) (Ext.fresh e (.of hm)) upd_same (Reps.tr (Tr.more (.of (by exact hm))) _ _ (s1.append s1') |> fun z => Reps.ext (Ext.new hm) z)⟩
    · cases hd
  · cases hd
/-! ### one's own list: an item taken out, turned round, emptied -/
def popK (ds xs : List Dt) : Option (List Dt) := match xs with
  | [.int i] => if 0 ≤ i ∧ i < (ds.length : Int) ∧ i < 2 ^ 63 then some (ds.eraseIdx i.toNat) else none
  | _ => none
theorem Reps.erase {K : PySem.W.Frag} {mg : Mg} {H : Hp} {P : Pv} : ∀ (n : Nat) {ds : List Dt} {vs : List V}, Reps K mg H P ds vs → Reps K mg H P (ds.eraseIdx n) (vs.eraseIdx n)
  | _, [], vs, h => by rw [show vs = [] from h]; simpa using (show Reps K mg H P [] [] from rfl)
  | 0, d :: ds, vs, ⟨v, r, e, _, h2⟩ => by rw [e]; exact h2
  | n + 1, d :: ds, vs, ⟨v, r, e, h1, h2⟩ => by rw [e]; exact ⟨v, _, rfl, h1, Reps.erase n h2⟩
def popS (i : Nat) (f : Fn) : Sg := chS i (consF f nilF) popK
theorem sd_popAt (i : Nat) {x : Str} {px p2 p3 : Pos} (he : PD X W e f) (hN : X.N[i]? = some x := by rfl) (hv : Vis X.env.scope x := by first | exact Or.inl rfl | exact Or.inr (Or.inl rfl) | exact Or.inr (Or.inr rfl)) (hd : (x == ("__debug__" : Str)) = false := by decide)
    (hcd : (x == ("__classdict__" : Str)) = false := by decide) (hbase : attributeBase (.Name x px) "pop" X.env (eval (.Name x px) X.env) = eval (.Name x px) X.env := by rfl)
    (hfew : ((backTo p3 (starEach (e :: []) X.env)).all (fun x => !x.1) && (backToKw p3 (keywordEach [] X.env)).all (fun x => x.1.isSome) && decide ((e :: ([] : List Expr)).length + ([] : List Keyword).length + (if ([] : List Keyword).isEmpty then 0 else 1) < 30)) = true := by rfl)
    (hline : (p2.endLine == p3.line) = true := by rfl) (hs : starEach (e :: []) X.env = (false, eval e X.env) :: starEach [] X.env := by rfl) (hplain : (backTo p3 (starEach [] X.env)).any (·.1) = false := by rfl)
    (hsw : swapsWith (.Call (.Attribute (.Name x px) "pop" p2) [e] [] p3) none pos.line X.env = pure false := by rfl) :
    SD X W (.Expr (.Call (.Attribute (.Name x px) "pop" p2) [e] [] p3) pos) (popS i f) := fun F =>
  ps_weak (ps_expr (pe_bm PySem.F.plainAttrs_list PySem.F.slot_list_pop PySem.F.type_list_pop mt_popAt (pe_var (i := i) hN hv hd hcd) (ad_cons he ad_nil hs) hbase hfew hline hs hplain) hsw) fun D σ H ⟨ε, S, q⟩ =>
    ch_of S q fun a vs ws ds xs es H1 Q h1 r1 r2 hk k => by
      unfold popK at hk
      split at hk
      · rename_i j
        by_cases hl : 0 ≤ j ∧ j < (ds.length : Int) ∧ j < 2 ^ 63
        · rw [if_pos hl] at hk
          cases hk
          obtain ⟨w, rfl, r3⟩ := Reps.sing r2
          rw [show w = V.int j from r3]
          have len := r1.length
          have hj : j.toNat < vs.length := by omega
          exact ⟨a, vs, j, j.toNat, vs[j.toNat], rfl, rfl, h1, by omega, hl.2.2, by unfold seqIndex?; simp only []; split <;> simp_all <;> omega, List.getElem?_eq_getElem hj, k _ (Reps.erase _ r1) _⟩
        · rw [if_neg hl] at hk; cases hk
      · cases hk
theorem ch_of0 {F : Frm} {D : Ends} {i : Nat} {k : List Dt → List Dt → Option (List Dt)} {ε : Ev} {σ : St} {H : Hp} {r : V → List V → Hp → VK → Prop} (S : SOk X.K X.mg F σ H ε) (q : SOut X F W D (chS i nilF k ε))
    (hr : ∀ (a : Addr) (vs : List V) (ds es : List Dt) (H1 : Hp) (Q : VK), H1 a = some (.lst vs) → Reps X.K X.mg H1 (prv F σ ε) ds vs → k ds [] = some es → (∀ us, Reps X.K X.mg H1 (prv F σ ε) es us → ∀ v, Q v (upd H1 a (.lst us))) → r (.ref a) [] H1 Q) :
    ∃ v, σ[i]? = some (some v) ∧ tyV X.K "list" v H ∧ r v [] H fun _ H2 => D.nx σ H2 := by
  obtain ⟨v, h1, h2, P, ε', E, z⟩ := ch_of (W := W) (r := fun v ws H1 Q => ws = [] → r v ws H1 Q) S q fun a vs ws ds xs es H1 Q g1 g2 g3 g4 g5 hw => by
    subst hw
    have : xs = [] := by
      cases xs with
      | nil => rfl
      | cons d t => obtain ⟨v, rest, e, _⟩ := g3; cases e
    subst this
    exact hr a vs ds es H1 Q g1 g2 g4 g5
  exact ⟨v, h1, h2, z [] H Ext.refl rfl rfl⟩
def revS (i : Nat) : Sg := chS i nilF fun ds _ => some ds.reverse
theorem Reps.rev {K : PySem.W.Frag} {mg : Mg} {H : Hp} {P : Pv} : ∀ {ds : List Dt} {vs : List V}, Reps K mg H P ds vs → Reps K mg H P ds.reverse vs.reverse
  | [], vs, h => by rw [show vs = [] from h]; exact rfl
  | d :: ds, vs, ⟨v, r, e, h1, h2⟩ => by rw [e, List.reverse_cons, List.reverse_cons]; exact (Reps.rev h2).append (Reps.one h1)
theorem sd_reverse (i : Nat) {x : Str} {px p2 p3 : Pos} (hN : X.N[i]? = some x := by rfl) (hv : Vis X.env.scope x := by first | exact Or.inl rfl | exact Or.inr (Or.inl rfl) | exact Or.inr (Or.inr rfl)) (hd : (x == ("__debug__" : Str)) = false := by decide)
    (hcd : (x == ("__classdict__" : Str)) = false := by decide) (hbase : attributeBase (.Name x px) "reverse" X.env (eval (.Name x px) X.env) = eval (.Name x px) X.env := by rfl) (hline : (p2.endLine == p3.line) = true := by rfl)
    (hsw : swapsWith (.Call (.Attribute (.Name x px) "reverse" p2) [] [] p3) none pos.line X.env = pure false := by rfl) :
    SD X W (.Expr (.Call (.Attribute (.Name x px) "reverse" p2) [] [] p3) pos) (revS i) := fun F =>
  ps_weak (ps_expr (pe_bm0 PySem.F.plainAttrs_list PySem.F.slot_list_reverse PySem.F.type_list_reverse mt_reverse (pe_var (i := i) hN hv hd hcd) hbase hline) hsw) fun D σ H ⟨ε, S, q⟩ =>
    ch_of0 S q fun a vs ds es H1 Q h1 r1 hk k => by
      cases hk
      exact ⟨a, vs, rfl, rfl, h1, k _ r1.rev _⟩
/-! ### is not True, is not False -/
def notBD : O2
  | .bl x, .bl y => some (.bl (!decide (x = y)))
  | _, _ => none
theorem notB_ok : OpD X rNotB notBD := fun x y H Q P dx dy d _ r1 r2 e q => by
  unfold notBD at e
  split at e
  · cases e
    exact ⟨_, _, r1, r2, q _ H Ext.refl rfl⟩
  · cases e
theorem dNotB (ha : PB X W a f) (hb : PB X W b g) : PD X W (.Compare a [.IsNot] [b] pos) (bin notBD f g) := pd_cmp op_notBl notB_ok ha hb (nomark _)
theorem tNotB (ha : PB X W a f) (hb : PB X W b g) : TD X W (.Compare a [.IsNot] [b] pos) (tst (bin notBD f g)) := td_cmp op_notBl notB_ok ha hb (nomark _)
end DL
end
section
set_option Elab.async false
set_option linter.all false
set_option maxRecDepth 100000
set_option maxHeartbeats 800000
set_option autoImplicit false
namespace DL
open PySem PySem.Spec PyProof.Rows L2
variable [TbC]
/-! ### isinstance of an exception that a suite holds -/
section
variable {X : Cx} {W : WX} {a D : Addr} {oe : Obj}
theorem call_isP (C : ExcC X.K D) (hp : (a, oe) ∈ X.pn) (hz : Zc (.ref D) none oe) (hf : ∃ vs, oe.data = .fields vs) : CallR X (.builtin "isinstance") (rIsE X.K D a) := fun pins s σ H xs us Q I r ⟨c, cv, b, ex, hcv, e, q⟩ => by
  subst ex
  match us, r with
  | [_, uc], .cons rx (.cons rt .nil) =>
    cases rx
    cases hcv _ rt
    have hget := (I.pin (a, oe) (List.mem_append.mpr (.inl hp))).1
    have J : PySem.W.InstAt s.heap a oe D none := by
      obtain ⟨vs, hv⟩ := hf
      obtain ⟨oc, od, oda, osl⟩ := oe
      obtain ⟨z1, z2⟩ := hz
      dsimp only at z1 z2 hv
      subst z1 z2 hv
      exact ⟨hget, rfl, rfl, trivial⟩
    have kx := PySem.W.handS_kitx_exc (x := a) (ox := oe) C.hg C.hk C.hs C.hd C.ha C.hn C.ht C.hm
    exact PySem.W.kia_one kx I.kIn J e (fun z => nomatch z) fun tk => ⟨.bl b, H, Inv.kept (t' := tk) I fun _ _ z => z, rfl, q⟩
/-- the exception at a, as data: its address alone is looked at -/
def isED (a : Addr) (b : Bool) : Dt → Option Dt
  | .fn f _ _ _ _ => if f = a then some (.bl b) else none
  | _ => none
theorem isED_no {b : Bool} {f c : Addr} {q : Str} {ws : List V} {ds : List Dt} (z : f ≠ a) : isED a b (.fn f c q ws ds) = none := if_neg z
theorem isED_eq {b : Bool} {c : Addr} {q : Str} {ws : List V} {ds : List Dt} : isED a b (.fn a c q ws ds) = some (.bl b) := if_pos rfl
theorem dIsE {T : Str} {e : Expr} {f : Fn} {cv : V} {cu : Value} {b : Bool} {p p2 pos : Pos} (C : ExcC X.K D) (hp : (a, oe) ∈ X.pn) (hz : Zc (.ref D) none oe) (hf : ∃ vs, oe.data = .fields vs) (hm : X.mg "isinstance" = none) (ha : PB X W e f)
    (hT : PE X (.Name T p2) fun σ H Q => Q cv H) (hu : ∀ u, RelV cv u → u = cu) (hk : PySem.W.kitOne X.K (.ref D) cu = some b) (hg : Gl X "isinstance" := by rfl)
    (he : starEach (e :: [.Name T p2]) X.env = (false, eval e X.env) :: starEach [.Name T p2] X.env := by rfl) (he2 : starEach [.Name T p2] X.env = [(false, eval (.Name T p2) X.env)] := by rfl) (hpl : (backTo pos (starEach [.Name T p2] X.env)).any (·.1) = false := by rfl) :
    PD X W (.Call (.Name "isinstance" p) [e, .Name T p2] [] pos) (un (isED a b) f) :=
  pe_weak (pe_callB (call_isP C hp hz hf) hg hm boot_isinstance (pa_cons ha (pa_cons hT pa_nil he2) he) (by decide) (by decide) he hpl) fun σ H Q ⟨P, ε, E, q⟩ =>
    ⟨P, ε, E, q.bind.mono fun dx q x H1 e1 r1 => by
      obtain ⟨d, hh, q⟩ := q.ofO
      cases dx with
      | fn f' c' q' ws ds =>
        by_cases z : f' = a
        · subst z
          rw [isED_eq] at hh
          cases hh
          obtain ⟨rfl, _⟩ := r1
          exact ⟨cv, cu, b, rfl, hu, hk, q _ H1 e1 rfl⟩
        · rw [isED_no z] at hh
          cases hh
      | _ => cases hh⟩
theorem ref_only {c : Addr} : ∀ u, RelV (.ref c) u → u = .ref c := fun _ h => h
theorem ty_only {n : String} : ∀ u, RelV (.ty n) u → u = .type n := fun _ h => h
/-! what asks for the room of units alone -/
variable {b : Expr} {f g : Fn} {e e2 : Expr} {p pos : Pos}
theorem tNeU (hu : X.A.units + 65 < cLine) (ha : PB X W e f) (hb : PB X W e2 g) : TD X W (.Compare e [.NotEq] [e2] pos) (tst (bin neD f g)) := td_cmp (op_neD (Nat.lt_of_succ_lt hu)) ne_ok ha hb (nomark _)
theorem pd_countU {p2 p3 : Pos} (hu : X.A.units + 65 < cLine) (ha : PB X W e f) (hb : PD X W b g)
    (hbase : attributeBase e "count" X.env (eval e X.env) = eval e X.env := by rfl)
    (hfew : ((backTo p3 (starEach (b :: []) X.env)).all (fun x => !x.1) && (backToKw p3 (keywordEach [] X.env)).all (fun x => x.1.isSome) && decide ((b :: ([] : List Expr)).length + ([] : List Keyword).length + (if ([] : List Keyword).isEmpty then 0 else 1) < 30)) = true := by rfl)
    (hline : (p2.endLine == p3.line) = true := by rfl) (hs : starEach (b :: []) X.env = (false, eval b X.env) :: starEach [] X.env := by rfl) (hplain : (backTo p3 (starEach [] X.env)).any (·.1) = false := by rfl) :
    PD X W (.Call (.Attribute e "count" p2) [b] [] p3) (lmF cntD f g) := pd_lm PySem.F.slot_list_count PySem.F.type_list_count (mt_cntD hu) cnt_ok ha hb hbase hfew hline hs hplain
theorem pd_indexU {p2 p3 : Pos} (hu : X.A.units + 65 < cLine) (ha : PB X W e f) (hb : PD X W b g)
    (hbase : attributeBase e "index" X.env (eval e X.env) = eval e X.env := by rfl)
    (hfew : ((backTo p3 (starEach (b :: []) X.env)).all (fun x => !x.1) && (backToKw p3 (keywordEach [] X.env)).all (fun x => x.1.isSome) && decide ((b :: ([] : List Expr)).length + ([] : List Keyword).length + (if ([] : List Keyword).isEmpty then 0 else 1) < 30)) = true := by rfl)
    (hline : (p2.endLine == p3.line) = true := by rfl) (hs : starEach (b :: []) X.env = (false, eval b X.env) :: starEach [] X.env := by rfl) (hplain : (backTo p3 (starEach [] X.env)).any (·.1) = false := by rfl) :
    PD X W (.Call (.Attribute e "index" p2) [b] [] p3) (lmF idxD f g) := pd_lm PySem.F.slot_list_index PySem.F.type_list_index (mt_indexD hu) idx_ok ha hb hbase hfew hline hs hplain
end
/-! ### the word of an exception that a suite holds -/
/-- the def at f hands back wd, of an exception of the class D -/
def WdOk (P : Program) (w : World) (K : PySem.W.Frag) (mg : Mg) (base : Heap) (lv : Nat) (f D : Addr) (wd : Dt) : Prop :=
  ∀ (A : Around) (outer : List Env) (s : Shared) (H : Hp) (a : Addr) (oe : Obj) (c : Addr) (q : Str) (Q : VK), L2H.RoomH lv A → L2H.PinOk outer H s (a, oe) → Zc (.ref D) none oe → (∃ vs, oe.data = .fields vs) → Env0 P w K mg base A outer s H →
    H c = some (LamX.CodeO c q) → LamX.Tabs TbC.T H → (∀ v H', Ext H H' → Rep K mg H' no wd v → Q v H') → codeAny (model P w) A (.call (.ref f) ⟨[.ref a], []⟩) (CR C8.CX0 outer P w H s Q C8.E0) s
theorem wd_of {P : Program} {w : World} {K : PySem.W.Frag} {mg : Mg} {base : Heap} {k : Nat} {x e0 : Str} {f D : Addr} {wd : Dt} {st : Stmt} {fd : FuncData} {N : List Str} {g : Addr → Sg} (Fg : FunD K x x (defArgs st) (defBody st) (defScope st) [] [] f fd) (S : FnScope N [e0] (defScope st))
    (hb : ∀ (kV doc pm : Value) (an : Option Addr) (cdv ct : Value) (us : List Value), us.length = [e0].length → bindArgs (PySem.W.fnOf x x (defArgs st) (defBody st) (defScope st) .none kV doc pm an cdv ct) ⟨us, []⟩ = pure ([e0].zip us))
    (hbody : ∀ (cdv : Value) (A : Around) (outer : List Env) (s : Shared) (H : Hp) (Q : VK) (a : Addr) (oe : Obj), Zc (.ref D) none oe → (∃ vs, oe.data = .fields vs) → L2H.RoomH k (A.deeper (envOfC x (defScope st) s.heap.objs.size f cdv)) → SDs (L2H.cxH C8.CX0 P w K mg base N x (defScope st) f cdv A outer s H C8.E0 (a, oe)) W0 (defBody st) (g a))
    (hg : ∀ a c q, g a (startE N.length [.fn a c q [] []]) = .ok (.rt wd)) : WdOk P w K mg base (k + 1) f D wd := by
  intro A outer s H a oe c q Q hr hpin hz hf e0 hc ht hQ
  have hbA := Fg.bindsA hb
  obtain ⟨oc, od, dV, kV, doc, pm, an, cdv, ct, osl, efd, lk, hcd, _, _⟩ := Fg.ex
  subst efd
  have KX : K.In s.heap := fun b o z => (e0.bs b o (e0.mod.kin b o z)).1
  have lim := e0.mod.nolimit.keeps fun b o z => (e0.bs b o z).1
  have hbs := hbA s [.ref a] rfl
  have hkind : ∀ y ∈ [_].zip [Value.ref a], (defScope st).names.lookup y.1 = some .local ∨ ((defScope st).names.lookup y.1 = some .cell ∧ ((cellsFrom (s.heap.objs.size + 1) (defScope st).names []).lookup y.1).isSome = true) := fun y hy => by
    rcases S.par y.1 (List.of_mem_zip hy).1 with z | z
    · exact .inl z
    · exact .inr ⟨z, PySem.W.cellsFrom_some _ _ _ (.inl z)⟩
  refine codeAny_call_function hr.depth (KX _ _ lk) rfl S.co S.gen rfl (PySem.W.codeRec_of KX hcd) (hbs _ _ _ _ ?_)
  refine wpAny_newFunctionEnv_cells S.kind hkind fun env he s1 x1 => ?_
  subst he
  refine ⟨lim.keeps x1.toInCall.keep, codeAny_func ?_⟩
  have I := L2H.inv_startH (CX := C8.CX0) (E := C8.E0) (cd := cdv) (f := f) (qual := x) S hpin e0 (vs := [.ref a]) rfl (.cons rfl .nil) x1
  have hS := hbody cdv A outer s H Q a oe hz hf (hr.deeper _)
  refine wpAny_mono ((hS ⟨H, no, no⟩).run [] s1 _ H { nx := fun _ _ => False, rt := Q } I ⟨startE N.length [.fn a c q [] []], sok_start (fun _ z => z.elim) ht ⟨_, _, rfl, ⟨rfl, hc, rfl⟩, rfl⟩, ?_⟩) (fun fl s' hs => ?_) fun e s' hs => hs
  · rw [hg]
    exact fun v H' e r => hQ v H' e r
  · cases fl with
    | ret u =>
      obtain ⟨v, σ', H', J, rv, q⟩ := hs
      exact ⟨v, H', J.os, J.bare, J.base, J.hok, rv, q⟩
    | next => exact hs.elim fun _ z => z.elim fun _ z => z.2.elim
    | brk => exact hs.elim fun _ z => z.elim fun _ z => z.2.elim
    | cont => exact hs.elim fun _ z => z.elim fun _ z => z.2.elim
/-- e(), e holds what was made of the exception: the call of the def -/
def wdD (a : Addr) (wd : Dt) : Dt → Option Dt
  | .fn f _ _ _ _ => if f = a then some wd else none
  | _ => none
theorem wdD_no {a f c : Addr} {wd : Dt} {q : Str} {ws : List V} {ds : List Dt} (z : f ≠ a) : wdD a wd (.fn f c q ws ds) = none := if_neg z
theorem wdD_eq {a c : Addr} {wd : Dt} {q : Str} {ws : List V} {ds : List Dt} : wdD a wd (.fn a c q ws ds) = some wd := if_pos rfl
/-- texts, and tuples of texts: the same whatever is private -/
def Plain (d : Dt) : Prop := ∀ (K : PySem.W.Frag) (mg : Mg) (H : Hp) (P P' : Pv) (v : V), Rep K mg H P d v → Rep K mg H P' d v
theorem plain_str {x : Str} : Plain (.str x) := fun _ _ _ _ _ _ h => h
section
variable {X : Cx} {a D : Addr} {oe : Obj} {pn : List (Addr × Obj)} {x : Str} {e : Expr} {f : Fn} {p pos : Pos} {lv : Nat} {fw : Addr} {wd : Dt}
theorem pd_word (hw : WdOk X.prog X.w X.K X.mg X.base lv fw D wd) (pl : Plain wd) (hm : X.mg x = some (.ref fw)) (hkp : PySem.W.keepIn X.K (.ref fw) = true) (hr : L2H.RoomH lv X.A) (hz : Zc (.ref D) none oe) (hf : ∃ vs, oe.data = .fields vs)
    (ha : PD (X.suite a ((a, oe) :: pn)) W0 e f) (hg : Gl X x := by rfl) (hdb : (x == ("__debug__" : Str)) = false := by decide)
    (he : starEach (e :: []) (X.suite a ((a, oe) :: pn)).env = (false, eval e (X.suite a ((a, oe) :: pn)).env) :: starEach [] (X.suite a ((a, oe) :: pn)).env := by rfl) (hpl : (backTo pos (starEach [] (X.suite a ((a, oe) :: pn)).env)).any (·.1) = false := by rfl) :
    PD (X.suite a ((a, oe) :: pn)) W0 (.Call (.Name x p) [e] [] pos) (un (wdD a wd) f) := by
  refine ⟨fun pins s σ H Q I ⟨P, ε, E, q⟩ => ?_⟩
  refine wpAny_Call_Name_kw (ld_glob I hg hm ?_ hdb)
  refine PySem.W.callWith_K (h₀ := X.base) I.ok.mod.kin hkp ?_ he hpl
  refine thn ((pa_cons ha pa_nil he).run pos pins s σ H (fun vs H1 => Ext H H1 ∧ ∃ c q' d, vs = [.ref a] ∧ H1 c = some (LamX.CodeO c q') ∧ d = wd ∧ ∀ v H', Ext H H' → Rep X.K X.mg H' P d v → Q v H') I ⟨P, ε, E, q.bind.mono fun dx q x H1 e1 r1 => ?_⟩) fun us s1 ⟨vs, H1, I1, r, e1, c, q', d, ev, hc, ed, q9⟩ => ⟨I1.kIn, ?_⟩
  · obtain ⟨d, hh, q⟩ := q.ofO
    refine ⟨e1, ?_⟩
    cases dx with
    | fn f' c' q' ws ds =>
      obtain ⟨rfl, hc, _⟩ := r1
      by_cases z : f' = a
      · subst z
        rw [wdD_eq] at hh
        cases hh
        exact ⟨c', q', _, rfl, hc, rfl, q⟩
      · rw [wdD_no z] at hh
        cases hh
    | _ => cases hh
  · subst ev ed
    cases r with
    | cons rx rr =>
      cases rr
      cases rx
      have P1 := I1.pin (a, oe) (List.mem_append_left _ List.mem_cons_self)
      have hpin : L2H.PinOk X.stack H1 s1 (a, oe) := ⟨P1.1, P1.2.1, fun hm => (List.mem_cons.mp (I1.stkSub a hm)).elim P1.2.2.1 P1.2.2.2.1, P1.2.2.2.2⟩
      refine wpAny_call (codeAny_mono (hw (X.A.mark (some (.ref a))) X.stack s1 H1 a oe c q' Q ⟨hr.dp, hr.un⟩ hpin hz hf I1.env0 hc (e1.tabs E.tb) fun v H' x r => q9 v H' (e1.trans x) (pl _ _ _ _ _ _ r)) fun r s' hq => ?_)
      cases r with
      | error e => exact (show False from hq).elim
      | ok fl =>
        cases fl with
        | ret u => exact I1.after hq
        | _ => exact False.elim hq
end
/-! ### x(lambda: body), x catches what the body raises -/
section
variable {X : Cx} {pins : List (Addr × Obj)} {σ : L2.St} {H : Hp} {s : Shared}
/-- a(), in the def that got the lambda, within a try -/
theorem lam0_act {CXg : CXT} {Eg : XK} {Ng : List Str} {qg : Str} {sg : Scope} {g f c' : Addr} {cdg pm ctv : Value} {params : Arguments} {body : Expr} {scope : Scope} {k i : Nat} {a : Str} {pn : List (Addr × Obj)} {xe : Value → Shared → Prop} {W : WX} {tb : XK → TE} {p1 p2 : Pos}
    (I : Inv X pins σ H s) (L : LamX.LamS X.env.scope scope)
    (hf : s.heap.get? f = some (PySem.W.kla_obj "<lambda>" (X.env.qual ++ "<lambda>") params body scope (cloFrom X.env.cells scope.names []) pm c' ctv)) (hfn : H f = none) (hfr : f ∉ frs X.stack)
    (hbind : bindArgs (PySem.W.kla_fn "<lambda>" (X.env.qual ++ "<lambda>") params body scope (cloFrom X.env.cells scope.names []) pm (.ref c') ctv) ⟨[], []⟩ = pure [])
    (tk : Takes ((cxOf CXg X.prog X.w X.K X.mg X.base Ng qg sg g cdg X.A X.stack s H Eg).tr pn xe) W) (hr : Room (k + 1) (X.A.deeper (envOfC qg sg s.heap.objs.size g cdg)))
    (hbody : ∀ (A : Around) (outer : List Env) (s : Shared) (H : Hp) (E : XK), Room k (A.deeper (LamX.lamEnv X scope s.heap.objs.size f c')) → PE (LamX.lamCx X A outer s H E scope f c') body (tb E))
    (hN : Ng[i]? = some a) (hv : Vis sg a) (hd : (a == ("__debug__" : Str)) = false := by decide) (hcd : (a == ("__classdict__" : Str)) = false := by decide) :
    PE ((cxOf CXg X.prog X.w X.K X.mg X.base Ng qg sg g cdg X.A X.stack s H Eg).tr pn xe) (.Call (.Name a p1) [] [] p2)
      (fun σZ HZ Q => σZ[i]? = some (some (.ref f)) ∧ HZ c' = some (LamX.CodeO c' (X.env.qual ++ "<lambda>")) ∧ tb (WE W σZ) σ HZ Q) := by
  refine ⟨fun pinsZ sZ σZ HZ Q IZ ⟨hs, hc, ht⟩ => ?_⟩
  have vr := pe_var (X := (cxOf CXg X.prog X.w X.K X.mg X.base Ng qg sg g cdg X.A X.stack s H Eg).tr pn xe) (pos := p1) (i := i) hN hv hd hcd
  refine wpAny_Call_Name_kw (thn (vr.run pinsZ sZ σZ HZ (fun v H1 => v = .ref f ∧ H1 = HZ) IZ ⟨.ref f, hs, rfl, rfl⟩) fun u s1 ⟨v, H1, I1, r1, ev, eH⟩ => ?_)
  subst ev
  rw [eH] at I1
  cases (show u = Value.ref f from r1)
  have at1 : s1.heap.get? f = some (PySem.W.kla_obj "<lambda>" (X.env.qual ++ "<lambda>") params body scope (cloFrom X.env.cells scope.names []) pm c' ctv) :=
    I1.base.keep f _ hf hfn hfr fun z => nomatch (show f ∈ ([] : List Addr) from z)
  refine PySem.W.callWith_F0 ⟨_, _, _, _, at1⟩ ?_
  have un1 : Un (frs X.stack) [] H HZ s.heap s1.heap := I1.base
  obtain ⟨⟨oc, ws, t, hoc, hdc, hvc⟩, _, _⟩ := I1.hok c' _ hc
  have rc : codeAny (model X.prog X.w) (X.A.deeper (envOfC qg sg s.heap.objs.size g cdg)) (.call (.ref f) ⟨[], []⟩)
      (CR (L2.CX X.prog X.w) (envOfC qg sg s.heap.objs.size g cdg :: X.stack) X.prog X.w HZ s1 Q (WE W σZ)) s1 := by
    refine PySem.W.kla_callFunE hr.depth at1 rfl L.co L.gen rfl ⟨c', oc, ws, t, rfl, hoc, hdc, hvc⟩ ?_
    rw [hbind]
    refine wpAny_pure (wpAny_newFunctionEnv (fun y hy => (L.own y hy).2) (fun y hy => absurd hy (by simp)) (fun h₁ hns hsb => ⟨I1.nolimit.fresh _ hsb, (?_ : codeAny _ _ (.expr body (LamX.lamEnv X scope s1.heap.objs.size f c')) _ _)⟩) L.kind)
    have kp1 : ∀ b o, s1.heap.get? b = some o → h₁.get? b = some o := fun b o z => hsb.extBut b o (Nat.ne_of_lt (Heap.lt_size z)) (Heap.get?_push_of_some _ z)
    have J := LamX.lam_start2 (tk := s1.toks + ([] : List (Str × Value)).length) (E := WE W σZ) (f := f) (c' := c') I L I1.env0 hr.hd un1 hns kp1
    refine PySem.W.kla_codeExpr (wpAny_mono ((hbody _ _ s1 HZ (WE W σZ) (hr.deeper _)).run [] _ _ HZ Q J ht) (fun w s' ⟨w', H', J', rw', q⟩ => ⟨w', H', J'.os, J'.bare, J'.base, J'.hok, rw', q⟩) fun _ _ hq => hq)
  have hx := passAt tk σZ
  refine wpAny_call (codeAny_mono rc fun r s' hq => ?_)
  cases r with
  | error er => exact hx pinsZ HZ s1 er s' I1 hq
  | ok fl =>
    cases fl with
    | ret u => exact I1.after hq
    | _ => exact False.elim hq
end
def toldF (tw : List (Str × Dt)) (res : Dt → Dt) (kb : Fn) : Fn := fun ε => match kb (lamE ε) with
  | .ok d => .ok d
  | .ex c => .ofO ((tw.lookup c).map res)
  | .bad => .bad
/-- of each class that may be caught, its word -/
def TwOk (P : Program) (w : World) (K : PySem.W.Frag) (mg : Mg) (base : Heap) (lv : Nat) (hx : Str) (wx : Str) (tw : List (Str × Dt)) : Prop :=
  ∃ C fw, mg hx = some (.ref C) ∧ mg wx = some (.ref fw) ∧ PySem.W.keepIn K (.ref fw) = true ∧ ∀ c wd, tw.lookup c = some wd → Plain wd ∧ ∃ D, mg c = some (.ref D) ∧ PySem.W.exmOne K (.ref D) (.ref C) = some true ∧ WdOk P w K mg base lv fw D wd
section
variable {X : Cx} {W : WX}
theorem pd_told {x a1 en hx wx : Str} {g c P : Addr} {k lw : Nat} {pg params : Arguments} {b0 : Stmt} {suite : List Stmt} {sg scope : Scope} {fd : FuncData} {Ng : List Str} {body : Expr} {p lpos pos p1 p2 p3 p4 p5 p6 : Pos} {kb : Fn} {tw : List (Str × Dt)} {res : Dt → Dt} {gs : Addr → Dt → Sg}
    (Fg : FunD X.K x x pg [.Try [.Return (some (.Call (.Name a1 p1) [] [] p2)) p3] [.ExceptHandler (some (.Name hx p4)) (some en) (b0 :: suite) p5] [] [] p6] sg [] [] g fd) (hm : X.mg x = some (.ref g))
    (hbg : ∀ (kV doc pm : Value) (an : Option Addr) (cdv ct : Value) (us : List Value), us.length = [a1].length → bindArgs (PySem.W.fnOf x x pg [.Try [.Return (some (.Call (.Name a1 p1) [] [] p2)) p3] [.ExceptHandler (some (.Name hx p4)) (some en) (b0 :: suite) p5] [] [] p6] sg .none kV doc pm an cdv ct) ⟨us, []⟩ = pure ([a1].zip us))
    (Sg : FnScope Ng [a1] sg) (hNg : Ng = [a1, en]) (hva : Vis sg a1) (hle : sg.names.lookup en = some .local) (hlx : sg.names.lookup hx = some .globalImplicit) (hdx : (hx == ("__debug__" : Str)) = false)
    (TB : LamX.TabB X.base X.mg c P) (hcode : X.env.code = .ref c) {q0 : Str} (hq : X.env.qual = q0) (hmT : (P, q0 ++ "<lambda>") ∈ TbC.T) (hu : ∀ p ∈ TbC.T, p.1 = P → p.2 = q0 ++ "<lambda>") (hr : Room (k + 2) X.A) (hlw : lw ≤ k + 1) (tk : Takes X W)
    (L : LamX.LamS X.env.scope scope)
    (hbind : ∀ (q : Str) (cl : List (Str × Addr)) (pm cv ctv : Value), bindArgs (PySem.W.kla_fn "<lambda>" q params body scope cl pm cv ctv) ⟨[], []⟩ = pure [])
    (hbody : ∀ (A : Around) (outer : List Env) (s : Shared) (H : Hp) (E : XK) (f c' : Addr), Room k (A.deeper (LamX.lamEnv X scope s.heap.objs.size f c')) → Takes (LamX.lamCx X A outer s H E scope f c') (wE E) → PD (LamX.lamCx X A outer s H E scope f c') (wE E) body kb)
    (hT : TwOk X.prog X.w X.K X.mg X.base lw hx wx tw)
    (hS : ∀ (cdg : Value) (s : Shared) (H : Hp) (E : XK) (a D fw : Addr) (oe : Obj) (pn : List (Addr × Obj)) (wd : Dt), WdOk X.prog X.w X.K X.mg X.base lw fw D wd → Plain wd → X.mg wx = some (.ref fw) → PySem.W.keepIn X.K (.ref fw) = true → L2H.RoomH lw (X.A.deeper (envOfC x sg s.heap.objs.size g cdg)) → Zc (.ref D) none oe → (∃ vs, oe.data = .fields vs) →
      SDs ((cxOf (L2.CX X.prog X.w) X.prog X.w X.K X.mg X.base Ng x sg g cdg X.A X.stack s H E).suite a ((a, oe) :: pn)) W0 (b0 :: suite) (gs a wd))
    (hres : ∀ a c q wd, gs a wd [.u, .d (.fn a c q [] [])] = .ok (.rt (res wd)))
    (hdef : defaultsOf params X.env = ([], []) := by rfl) (hg : Gl X x := by rfl) (hdb : (x == ("__debug__" : Str)) = false := by decide) (hd : (a1 == ("__debug__" : Str)) = false := by decide) (hcd : (a1 == ("__classdict__" : Str)) = false := by decide) (hne : a1 ≠ en := by decide)
    (he : starEach [.Lambda params body scope lpos] X.env = [(false, eval (.Lambda params body scope lpos) X.env)] := by rfl) (hpl : (backTo pos (starEach [] X.env)).any (·.1) = false := by rfl) :
    PD X W (.Call (.Name x p) [.Lambda params body scope lpos] [] pos) (toldF tw res kb) := by
  subst hq hNg
  have hb := Fg.bindsN (ps := [a1]) hbg
  obtain ⟨oc, od, dV, kV, doc, pm, an, cdv, ct, osl, efd, lk, hcg, _, _⟩ := Fg.ex
  subst efd
  obtain ⟨C, fw, hCm, hWm, hWk, hT⟩ := hT
  refine ⟨fun pins s σ H Q I ⟨Pv, ε, E, q⟩ => ?_⟩
  refine wpAny_Call_Name_kw (ld_glob I hg hm ?_ hdb)
  refine PySem.W.callWith_K (h₀ := X.base) I.ok.mod.kin Fg.kp ?_ he hpl
  rw [he]
  refine Calls.spliced_cons (LamX.lam_make2 I TB hcode hmT hu E.tb hdef (L.has I.ok) fun f c' pm' ctv H2 s2 I2 eN T2 hf hfn hfr hco => ?_)
  refine Calls.spliced_nil ⟨I2.kIn, ?_⟩
  have e2 : Ext H H2 := ext_of eN T2
  have E2 := E.ext e2
  have rc : codeAny (model X.prog X.w) X.A (.call (.ref g) ⟨[.ref f], []⟩) (CR (L2.CX X.prog X.w) X.stack X.prog X.w H2 s2 Q (WE W σ)) s2 := by
    refine LamX.run_ofS (N := [a1, en]) (ps := [a1]) (us := [.ref f]) (vs := [.ref f]) lk hcg Sg hr I2.env0 (hb s2 [.ref f] I2.kIn rfl) (.cons rfl .nil) rfl fun hr' => ?_
    have hgl : Gl (cxOf (L2.CX X.prog X.w) X.prog X.w X.K X.mg X.base [a1, en] x sg g cdv X.A X.stack s2 H2 (WE W σ)) hx := hlx
    have tkZ : Takes (cxOf (L2.CX X.prog X.w) X.prog X.w X.K X.mg X.base [a1, en] x sg g cdv X.A X.stack s2 H2 (WE W σ)) (wE (WE W σ)) := takes_of rfl rfl rfl rfl
    have hnd : [a1, en].Nodup := by simp [hne]
    let ts : Addr → Value → Option Addr → TS := fun a cls d Dn σ3 H3 => ∃ D wd F, cls = .ref D ∧ d = none ∧ Plain wd ∧ WdOk X.prog X.w X.K X.mg X.base lw fw D wd ∧ tS ((cxOf (L2.CX X.prog X.w) X.prog X.w X.K X.mg X.base [a1, en] x sg g cdv X.A X.stack s2 H2 (WE W σ)).suite a []) F W0 (gs a wd) Dn σ3 H3
    refine ⟨_, pss_one (L2H.ps_try_asH (i := 1) (tb := fun W' D σZ HZ => σZ[0]? = some (some (.ref f)) ∧ HZ c' = some (LamX.CodeO c' (X.env.qual ++ "<lambda>")) ∧ tD X (wE (WE W' σZ)) kb σ HZ D.rt) (ts := ts) rfl rfl hnd rfl hle ⟨hgl, hdx, .inl hCm⟩ tkZ ?_ ?_), ?_⟩
    · intro W' pn xe _ tk' _
      refine pss_one (ps_weak (ps_ret (lam0_act (tb := fun E => tD X (wE E) kb) I2 L hf hfn hfr (hbind _ _ _ _ _) tk' hr' (fun A outer s H E hr2 => hbody A outer s H E f c' hr2 (takes_of rfl rfl rfl rfl)) (i := 0) rfl hva hd hcd)) fun D σZ HZ h => h)
    · intro a oe cls d pn hz hfd
      refine ⟨fun pins3 s3 σ3 H3 Dn I3 ⟨D, wd, F, hcl, hdn, pl, hW, h3⟩ => ?_⟩
      subst hcl hdn
      have r4 := hr'
      exact ((hS cdv s2 H2 (WE W σ) a D fw oe pn wd hW pl hWm hWk (L2H.roomH_of (hr'.mono hlw)) hz hfd) F).run pins3 s3 σ3 H3 Dn I3 h3
    · refine ⟨rfl, hco, Pv, _, E2.lam0 E2.tk E2.tb E2.caps, ?_⟩
      have q2 : Out X W σ H (toldF tw res kb ε) fun d => ∀ v H', Ext H H' → Rep X.K X.mg H' Pv d v → Q v H' := q
      unfold toldF at q2
      cases hk : kb (lamE ε) with
      | bad => rw [hk] at q2; exact q2
      | ok d => rw [hk] at q2; exact fun v H' x r => q2 v H' (e2.trans x) r
      | ex cn =>
        rw [hk] at q2
        obtain ⟨d, hd1, q3⟩ := q2.ofO
        obtain ⟨wd, hl, rfl⟩ := Option.map_eq_some_iff.mp hd1
        obtain ⟨pl, D, hD, hex, hW⟩ := hT cn wd hl
        refine ⟨D, hD, fun H' x => ⟨true, hex, fun _ a ha => ?_, fun z => nomatch z⟩⟩
        have E3 := E2.ext x
        have no1 : ∀ (i : Nat) (l : Lc), ([.u, .d (.fn a c' (X.env.qual ++ "<lambda>") [] [])] : Ev)[i]? = some l → ¬ l.isO := fun i l h o => by
          match i, h with
          | 0, h => cases h; exact o
          | 1, h => cases h; exact o
          | n + 2, h => cases h
        refine ⟨D, wd, ⟨H', Pv, no⟩, rfl, rfl, pl, hW, [.u, .d (.fn a c' (X.env.qual ++ "<lambda>") [] [])], ⟨⟨rfl, fun b hb => hb.elim (E3.tk b) fun ⟨i, l, h1, h2, _⟩ => absurd h2 (no1 i l h1), fun i l h => ?_, E3.tb⟩, Xt.refl, E3.tk, fun i l _ h1 h2 => absurd h2 (no1 i l h1), fun i xs _ h1 => absurd trivial (no1 i _ h1), fun i j l l' _ _ h1 h2 => absurd h2 (no1 i l h1)⟩, ?_⟩
        · match i, h with
          | 0, h => cases h; trivial
          | 1, h => cases h; exact ⟨.ref a, rfl, rfl, x.at_ hco LamX.codeO_ne, rfl⟩
          | n + 2, h => cases h
        · rw [hres]
          exact fun v H4 x4 r4 => q3 v H4 (e2.trans (x.trans x4)) r4
  have hx2 := passAt tk σ
  refine wpAny_call (codeAny_mono rc fun r s3 hq => ?_)
  cases r with
  | error er => exact hx2 pins H2 s2 er s3 I2 hq
  | ok fl =>
    cases fl with
    | ret u => exact I2.after hq
    | _ => exact False.elim hq
end
/-! ### told, as the laws write it -/
def toldS (a : Addr) (wd : Dt) : Sg := rtS (tupF (consF (kc (.str "refused")) (consF (un (wdD a wd) (gv 1)) nilF)))
def toldR (wd : Dt) : Dt := .tup [.str "refused", wd]
theorem wd_at {a c : Addr} {q : Str} {wd : Dt} {x : Lc} : un (wdD a wd) (gv 1) [x, .d (.fn a c q [] [])] = .ok wd := by
  show Rz.ofO (wdD a wd (.fn a c q [] [])) = _
  rw [wdD_eq]
  rfl
theorem told_res (a c : Addr) (q : Str) (wd : Dt) : toldS a wd [.u, .d (.fn a c q [] [])] = .ok (.rt (toldR wd)) := by
  have e := wd_at (a := a) (c := c) (q := q) (wd := wd) (x := .u)
  unfold toldS rtS tupF consF nilF
  simp only [e]
  rfl
def toldS1 (a : Addr) (wd : Dt) : Sg := rtS (un (wdD a wd) (gv 1))
def toldR1 (wd : Dt) : Dt := wd
theorem told_res1 (a c : Addr) (q : Str) (wd : Dt) : toldS1 a wd [.u, .d (.fn a c q [] [])] = .ok (.rt (toldR1 wd)) := by
  have e := wd_at (a := a) (c := c) (q := q) (wd := wd) (x := .u)
  unfold toldS1 rtS
  rw [e]
  rfl
theorem lk_cons {k c : Str} {v wd : Dt} {r : List (Str × Dt)} (h : ((k, v) :: r).lookup c = some wd) : (c = k ∧ wd = v) ∨ r.lookup c = some wd := by
  by_cases e : c = k
  · subst e
    rw [List.lookup_cons_self] at h
    exact .inl ⟨rfl, (Option.some.inj h).symm⟩
  · refine .inr ?_
    rw [List.lookup] at h
    have z : (c == k) = false := beq_eq_false_iff_ne.mpr e
    rw [z] at h
    exact h
theorem lk_nil {c : Str} {wd : Dt} (h : ([] : List (Str × Dt)).lookup c = some wd) : False := nomatch h
/-! ### what is asked of a class of refusals -/
def errX (hx : Str) (fl : List (Str × Bool)) (c : Str) : PySem.W.Frag → Bool := fun K =>
  decide (PySem.W.findIn K (.ref (He.ga K c)) "__getattribute__" = some (some (.builtin "BaseException.__getattribute__"))) && (decide (PySem.W.findIn K (.ref (He.ga K c)) "__getattr__" = some none) && (decide (PySem.W.subIn K (.ref (He.ga K c)) (.type "BaseException") = some true) &&
  (PySem.W.hasDictIn K (He.ga K c) && (decide (PySem.W.findIn K (.ref (He.ga K c)) "__class__" = some (some (.builtin "object.__class__"))) && (decide (PySem.W.specialIn K (.builtin "object.__class__") "__get__" = some (some (.builtin "getset_descriptor.__get__"))) &&
  (decide (PySem.W.takesIn K (.builtin "object.__class__") = some true) && (decide (PySem.W.mroIn K (He.ga K c) (.type "object") = some true) && (decide (PySem.W.exmOne K (.ref (He.ga K c)) (.ref (He.ga K hx)) = some true) &&
  (decide (PySem.W.kitOne K (.ref (He.ga K c)) (.type "ValueError") = some true) && fl.all fun p => decide (PySem.W.kitOne K (.ref (He.ga K c)) (.ref (He.ga K p.1)) = some p.2))))))))))
structure ErrC (K : PySem.W.Frag) (hx : Str) (fl : List (Str × Bool)) (c : Str) : Prop where
  cl : ExcC K (He.ga K c)
  h : PySem.W.exmOne K (.ref (He.ga K c)) (.ref (He.ga K hx)) = some true
  v : PySem.W.kitOne K (.ref (He.ga K c)) (.type "ValueError") = some true
  k : ∀ p ∈ fl, PySem.W.kitOne K (.ref (He.ga K c)) (.ref (He.ga K p.1)) = some p.2
theorem errX_ok {K : PySem.W.Frag} {hx c : Str} {fl : List (Str × Bool)} (h : errX hx fl c K = true) : ErrC K hx fl c := by
  unfold errX at h
  simp only [Bool.and_eq_true, decide_eq_true_eq, List.all_eq_true] at h
  obtain ⟨h1, h2, h3, h4, h5, h6, h7, h8, h9, h10, h11⟩ := h
  exact ⟨⟨h1, h2, h3, h4, h5, h6, h7, h8⟩, h9, h10, h11⟩
theorem ErrC.at_ {K : PySem.W.Frag} {hx c : Str} {fl : List (Str × Bool)} (E : ErrC K hx fl c) (i : Nat) {d : Str} {b : Bool} (h : fl[i]? = some (d, b) := by rfl) : PySem.W.kitOne K (.ref (He.ga K c)) (.ref (He.ga K d)) = some b := E.k (d, b) (List.mem_of_getElem? h)
end DL
end
section
set_option Elab.async false
set_option linter.all false
set_option maxRecDepth 100000
set_option autoImplicit false
namespace DL
noncomputable def g_minus : Sg := (rtS (tupF (consF (bin subD (bin ixD (gb 0) (kc (.int 0))) (bin ixD (gb 1) (kc (.int 0)))) (consF (bin subD (bin ixD (gb 0) (kc (.int 1))) (bin ixD (gb 1) (kc (.int 1)))) (consF (bin subD (bin ixD (gb 0) (kc (.int 2))) (bin ixD (gb 1) (kc (.int 2)))) nilF)))))
noncomputable def F_minus : Fd := bodyF 2 g_minus
noncomputable def g_dot : Sg := (rtS (bin addD (bin addD (bin mulD (bin ixD (gb 0) (kc (.int 0))) (bin ixD (gb 1) (kc (.int 0)))) (bin mulD (bin ixD (gb 0) (kc (.int 1))) (bin ixD (gb 1) (kc (.int 1))))) (bin mulD (bin ixD (gb 0) (kc (.int 2))) (bin ixD (gb 1) (kc (.int 2))))))
noncomputable def F_dot : Fd := bodyF 2 g_dot
noncomputable def g_cross : Sg := (rtS (tupF (consF (bin subD (bin mulD (bin ixD (gb 0) (kc (.int 1))) (bin ixD (gb 1) (kc (.int 2)))) (bin mulD (bin ixD (gb 0) (kc (.int 2))) (bin ixD (gb 1) (kc (.int 1))))) (consF (bin subD (bin mulD (bin ixD (gb 0) (kc (.int 2))) (bin ixD (gb 1) (kc (.int 0)))) (bin mulD (bin ixD (gb 0) (kc (.int 0))) (bin ixD (gb 1) (kc (.int 2))))) (consF (bin subD (bin mulD (bin ixD (gb 0) (kc (.int 0))) (bin ixD (gb 1) (kc (.int 1)))) (bin mulD (bin ixD (gb 0) (kc (.int 1))) (bin ixD (gb 1) (kc (.int 0))))) nilF)))))
noncomputable def F_cross : Fd := bodyF 2 g_cross
noncomputable def g_sign : Sg := (rtS (bin subD (un intD (bin gtD (gb 0) (kc (.int 0)))) (un intD (bin ltD (gb 0) (kc (.int 0))))))
noncomputable def F_sign : Fd := bodyF 1 g_sign
noncomputable def g_ratio : Sg := (seqS (stS 2 (un absD (gb 0))) (seqS (stS 3 (un absD (gb 1))) (seqS (whS (tst (bin neD (gb 3) (kc (.int 0)))) (prS 2 3 (consF (gv 3) (consF (bin modD (gb 2) (gb 3)) nilF)))) (seqS (ifS (tst (bin ltD (gb 1) (kc (.int 0)))) (stS 2 (bin subD (kc (.int 0)) (gb 2))) (fun ε => .ok (.nx ε))) (rtS (tupF (consF (bin divD (gb 0) (gb 2)) (consF (bin divD (gb 1) (gb 2)) nilF))))))))
noncomputable def F_ratio : Fd := bodyF 4 g_ratio
noncomputable def g_is_less : Sg := (rtS (bin ltD (bin mulD (bin ixD (gb 0) (kc (.int 0))) (bin ixD (gb 1) (kc (.int 1)))) (bin mulD (bin ixD (gb 1) (kc (.int 0))) (bin ixD (gb 0) (kc (.int 1))))))
noncomputable def F_is_less : Fd := bodyF 2 g_is_less
noncomputable def g_lesser : Sg := (seqS (ifS (orT (tst (bin isND (gb 0) (kc .non))) (andT (tst (bin notND (gb 1) (kc .non))) (tst (callF 2 F_is_less (consF (gv 1) (consF (gv 0) nilF)))))) (rtS (gv 1)) (fun ε => .ok (.nx ε))) (rtS (gv 0)))
noncomputable def F_lesser : Fd := bodyF 2 g_lesser
noncomputable def g_turn : Sg := (rtS (callF 1 F_sign (consF (callF 2 F_dot (consF (callF 2 F_cross (consF (callF 2 F_minus (consF (gv 1) (consF (gv 0) nilF))) (consF (callF 2 F_minus (consF (gv 2) (consF (gv 0) nilF))) nilF))) (consF (gv 3) nilF))) nilF)))
noncomputable def F_turn : Fd := bodyF 4 g_turn
noncomputable def g_along : Sg := (seqS (stS 2 (callF 2 F_dot (consF (callF 2 F_minus (consF (gv 1) (consF (bin ixD (gb 0) (kc (.int 0))) nilF))) (consF (bin ixD (gb 0) (kc (.int 1))) nilF)))) (seqS (ifS (tst (bin ltD (gb 2) (kc (.int 0)))) (rtS (kc .non)) (fun ε => .ok (.nx ε))) (rtS (callF 2 F_ratio (consF (gv 2) (consF (callF 2 F_dot (consF (bin ixD (gb 0) (kc (.int 1))) (consF (bin ixD (gb 0) (kc (.int 1))) nilF))) nilF))))))
noncomputable def F_along : Fd := bodyF 3 g_along
noncomputable def g_on_line : Sg := (seqS (stS 3 (callF 2 F_along (consF (gv 0) (consF (gv 1) nilF)))) (seqS (stS 4 (callF 2 F_along (consF (gv 0) (consF (gv 2) nilF)))) (seqS (ifS (andT (tst (bin isND (gb 3) (kc .non))) (tst (bin isND (gb 4) (kc .non)))) (rtS (kc .non)) (fun ε => .ok (.nx ε))) (seqS (ifS (orT (tst (bin isND (gb 3) (kc .non))) (tst (bin isND (gb 4) (kc .non)))) (rtS (tupF (consF (kc (.int 0)) (consF (kc (.int 1)) nilF)))) (fun ε => .ok (.nx ε))) (rtS (callF 2 F_lesser (consF (gv 3) (consF (gv 4) nilF))))))))
noncomputable def F_on_line : Fd := bodyF 5 g_on_line
noncomputable def g_meets_segment : Sg := (seqS (asS (gv 0) (setT 2 (setCons (setN 3) (setCons (setN 4) setNil)))) (seqS (stS 5 (callF 2 F_minus (consF (gv 2) (consF (gv 1) nilF)))) (seqS (stS 6 (callF 2 F_minus (consF (gv 1) (consF (gv 3) nilF)))) (seqS (stS 7 (callF 2 F_cross (consF (gv 4) (consF (gv 5) nilF)))) (seqS (ifS (tst (bin eqD (gb 7) (kc (.tup [.int 0, .int 0, .int 0])))) (seqS (ifS (tst (bin neD (callF 2 F_cross (consF (gv 6) (consF (gv 4) nilF))) (kc (.tup [.int 0, .int 0, .int 0])))) (rtS (kc .non)) (fun ε => .ok (.nx ε))) (rtS (callF 3 F_on_line (consF (gv 0) (consF (gv 1) (consF (gv 2) nilF)))))) (fun ε => .ok (.nx ε))) (seqS (ifS (tst (bin neD (callF 2 F_dot (consF (gv 6) (consF (gv 7) nilF))) (kc (.int 0)))) (rtS (kc .non)) (fun ε => .ok (.nx ε))) (seqS (stS 8 (callF 2 F_dot (consF (gv 7) (consF (gv 7) nilF)))) (seqS (stS 9 (callF 2 F_dot (consF (callF 2 F_cross (consF (gv 6) (consF (gv 5) nilF))) (consF (gv 7) nilF)))) (seqS (stS 10 (callF 2 F_dot (consF (callF 2 F_cross (consF (gv 6) (consF (gv 4) nilF))) (consF (gv 7) nilF)))) (seqS (ifS (orT (tst (bin ltD (gb 9) (kc (.int 0)))) (orT (tst (bin ltD (gb 10) (kc (.int 0)))) (tst (bin gtD (gb 10) (gb 8))))) (rtS (kc .non)) (fun ε => .ok (.nx ε))) (rtS (callF 2 F_ratio (consF (gv 9) (consF (gv 8) nilF))))))))))))))
noncomputable def F_meets_segment : Fd := bodyF 11 g_meets_segment
noncomputable def g_is_within : Sg := (seqS (asS (gv 2) (setT 2 (setCons (setN 3) (setCons (setN 4) setNil)))) (seqS (asS (lstF (lcF (iterF (gb 0)) [8] (setN 8) yes (tupF (consF (bin mulD (bin ixD (gb 8) (kc (.int 0))) (gb 4)) (consF (bin mulD (bin ixD (gb 8) (kc (.int 1))) (gb 4)) (consF (bin mulD (bin ixD (gb 8) (kc (.int 2))) (gb 4)) nilF)))))) (setT 3 (setCons (setN 5) (setCons (setN 6) (setCons (setN 7) setNil))))) (seqS (stS 9 (lstF (lsF (consF (callF 4 F_turn (consF (gv 5) (consF (gv 6) (consF (gv 3) (consF (gv 1) nilF))))) (consF (callF 4 F_turn (consF (gv 6) (consF (gv 7) (consF (gv 3) (consF (gv 1) nilF))))) (consF (callF 4 F_turn (consF (gv 7) (consF (gv 5) (consF (gv 3) (consF (gv 1) nilF))))) nilF)))))) (rtS (notV (andV (bin inD (kc (.int 1)) (gb 9)) (bin inD (un negD (kc (.int 1))) (gb 9))))))))
noncomputable def F_is_within : Fd := bodyF 10 g_is_within
noncomputable def g_meets_flat : Sg := (seqS (asS (gv 1) (setT 3 (setCons (setN 2) (setCons (setN 3) (setCons (setN 4) setNil))))) (seqS (stS 5 (callF 2 F_lesser (consF (callF 3 F_meets_segment (consF (gv 0) (consF (gv 2) (consF (gv 3) nilF)))) (consF (callF 3 F_meets_segment (consF (gv 0) (consF (gv 3) (consF (gv 4) nilF)))) nilF)))) (rtS (callF 2 F_lesser (consF (gv 5) (consF (callF 3 F_meets_segment (consF (gv 0) (consF (gv 4) (consF (gv 2) nilF)))) nilF))))))
noncomputable def F_meets_flat : Fd := bodyF 6 g_meets_flat
noncomputable def g_meets_triangle : Sg := (seqS (asS (gv 0) (setT 2 (setCons (setN 2) (setCons (setN 3) setNil)))) (seqS (asS (gv 1) (setT 3 (setCons (setN 4) (setCons (setN 5) (setCons (setN 6) setNil))))) (seqS (stS 7 (callF 2 F_cross (consF (callF 2 F_minus (consF (gv 5) (consF (gv 4) nilF))) (consF (callF 2 F_minus (consF (gv 6) (consF (gv 4) nilF))) nilF)))) (seqS (ifS (tst (bin eqD (gb 7) (kc (.tup [.int 0, .int 0, .int 0])))) (rtS (callF 2 F_meets_flat (consF (gv 0) (consF (gv 1) nilF)))) (fun ε => .ok (.nx ε))) (seqS (stS 8 (callF 2 F_dot (consF (gv 7) (consF (gv 3) nilF)))) (seqS (stS 9 (callF 2 F_dot (consF (gv 7) (consF (callF 2 F_minus (consF (gv 4) (consF (gv 2) nilF))) nilF)))) (seqS (ifS (tst (bin eqD (gb 8) (kc (.int 0)))) (seqS (ifS (tst (bin neD (gb 9) (kc (.int 0)))) (rtS (kc .non)) (fun ε => .ok (.nx ε))) (seqS (ifS (tst (callF 3 F_is_within (consF (gv 1) (consF (gv 7) (consF (tupF (consF (gv 2) (consF (kc (.int 1)) nilF))) nilF))))) (rtS (tupF (consF (kc (.int 0)) (consF (kc (.int 1)) nilF)))) (fun ε => .ok (.nx ε))) (rtS (callF 2 F_meets_flat (consF (gv 0) (consF (gv 1) nilF)))))) (fun ε => .ok (.nx ε))) (seqS (stS 10 (callF 2 F_ratio (consF (gv 9) (consF (gv 8) nilF)))) (seqS (ifS (tst (callF 2 F_is_less (consF (gv 10) (consF (tupF (consF (kc (.int 0)) (consF (kc (.int 1)) nilF))) nilF)))) (rtS (kc .non)) (fun ε => .ok (.nx ε))) (seqS (stS 11 (un tupD (lstF (lcF (rngF (kc (.int 3))) [12] (setN 12) yes (bin addD (bin mulD (bin ixD (gb 2) (gb 12)) (bin ixD (gb 10) (kc (.int 1)))) (bin mulD (bin ixD (gb 3) (gb 12)) (bin ixD (gb 10) (kc (.int 0))))))))) (seqS (ifS (tst (callF 3 F_is_within (consF (gv 1) (consF (gv 7) (consF (tupF (consF (gv 11) (consF (bin ixD (gb 10) (kc (.int 1))) nilF))) nilF))))) (rtS (gv 10)) (fun ε => .ok (.nx ε))) (rtS (kc .non)))))))))))))
noncomputable def F_meets_triangle : Fd := bodyF 13 g_meets_triangle
noncomputable def g_edges : Sg := (seqS (asS (gv 0) (setT 3 (setCons (setN 1) (setCons (setN 2) (setCons (setN 3) setNil))))) (rtS (lstF (lsF (consF (tupF (consF (gv 1) (consF (gv 2) nilF))) (consF (tupF (consF (gv 2) (consF (gv 3) nilF))) (consF (tupF (consF (gv 3) (consF (gv 1) nilF))) nilF)))))))
noncomputable def F_edges : Fd := bodyF 4 g_edges
noncomputable def g_is_closed : Sg := (seqS (dnewS 1) (seqS (forS (iterF (gv 0)) (setN 2) (forS (iterF (callF 1 F_edges (consF (gv 2) nilF))) (setT 2 (setCons (setN 3) (setCons (setN 4) setNil))) (dputS 1 (tupF (consF (gv 3) (consF (gv 4) nilF))) (bin addD (dgetF 1 (tupF (consF (gv 3) (consF (gv 4) nilF))) (kc (.int 0))) (kc (.int 1)))))) (rtS (un allD (lstF (lockN 1 (lcF (itM 1) [3, 4] (setT 2 (setCons (setN 3) (setCons (setN 4) setNil))) yes (bin eqD (dgetF 1 (tupF (consF (gv 4) (consF (gv 3) nilF))) (kc (.int 0))) (dixF 1 (tupF (consF (gv 3) (consF (gv 4) nilF))))))))))))
noncomputable def F_is_closed : Fd := bodyF 5 g_is_closed
noncomputable def g_is_on : Sg := (rtS (un anyD (lstF (lcF (iterF (gb 1)) [2] (setN 2) yes (bin eqD (callF 2 F_meets_triangle (consF (tupF (consF (gv 0) (consF (tupF (consF (kc (.int 1)) (consF (kc (.int 0)) (consF (kc (.int 0)) nilF)))) nilF))) (consF (gv 2) nilF))) (tupF (consF (kc (.int 0)) (consF (kc (.int 1)) nilF))))))))
noncomputable def F_is_on : Fd := bodyF 3 g_is_on
noncomputable def g_far_way : Sg := (seqS (stS 2 (kc (.int 1))) (seqS (forS (iterF (gv 1)) (setN 3) (forS (iterF (gv 3)) (setN 4) (stS 2 (un maxD (bin addD (lstF (lsF (consF (gv 2) nilF))) (lstF (lcF (iterF (callF 2 F_minus (consF (gv 4) (consF (gv 0) nilF)))) [5] (setN 5) yes (un absD (gb 5))))))))) (seqS (stS 6 (bin addD (bin mulD (bin mulD (bin mulD (bin mulD (kc (.int 100)) (gb 2)) (gb 2)) (gb 2)) (gb 2)) (kc (.int 100)))) (rtS (tupF (consF (kc (.int 1)) (consF (gv 6) (consF (bin mulD (gb 6) (gb 6)) nilF))))))))
noncomputable def F_far_way : Fd := bodyF 7 g_far_way
noncomputable def g_wound : Sg := (seqS (stS 2 (callF 2 F_far_way (consF (gv 0) (consF (gv 1) nilF)))) (seqS (stS 3 (kc (.int 0))) (seqS (forS (iterF (gv 1)) (setN 4) (ifS (tst (bin notND (callF 2 F_meets_triangle (consF (tupF (consF (gv 0) (consF (gv 2) nilF))) (consF (gv 4) nilF))) (kc .non))) (seqS (asS (gv 4) (setT 3 (setCons (setN 5) (setCons (setN 6) (setCons (setN 7) setNil))))) (stS 3 (bin addD (gb 3) (callF 1 F_sign (consF (callF 2 F_dot (consF (callF 2 F_cross (consF (callF 2 F_minus (consF (gv 6) (consF (gv 5) nilF))) (consF (callF 2 F_minus (consF (gv 7) (consF (gv 5) nilF))) nilF))) (consF (gv 2) nilF))) nilF))))) (fun ε => .ok (.nx ε)))) (rtS (gv 3)))))
noncomputable def F_wound : Fd := bodyF 8 g_wound
noncomputable def g_place_of : Sg := (seqS (ifS (notT (tst (callF 1 F_is_closed (consF (gv 1) nilF)))) (raS "NotClosed") (fun ε => .ok (.nx ε))) (seqS (ifS (tst (callF 2 F_is_on (consF (gv 0) (consF (gv 1) nilF)))) (rtS (kc (.int 0))) (fun ε => .ok (.nx ε))) (rtS (ifV (tst (bin neD (callF 2 F_wound (consF (gv 0) (consF (gv 1) nilF))) (kc (.int 0)))) (kc (.int 1)) (un negD (kc (.int 1)))))))
noncomputable def F_place_of : Fd := bodyF 2 g_place_of
noncomputable def g_l_cell : Sg := (seqS (ifS (tst (bin eqD (gb 0) (lstF (lsF nilF)))) (rtS (bin mulD (gb 1) (kc (.int 7919)))) (fun ε => .ok (.nx ε))) (rtS (bin addD (bin ixD (gb 0) (bin modD (gb 1) (un lenD (gb 0)))) (bin mulD (bin divD (gb 1) (un lenD (gb 0))) (kc (.int 104729))))))
noncomputable def F_l_cell : Fd := bodyF 2 g_l_cell
noncomputable def g_l_drawn : Sg := (seqS (stS 2 (bin modD (bin addD (bin mulD (gb 0) (kc (.int 6364136223846793005))) (bin mulD (bin addD (gb 1) (kc (.int 1))) (kc (.int 1442695040888963407)))) (kc (.int 340282366920938463463374607431768211507)))) (rtS (bin modD (bin mulD (gb 2) (gb 2)) (kc (.int 340282366920938463463374607431768211297)))))
noncomputable def F_l_drawn : Fd := bodyF 3 g_l_drawn
noncomputable def g_l_whole : Sg := (rtS (andV (un (isiD "int") (gb 0)) (notV (un (isiD "bool") (gb 0)))))
noncomputable def F_l_whole : Fd := bodyF 1 g_l_whole
noncomputable def g_l_spot : Sg := (rtS (tupF (consF (bin subD (bin modD (gb 0) (kc (.int 9))) (kc (.int 4))) (consF (bin subD (bin modD (bin divD (gb 0) (kc (.int 9))) (kc (.int 9))) (kc (.int 4))) (consF (bin subD (bin modD (bin divD (gb 0) (kc (.int 81))) (kc (.int 9))) (kc (.int 4))) nilF)))))
noncomputable def F_l_spot : Fd := bodyF 1 g_l_spot
noncomputable def g_l_put : Sg := (seqS (ifS (tst (bin eqD (bin modD (gb 1) (kc (.int 3))) (kc (.int 0)))) (rtS (gv 0)) (fun ε => .ok (.nx ε))) (seqS (stS 2 (bin addD (kc (.int 1)) (bin modD (gb 1) (bin shlD (kc (.int 1)) (kc (.int 50)))))) (rtS (tupF (consF (bin addD (bin mulD (bin ixD (gb 0) (kc (.int 0))) (gb 2)) (bin modD (gb 1) (kc (.int 1000003)))) (consF (bin subD (bin mulD (bin ixD (gb 0) (kc (.int 1))) (gb 2)) (bin modD (gb 1) (kc (.int 997)))) (consF (bin addD (bin mulD (bin ixD (gb 0) (kc (.int 2))) (gb 2)) (kc (.int 5))) nilF)))))))
noncomputable def F_l_put : Fd := bodyF 3 g_l_put
noncomputable def g_l_face : Sg := (seqS (stS 3 (bin modD (bin addD (gb 1) (kc (.int 1))) (kc (.int 3)))) (seqS (stS 4 (bin modD (bin addD (gb 1) (kc (.int 2))) (kc (.int 3)))) (seqS (stO 5 (lsF nilF)) (seqS (forS (iterF (lstF (lsF (consF (tupF (consF (kc (.int 0)) (consF (kc (.int 0)) nilF))) (consF (tupF (consF (kc (.int 1)) (consF (kc (.int 0)) nilF))) (consF (tupF (consF (kc (.int 1)) (consF (kc (.int 1)) nilF))) (consF (tupF (consF (kc (.int 0)) (consF (kc (.int 1)) nilF))) nilF))))))) (setT 2 (setCons (setN 6) (setCons (setN 7) setNil))) (seqS (stO 8 (lsF (consF (kc (.int 0)) (consF (kc (.int 0)) (consF (kc (.int 0)) nilF))))) (seqS (itmS 8 (gb 1) (bin ixD (bin ixD (gb 0) (gb 2)) (gb 1))) (seqS (itmS 8 (gb 3) (bin ixD (bin ixD (gb 0) (gb 6)) (gb 3))) (seqS (itmS 8 (gb 4) (bin ixD (bin ixD (gb 0) (gb 7)) (gb 4))) (appS 5 (un tupD (gb 8)))))))) (rtS (lstF (lsF (consF (tupF (consF (bin ixD (gb 5) (kc (.int 0))) (consF (bin ixD (gb 5) (kc (.int 1))) (consF (bin ixD (gb 5) (kc (.int 2))) nilF)))) (consF (tupF (consF (bin ixD (gb 5) (kc (.int 0))) (consF (bin ixD (gb 5) (kc (.int 2))) (consF (bin ixD (gb 5) (kc (.int 3))) nilF)))) nilF)))))))))
noncomputable def F_l_face : Fd := bodyF 9 g_l_face
noncomputable def g_l_skin : Sg := (seqS (stO 2 (lsF nilF)) (seqS (forS (rngF (kc (.int 6))) (setN 3) (forS (iterF (callF 3 F_l_face (consF (gv 0) (consF (bin divD (gb 3) (kc (.int 2))) (consF (bin modD (gb 3) (kc (.int 2))) nilF))))) (setT 3 (setCons (setN 4) (setCons (setN 5) (setCons (setN 6) setNil)))) (ifS (tst (bin neD (bin eqD (bin modD (gb 3) (kc (.int 2))) (kc (.int 0))) (gb 1))) (appS 2 (tupF (consF (gv 4) (consF (gv 6) (consF (gv 5) nilF))))) (appS 2 (tupF (consF (gv 4) (consF (gv 5) (consF (gv 6) nilF)))))))) (roV 2)))
noncomputable def F_l_skin : Fd := bodyF 7 g_l_skin
noncomputable def g_l_closed : Sg := (seqS (stS 1 (lstF (lsF nilF))) (seqS (forS (iterF (gv 0)) (setT 3 (setCons (setN 2) (setCons (setN 3) (setCons (setN 4) setNil)))) (stS 1 (bin addD (gb 1) (lstF (lsF (consF (tupF (consF (gv 2) (consF (gv 3) nilF))) (consF (tupF (consF (gv 3) (consF (gv 4) nilF))) (consF (tupF (consF (gv 4) (consF (gv 2) nilF))) nilF)))))))) (rtS (un allD (lstF (lcF (iterF (gb 1)) [5] (setN 5) yes (bin eqD (lmF cntD (gb 1) (gv 5)) (lmF cntD (gb 1) (tupF (consF (bin ixD (gb 5) (kc (.int 1))) (consF (bin ixD (gb 5) (kc (.int 0))) nilF)))))))))))
noncomputable def F_l_closed : Fd := bodyF 6 g_l_closed
noncomputable def g_l_edited : Sg := (seqS (stO 2 (unN listD (gb 0))) (seqS (stS 3 (bin modD (bin divD (gb 1) (kc (.int 5))) (un lenD (gb 2)))) (seqS (asS (bin ixD (gb 2) (gb 3)) (setT 3 (setCons (setN 4) (setCons (setN 5) (setCons (setN 6) setNil))))) (seqS (ifS (tst (bin eqD (bin modD (gb 1) (kc (.int 5))) (kc (.int 0)))) (popS 2 (gv 3)) (fun ε => .ok (.nx ε))) (seqS (ifS (tst (bin eqD (bin modD (gb 1) (kc (.int 5))) (kc (.int 1)))) (itmS 2 (gb 3) (tupF (consF (gv 4) (consF (gv 6) (consF (gv 5) nilF))))) (fun ε => .ok (.nx ε))) (seqS (ifS (tst (bin eqD (bin modD (gb 1) (kc (.int 5))) (kc (.int 2)))) (itmS 2 (gb 3) (tupF (consF (gv 5) (consF (gv 6) (consF (gv 4) nilF))))) (fun ε => .ok (.nx ε))) (seqS (ifS (tst (bin eqD (bin modD (gb 1) (kc (.int 5))) (kc (.int 3)))) (insS 2 (bin modD (bin divD (gb 1) (kc (.int 500))) (un lenD (gb 2))) (tupF (consF (gv 4) (consF (gv 5) (consF (gv 6) nilF))))) (fun ε => .ok (.nx ε))) (seqS (ifS (tst (bin eqD (bin modD (gb 1) (kc (.int 5))) (kc (.int 4)))) (stO 2 (binN catD (gb 2) (lstF (lsF (consF (tupF (consF (gv 4) (consF (gv 6) (consF (gv 5) nilF)))) (consF (tupF (consF (gv 4) (consF (gv 5) (consF (gv 6) nilF)))) nilF)))))) (fun ε => .ok (.nx ε))) (seqS (revS 2) (roV 2))))))))))
noncomputable def F_l_edited : Fd := bodyF 7 g_l_edited
noncomputable def g_l_word (a : PySem.Addr) (b0 b1 b2 b3 : Bool) : Sg := (seqS (stS 1 (lstF (lsF (consF (un (isED a b0) (gb 0)) (consF (un (isED a b1) (gb 0)) (consF (un (isED a b2) (gb 0)) (consF (un (isED a b3) (gb 0)) nilF))))))) (seqS (ifS (orT (tst (bin neD (lmF cntD (gb 1) (kc (.bl true))) (kc (.int 1)))) (orT (notT (tst (un (isED a true) (gb 0)))) (notT (tst (un (isED a true) (gb 0)))))) (rtS (kc (.str "other"))) (fun ε => .ok (.nx ε))) (rtS (bin ixD (lstF (lsF (consF (kc (.str "NoRay")) (consF (kc (.str "NoShape")) (consF (kc (.str "NotClosed")) (consF (kc (.str "BadRow")) nilF)))))) (lmF idxD (gb 1) (kc (.bl true)))))))
noncomputable def g_l_boxes : Sg := (seqS (stS 1 (callF 2 F_l_cell (consF (gv 0) (consF (kc (.int 0)) nilF)))) (seqS (stS 2 (callF 2 F_l_drawn (consF (callF 2 F_l_cell (consF (gv 0) (consF (kc (.int 1)) nilF))) (consF (kc (.int 5)) nilF)))) (seqS (stO 3 (lsF nilF)) (seqS (forS (rngF (bin ixD (lstF (lsF (consF (kc (.int 1)) (consF (kc (.int 1)) (consF (kc (.int 2)) (consF (kc (.int 2)) (consF (kc (.int 3)) nilF))))))) (bin modD (gb 2) (kc (.int 5))))) (setN 4) (seqS (stS 5 (callF 2 F_l_drawn (consF (callF 2 F_l_cell (consF (gv 0) (consF (bin addD (gb 4) (kc (.int 2))) nilF))) (consF (gv 4) nilF)))) (seqS (stS 6 (callF 1 F_l_spot (consF (gv 5) nilF))) (seqS (stS 7 (tupF (consF (bin addD (bin ixD (gb 6) (kc (.int 0))) (bin modD (bin divD (gb 5) (kc (.int 729))) (kc (.int 9)))) (consF (bin addD (bin ixD (gb 6) (kc (.int 1))) (bin modD (bin divD (gb 5) (kc (.int 6561))) (kc (.int 9)))) (consF (bin addD (bin ixD (gb 6) (kc (.int 2))) (bin modD (bin divD (gb 5) (kc (.int 59049))) (kc (.int 9)))) nilF))))) (seqS (stS 8 (tupF (consF (callF 2 F_l_put (consF (gv 6) (consF (gv 1) nilF))) (consF (callF 2 F_l_put (consF (gv 7) (consF (gv 1) nilF))) nilF)))) (seqS (ifS (andT (tst (bin eqD (gb 4) (kc (.int 1)))) (tst (bin eqD (bin modD (bin divD (gb 2) (kc (.int 5))) (kc (.int 4))) (kc (.int 0))))) (stS 8 (bin ixD (bin ixD (gb 3) (kc (.int 0))) (kc (.int 0)))) (fun ε => .ok (.nx ε))) (appS 3 (tupF (consF (gv 8) (consF (bin eqD (bin modD (bin divD (gb 5) (kc (.int 531441))) (kc (.int 2))) (kc (.int 0))) nilF)))))))))) (roV 3)))))
noncomputable def F_l_boxes : Fd := bodyF 9 g_l_boxes
noncomputable def g_l_point_2 : Sg := (seqS (stO 2 (lsF nilF)) (seqS (forS (rngF (kc (.int 3))) (setN 3) (seqS (stS 4 (bin divD (bin addD (bin ixD (bin ixD (gb 0) (kc (.int 0))) (gb 3)) (bin ixD (bin ixD (gb 0) (kc (.int 1))) (gb 3))) (kc (.int 2)))) (appS 2 (bin ixD (lstF (lsF (consF (bin ixD (bin ixD (gb 0) (kc (.int 0))) (gb 3)) (consF (bin ixD (bin ixD (gb 0) (kc (.int 1))) (gb 3)) (consF (gv 4) (consF (gv 4) (consF (gv 4) (consF (bin subD (bin ixD (bin ixD (gb 0) (kc (.int 0))) (gb 3)) (kc (.int 1))) nilF)))))))) (bin modD (bin divD (gb 1) (bin ixD (lstF (lsF (consF (kc (.int 1)) (consF (kc (.int 7)) (consF (kc (.int 49)) nilF))))) (gb 3))) (kc (.int 6))))))) (rtS (un tupD (gb 2)))))
noncomputable def F_l_point_2 : Fd := bodyF 5 g_l_point_2
noncomputable def g_l_due_2 : Sg := (seqS (stS 2 (kc (.int 0))) (seqS (forS (iterF (gv 1)) (setT 2 (setCons (setN 3) (setCons (setN 4) setNil))) (ifS (tst (un allD (lstF (lcF (rngF (kc (.int 3))) [5] (setN 5) yes (andV (bin ltD (bin ixD (bin ixD (gb 3) (kc (.int 0))) (gb 5)) (bin ixD (gb 0) (gb 5))) (bin ltD (bin ixD (gb 0) (gb 5)) (bin ixD (bin ixD (gb 3) (kc (.int 1))) (gb 5)))))))) (stS 2 (bin subD (bin addD (gb 2) (kc (.int 1))) (bin mulD (kc (.int 2)) (un intD (gb 4))))) (ifS (tst (un allD (lstF (lcF (rngF (kc (.int 3))) [5] (setN 5) yes (andV (bin leD (bin ixD (bin ixD (gb 3) (kc (.int 0))) (gb 5)) (bin ixD (gb 0) (gb 5))) (bin leD (bin ixD (gb 0) (gb 5)) (bin ixD (bin ixD (gb 3) (kc (.int 1))) (gb 5)))))))) (rtS (kc (.int 0))) (fun ε => .ok (.nx ε))))) (seqS (ifS (tst (bin eqD (gb 2) (kc (.int 0)))) (rtS (bin subD (kc (.int 0)) (kc (.int 1)))) (fun ε => .ok (.nx ε))) (rtS (kc (.int 1))))))
noncomputable def F_l_due_2 : Fd := bodyF 6 g_l_due_2
noncomputable def g_law_k22 : Sg := (seqS (stS 1 (callF 1 F_l_boxes (consF (gv 0) nilF))) (seqS (stS 2 (lstF (lsF nilF))) (seqS (forS (iterF (gv 1)) (setT 2 (setCons (setN 3) (setCons (setN 4) setNil))) (stS 2 (bin addD (gb 2) (callF 2 F_l_skin (consF (gv 3) (consF (gv 4) nilF)))))) (seqS (stS 5 (lstF (unN listD (gb 2)))) (seqS (forS (rngF (kc (.int 2))) (setN 6) (seqS (stS 7 (callF 2 F_l_drawn (consF (callF 2 F_l_cell (consF (gv 0) (consF (bin addD (gb 6) (kc (.int 6))) nilF))) (consF (gv 6) nilF)))) (seqS (stS 8 (callF 2 F_l_point_2 (consF (bin ixD (bin ixD (gb 1) (bin modD (gb 7) (un lenD (gb 1)))) (kc (.int 0))) (consF (bin divD (gb 7) (kc (.int 6))) nilF)))) (seqS (stS 9 (callF 2 F_place_of (consF (gv 8) (consF (gv 2) nilF)))) (ifS (orT (tst (bin neD (gb 9) (callF 2 F_l_due_2 (consF (gv 8) (consF (gv 1) nilF))))) (orT (notT (tst (callF 1 F_l_whole (consF (gv 9) nilF)))) (tst (bin neD (gb 2) (gb 5))))) (rtS (kc (.bl false))) (fun ε => .ok (.nx ε))))))) (seqS (stS 7 (callF 2 F_l_drawn (consF (callF 2 F_l_cell (consF (gv 0) (consF (kc (.int 8)) nilF))) (consF (kc (.int 8)) nilF)))) (seqS (stS 10 (callF 2 F_l_edited (consF (callF 2 F_l_skin (consF (bin ixD (bin ixD (gb 1) (kc (.int 0))) (kc (.int 0))) (consF (kc (.bl false)) nilF))) (consF (bin addD (bin mulD (bin divD (gb 7) (kc (.int 2))) (kc (.int 5))) (bin modD (gb 7) (kc (.int 2)))) nilF)))) (seqS (ifS (tst (callF 1 F_l_closed (consF (gv 10) nilF))) (rtS (kc (.bl true))) (fun ε => .ok (.nx ε))) (seqS (stS 8 (callF 2 F_l_point_2 (consF (bin ixD (bin ixD (gb 1) (kc (.int 0))) (kc (.int 0))) (consF (bin divD (gb 7) (kc (.int 6))) nilF)))) (rtS (bin eqD (toldF [("NoRay", .str "NoRay"), ("NoShape", .str "NoShape"), ("NotClosed", .str "NotClosed")] toldR (callF 2 F_place_of (consF (gv 8) (consF (gv 10) nilF)))) (tupF (consF (kc (.str "refused")) (consF (kc (.str "NotClosed")) nilF))))))))))))))
noncomputable def F_law_k22 : Fd := bodyF 11 g_law_k22
end DL
end
section
set_option Elab.async false
set_option linter.all false
set_option maxRecDepth 100000
set_option autoImplicit false
namespace Lw
open PySem PySem.Spec PyProof.Rows L2 DL
def top (i : Nat) : Stmt := PySem.Challenge.pw_firsthit_k22_whole_place_in_boxes.main.body.getD i (.Pass ⟨0, 0, 0, 0⟩)
abbrev s_minus : Stmt := (top 7)
abbrev s_dot : Stmt := (top 8)
abbrev s_cross : Stmt := (top 9)
abbrev s_sign : Stmt := (top 10)
abbrev s_ratio : Stmt := (top 11)
abbrev s_is_less : Stmt := (top 12)
abbrev s_lesser : Stmt := (top 13)
abbrev s_turn : Stmt := (top 14)
abbrev s_along : Stmt := (top 17)
abbrev s_on_line : Stmt := (top 18)
abbrev s_meets_segment : Stmt := (top 19)
abbrev s_is_within : Stmt := (top 20)
abbrev s_meets_flat : Stmt := (top 21)
abbrev s_meets_triangle : Stmt := (top 22)
abbrev s_edges : Stmt := (top 24)
abbrev s_is_closed : Stmt := (top 25)
abbrev s_is_on : Stmt := (top 26)
abbrev s_far_way : Stmt := (top 27)
abbrev s_wound : Stmt := (top 28)
abbrev s_place_of : Stmt := (top 29)
abbrev s_l_cell : Stmt := (top 31)
abbrev s_l_drawn : Stmt := (top 32)
abbrev s_l_whole : Stmt := (top 33)
abbrev s_l_spot : Stmt := (top 34)
abbrev s_l_put : Stmt := (top 35)
abbrev s_l_face : Stmt := (top 36)
abbrev s_l_skin : Stmt := (top 37)
abbrev s_l_closed : Stmt := (top 38)
abbrev s_l_edited : Stmt := (top 39)
abbrev s_l_word : Stmt := (top 40)
abbrev s_l_told : Stmt := (top 41)
abbrev s_l_boxes : Stmt := (top 42)
abbrev s_l_point : Stmt := (top 43)
abbrev s_l_due : Stmt := (top 44)
abbrev s_law : Stmt := (top 45)
structure Tx [TbC] (w : World) (base : Heap) (K : PySem.W.Frag) (mg : Mg) : Prop where
  hw : w = TbC.w
  f_ValueError : mg "ValueError" = none
  f_abs : mg "abs" = none
  f_all : mg "all" = none
  f_any : mg "any" = none
  f_bool : mg "bool" = none
  f_int : mg "int" = none
  f_isinstance : mg "isinstance" = none
  f_len : mg "len" = none
  f_list : mg "list" = none
  f_max : mg "max" = none
  f_range : mg "range" = none
  f_tuple : mg "tuple" = none
  x_NotClosed : ExcF K mg "NotClosed"
  g_NoRay : mg "NoRay" = some (.ref (He.ga K "NoRay"))
  g_NoShape : mg "NoShape" = some (.ref (He.ga K "NoShape"))
  g_NotClosed : mg "NotClosed" = some (.ref (He.ga K "NotClosed"))
  g_BadRow : mg "BadRow" = some (.ref (He.ga K "BadRow"))
  g_HitError : mg "HitError" = some (.ref (He.ga K "HitError"))
  e_NoRay : ErrC K "HitError" [("NoRay", true), ("NoShape", false), ("NotClosed", false), ("BadRow", false), ("HitError", true)] "NoRay"
  e_NoShape : ErrC K "HitError" [("NoRay", false), ("NoShape", true), ("NotClosed", false), ("BadRow", false), ("HitError", true)] "NoShape"
  e_NotClosed : ErrC K "HitError" [("NoRay", false), ("NoShape", false), ("NotClosed", true), ("BadRow", false), ("HitError", true)] "NotClosed"
  g_ZERO : mg "ZERO" = some (.ref (He.ga K "ZERO"))
  t_ZERO : ∀ H, SqT K H (He.ga K "ZERO") (([0, 0, 0] : List Int).map V.int)
  g_minus : mg "minus" = some (.ref (He.ga K "minus"))
  d_minus : ∃ fd, FunD K "minus" "minus" (defArgs s_minus) (defBody s_minus) (defScope s_minus) [] [] (He.ga K "minus") fd
  g_dot : mg "dot" = some (.ref (He.ga K "dot"))
  d_dot : ∃ fd, FunD K "dot" "dot" (defArgs s_dot) (defBody s_dot) (defScope s_dot) [] [] (He.ga K "dot") fd
  g_cross : mg "cross" = some (.ref (He.ga K "cross"))
  d_cross : ∃ fd, FunD K "cross" "cross" (defArgs s_cross) (defBody s_cross) (defScope s_cross) [] [] (He.ga K "cross") fd
  g_sign : mg "sign" = some (.ref (He.ga K "sign"))
  d_sign : ∃ fd, FunD K "sign" "sign" (defArgs s_sign) (defBody s_sign) (defScope s_sign) [] [] (He.ga K "sign") fd
  g_ratio : mg "ratio" = some (.ref (He.ga K "ratio"))
  d_ratio : ∃ fd, FunD K "ratio" "ratio" (defArgs s_ratio) (defBody s_ratio) (defScope s_ratio) [] [] (He.ga K "ratio") fd
  g_is_less : mg "is_less" = some (.ref (He.ga K "is_less"))
  d_is_less : ∃ fd, FunD K "is_less" "is_less" (defArgs s_is_less) (defBody s_is_less) (defScope s_is_less) [] [] (He.ga K "is_less") fd
  g_lesser : mg "lesser" = some (.ref (He.ga K "lesser"))
  d_lesser : ∃ fd, FunD K "lesser" "lesser" (defArgs s_lesser) (defBody s_lesser) (defScope s_lesser) [] [] (He.ga K "lesser") fd
  g_turn : mg "turn" = some (.ref (He.ga K "turn"))
  d_turn : ∃ fd, FunD K "turn" "turn" (defArgs s_turn) (defBody s_turn) (defScope s_turn) [] [] (He.ga K "turn") fd
  g_along : mg "along" = some (.ref (He.ga K "along"))
  d_along : ∃ fd, FunD K "along" "along" (defArgs s_along) (defBody s_along) (defScope s_along) [] [] (He.ga K "along") fd
  g_on_line : mg "on_line" = some (.ref (He.ga K "on_line"))
  d_on_line : ∃ fd, FunD K "on_line" "on_line" (defArgs s_on_line) (defBody s_on_line) (defScope s_on_line) [] [] (He.ga K "on_line") fd
  g_meets_segment : mg "meets_segment" = some (.ref (He.ga K "meets_segment"))
  d_meets_segment : ∃ fd, FunD K "meets_segment" "meets_segment" (defArgs s_meets_segment) (defBody s_meets_segment) (defScope s_meets_segment) [] [] (He.ga K "meets_segment") fd
  g_is_within : mg "is_within" = some (.ref (He.ga K "is_within"))
  d_is_within : ∃ fd, FunD K "is_within" "is_within" (defArgs s_is_within) (defBody s_is_within) (defScope s_is_within) [] [] (He.ga K "is_within") fd
  g_meets_flat : mg "meets_flat" = some (.ref (He.ga K "meets_flat"))
  d_meets_flat : ∃ fd, FunD K "meets_flat" "meets_flat" (defArgs s_meets_flat) (defBody s_meets_flat) (defScope s_meets_flat) [] [] (He.ga K "meets_flat") fd
  g_meets_triangle : mg "meets_triangle" = some (.ref (He.ga K "meets_triangle"))
  d_meets_triangle : ∃ fd, FunD K "meets_triangle" "meets_triangle" (defArgs s_meets_triangle) (defBody s_meets_triangle) (defScope s_meets_triangle) [] [] (He.ga K "meets_triangle") fd
  g_edges : mg "edges" = some (.ref (He.ga K "edges"))
  d_edges : ∃ fd, FunD K "edges" "edges" (defArgs s_edges) (defBody s_edges) (defScope s_edges) [] [] (He.ga K "edges") fd
  g_is_closed : mg "is_closed" = some (.ref (He.ga K "is_closed"))
  d_is_closed : ∃ fd, FunD K "is_closed" "is_closed" (defArgs s_is_closed) (defBody s_is_closed) (defScope s_is_closed) [] [] (He.ga K "is_closed") fd
  g_is_on : mg "is_on" = some (.ref (He.ga K "is_on"))
  d_is_on : ∃ fd, FunD K "is_on" "is_on" (defArgs s_is_on) (defBody s_is_on) (defScope s_is_on) [] [] (He.ga K "is_on") fd
  g_far_way : mg "far_way" = some (.ref (He.ga K "far_way"))
  d_far_way : ∃ fd, FunD K "far_way" "far_way" (defArgs s_far_way) (defBody s_far_way) (defScope s_far_way) [] [] (He.ga K "far_way") fd
  g_wound : mg "wound" = some (.ref (He.ga K "wound"))
  d_wound : ∃ fd, FunD K "wound" "wound" (defArgs s_wound) (defBody s_wound) (defScope s_wound) [] [] (He.ga K "wound") fd
  g_place_of : mg "place_of" = some (.ref (He.ga K "place_of"))
  d_place_of : ∃ fd, FunD K "place_of" "place_of" (defArgs s_place_of) (defBody s_place_of) (defScope s_place_of) [] [] (He.ga K "place_of") fd
  g_l_cell : mg "_law_cell" = some (.ref (He.ga K "_law_cell"))
  d_l_cell : ∃ fd, FunD K "_law_cell" "_law_cell" (defArgs s_l_cell) (defBody s_l_cell) (defScope s_l_cell) [] [] (He.ga K "_law_cell") fd
  g_l_drawn : mg "_law_drawn" = some (.ref (He.ga K "_law_drawn"))
  d_l_drawn : ∃ fd, FunD K "_law_drawn" "_law_drawn" (defArgs s_l_drawn) (defBody s_l_drawn) (defScope s_l_drawn) [] [] (He.ga K "_law_drawn") fd
  g_l_whole : mg "_law_whole" = some (.ref (He.ga K "_law_whole"))
  d_l_whole : ∃ fd, FunD K "_law_whole" "_law_whole" (defArgs s_l_whole) (defBody s_l_whole) (defScope s_l_whole) [] [] (He.ga K "_law_whole") fd
  g_l_spot : mg "_law_spot" = some (.ref (He.ga K "_law_spot"))
  d_l_spot : ∃ fd, FunD K "_law_spot" "_law_spot" (defArgs s_l_spot) (defBody s_l_spot) (defScope s_l_spot) [] [] (He.ga K "_law_spot") fd
  g_l_put : mg "_law_put" = some (.ref (He.ga K "_law_put"))
  d_l_put : ∃ fd, FunD K "_law_put" "_law_put" (defArgs s_l_put) (defBody s_l_put) (defScope s_l_put) [] [] (He.ga K "_law_put") fd
  g_l_face : mg "_law_face" = some (.ref (He.ga K "_law_face"))
  d_l_face : ∃ fd, FunD K "_law_face" "_law_face" (defArgs s_l_face) (defBody s_l_face) (defScope s_l_face) [] [] (He.ga K "_law_face") fd
  g_l_skin : mg "_law_skin" = some (.ref (He.ga K "_law_skin"))
  d_l_skin : ∃ fd, FunD K "_law_skin" "_law_skin" (defArgs s_l_skin) (defBody s_l_skin) (defScope s_l_skin) [] [] (He.ga K "_law_skin") fd
  g_l_closed : mg "_law_closed" = some (.ref (He.ga K "_law_closed"))
  d_l_closed : ∃ fd, FunD K "_law_closed" "_law_closed" (defArgs s_l_closed) (defBody s_l_closed) (defScope s_l_closed) [] [] (He.ga K "_law_closed") fd
  g_l_edited : mg "_law_edited" = some (.ref (He.ga K "_law_edited"))
  d_l_edited : ∃ fd, FunD K "_law_edited" "_law_edited" (defArgs s_l_edited) (defBody s_l_edited) (defScope s_l_edited) [] [] (He.ga K "_law_edited") fd
  g_l_word : mg "_law_word" = some (.ref (He.ga K "_law_word"))
  d_l_word : ∃ fd, FunD K "_law_word" "_law_word" (defArgs s_l_word) (defBody s_l_word) (defScope s_l_word) [] [] (He.ga K "_law_word") fd
  g_l_told : mg "_law_told" = some (.ref (He.ga K "_law_told"))
  d_l_told : ∃ fd, FunD K "_law_told" "_law_told" (defArgs s_l_told) (defBody s_l_told) (defScope s_l_told) [] [] (He.ga K "_law_told") fd
  g_l_boxes : mg "_law_boxes" = some (.ref (He.ga K "_law_boxes"))
  d_l_boxes : ∃ fd, FunD K "_law_boxes" "_law_boxes" (defArgs s_l_boxes) (defBody s_l_boxes) (defScope s_l_boxes) [] [] (He.ga K "_law_boxes") fd
  g_l_point : mg "_law_point" = some (.ref (He.ga K "_law_point"))
  d_l_point : ∃ fd, FunD K "_law_point" "_law_point" (defArgs s_l_point) (defBody s_l_point) (defScope s_l_point) [] [] (He.ga K "_law_point") fd
  g_l_due : mg "_law_due" = some (.ref (He.ga K "_law_due"))
  d_l_due : ∃ fd, FunD K "_law_due" "_law_due" (defArgs s_l_due) (defBody s_l_due) (defScope s_l_due) [] [] (He.ga K "_law_due") fd
  g_law : mg "law" = some (.ref (He.ga K "law"))
  d_law : ∃ fd, FunD K "law" "law" (defArgs s_law) (defBody s_law) (defScope s_law) [] [] (He.ga K "law") fd
  b_law : LamX.TabB base mg (He.cT K ("law", none)).1 (He.cT K ("law", none)).2
  m_law : ((He.cT K ("law", none)).2, (("law" : Str) ++ (".<locals>." : Str) ++ ("<lambda>" : Str))) ∈ TbC.T
  u_law : ∀ r ∈ TbC.T, r.1 = (He.cT K ("law", none)).2 → r.2 = (("law" : Str) ++ (".<locals>." : Str) ++ ("<lambda>" : Str))
section
variable [TbC]
variable {P : Program} {w : World} {K : PySem.W.Frag} {mg : Str → Option Value} {base : Heap}
theorem sc_minus : FnScope ["one", "other"] ["one", "other"] (defScope s_minus) := ⟨rfl, rfl, rfl, by decide +kernel, rfl, by decide +kernel, by decide +kernel⟩
theorem df_minus (T : Tx w base K mg) : Df P w K mg base 1 "minus" 2 F_minus := by
  obtain ⟨fd, Fn⟩ := T.d_minus
  refine df_mk Fn sc_minus T.g_minus (fun _ _ _ _ _ _ us hl => match us, hl with | [_, _], _ => rfl) fun cdv A outer s H E hr tk => ?_
  exact (sd_one (sd_ret (pd_tup (ad_cons (dSub (pb_of (dIx (pbv 0) (pb_of pd_int))) (pb_of (dIx (pbv 1) (pb_of pd_int)))) (ad_cons (dSub (pb_of (dIx (pbv 0) (pb_of pd_int))) (pb_of (dIx (pbv 1) (pb_of pd_int)))) (ad_cons (dSub (pb_of (dIx (pbv 0) (pb_of pd_int))) (pb_of (dIx (pbv 1) (pb_of pd_int)))) ad_nil))))))
theorem sc_dot : FnScope ["one", "other"] ["one", "other"] (defScope s_dot) := ⟨rfl, rfl, rfl, by decide +kernel, rfl, by decide +kernel, by decide +kernel⟩
theorem df_dot (T : Tx w base K mg) : Df P w K mg base 1 "dot" 2 F_dot := by
  obtain ⟨fd, Fn⟩ := T.d_dot
  refine df_mk Fn sc_dot T.g_dot (fun _ _ _ _ _ _ us hl => match us, hl with | [_, _], _ => rfl) fun cdv A outer s H E hr tk => ?_
  exact (sd_one (sd_ret (dAdd (pb_of (dAdd (pb_of (dMul (pb_of (dIx (pbv 0) (pb_of pd_int))) (pb_of (dIx (pbv 1) (pb_of pd_int))))) (pb_of (dMul (pb_of (dIx (pbv 0) (pb_of pd_int))) (pb_of (dIx (pbv 1) (pb_of pd_int))))))) (pb_of (dMul (pb_of (dIx (pbv 0) (pb_of pd_int))) (pb_of (dIx (pbv 1) (pb_of pd_int))))))))
theorem sc_cross : FnScope ["one", "other"] ["one", "other"] (defScope s_cross) := ⟨rfl, rfl, rfl, by decide +kernel, rfl, by decide +kernel, by decide +kernel⟩
theorem df_cross (T : Tx w base K mg) : Df P w K mg base 1 "cross" 2 F_cross := by
  obtain ⟨fd, Fn⟩ := T.d_cross
  refine df_mk Fn sc_cross T.g_cross (fun _ _ _ _ _ _ us hl => match us, hl with | [_, _], _ => rfl) fun cdv A outer s H E hr tk => ?_
  exact (sd_one (sd_ret (pd_tup (ad_cons (dSub (pb_of (dMul (pb_of (dIx (pbv 0) (pb_of pd_int))) (pb_of (dIx (pbv 1) (pb_of pd_int))))) (pb_of (dMul (pb_of (dIx (pbv 0) (pb_of pd_int))) (pb_of (dIx (pbv 1) (pb_of pd_int)))))) (ad_cons (dSub (pb_of (dMul (pb_of (dIx (pbv 0) (pb_of pd_int))) (pb_of (dIx (pbv 1) (pb_of pd_int))))) (pb_of (dMul (pb_of (dIx (pbv 0) (pb_of pd_int))) (pb_of (dIx (pbv 1) (pb_of pd_int)))))) (ad_cons (dSub (pb_of (dMul (pb_of (dIx (pbv 0) (pb_of pd_int))) (pb_of (dIx (pbv 1) (pb_of pd_int))))) (pb_of (dMul (pb_of (dIx (pbv 0) (pb_of pd_int))) (pb_of (dIx (pbv 1) (pb_of pd_int)))))) ad_nil))))))
theorem sc_sign : FnScope ["number"] ["number"] (defScope s_sign) := ⟨rfl, rfl, rfl, by decide +kernel, rfl, by decide +kernel, by decide +kernel⟩
theorem df_sign (T : Tx w base K mg) : Df P w K mg base 1 "sign" 1 F_sign := by
  obtain ⟨fd, Fn⟩ := T.d_sign
  refine df_mk Fn sc_sign T.g_sign (fun _ _ _ _ _ _ us hl => match us, hl with | [_], _ => rfl) fun cdv A outer s H E hr tk => ?_
  exact (sd_one (sd_ret (dSub (pb_of (dInt T.f_int (pb_of (dGt (pbv 0) (pb_of pd_int))))) (pb_of (dInt T.f_int (pb_of (dLt (pbv 0) (pb_of pd_int))))))))
theorem sc_ratio : FnScope ["top", "under", "one", "other"] ["top", "under"] (defScope s_ratio) := ⟨rfl, rfl, rfl, by decide +kernel, rfl, by decide +kernel, by decide +kernel⟩
theorem df_ratio (T : Tx w base K mg) : Df P w K mg base 1 "ratio" 2 F_ratio := by
  obtain ⟨fd, Fn⟩ := T.d_ratio
  refine df_mk Fn sc_ratio T.g_ratio (fun _ _ _ _ _ _ us hl => match us, hl with | [_, _], _ => rfl) fun cdv A outer s H E hr tk => ?_
  exact (sd_cons (sd_set (i := 2) sc_ratio.nd (dAbs T.f_abs (pbv 0))) (sd_cons (sd_set (i := 3) sc_ratio.nd (dAbs T.f_abs (pbv 1))) (sd_cons (sd_while PassesOwn.leaving (tNe hr (pbv 3) (pb_of pd_int)) (sd_one (sd_par (i := 2) (j := 3) rfl sc_ratio.nd rfl rfl (by decide) rfl rfl (ad_cons (pdv 3) (ad_cons (dMod (pbv 2) (pbv 3)) ad_nil))))) (sd_cons (sd_if (tLt (pbv 1) (pb_of pd_int)) (sd_one (sd_set (i := 2) sc_ratio.nd (dSub (pb_of pd_int) (pbv 2)))) sd_nil) (sd_one (sd_ret (pd_tup (ad_cons (dDiv (pbv 0) (pbv 2)) (ad_cons (dDiv (pbv 1) (pbv 2)) ad_nil)))))))))
theorem sc_is_less : FnScope ["one", "other"] ["one", "other"] (defScope s_is_less) := ⟨rfl, rfl, rfl, by decide +kernel, rfl, by decide +kernel, by decide +kernel⟩
theorem df_is_less (T : Tx w base K mg) : Df P w K mg base 1 "is_less" 2 F_is_less := by
  obtain ⟨fd, Fn⟩ := T.d_is_less
  refine df_mk Fn sc_is_less T.g_is_less (fun _ _ _ _ _ _ us hl => match us, hl with | [_, _], _ => rfl) fun cdv A outer s H E hr tk => ?_
  exact (sd_one (sd_ret (dLt (pb_of (dMul (pb_of (dIx (pbv 0) (pb_of pd_int))) (pb_of (dIx (pbv 1) (pb_of pd_int))))) (pb_of (dMul (pb_of (dIx (pbv 1) (pb_of pd_int))) (pb_of (dIx (pbv 0) (pb_of pd_int))))))))
theorem sc_lesser : FnScope ["one", "other"] ["one", "other"] (defScope s_lesser) := ⟨rfl, rfl, rfl, by decide +kernel, rfl, by decide +kernel, by decide +kernel⟩
theorem df_lesser (T : Tx w base K mg) : Df P w K mg base 2 "lesser" 2 F_lesser := by
  obtain ⟨fd, Fn⟩ := T.d_lesser
  refine df_mk Fn sc_lesser T.g_lesser (fun _ _ _ _ _ _ us hl => match us, hl with | [_, _], _ => rfl) fun cdv A outer s H E hr tk => ?_
  exact (sd_cons (sd_if (td_of (tw_or (tIsN (pbv 0) (pb_of pd_non)) (tw_or1 (td_of (tw_and (tNotN (pbv 1) (pb_of pd_non)) (tw_and1 (td_val (dCall (df_is_less T) hr (by decide) tk (ad_cons (pdv 1) (ad_cons (pdv 0) ad_nil)))))))))) (sd_one (sd_ret (pdv 1))) sd_nil) (sd_one (sd_ret (pdv 0))))
theorem sc_turn : FnScope ["a", "b", "c", "upon"] ["a", "b", "c", "upon"] (defScope s_turn) := ⟨rfl, rfl, rfl, by decide +kernel, rfl, by decide +kernel, by decide +kernel⟩
theorem df_turn (T : Tx w base K mg) : Df P w K mg base 2 "turn" 4 F_turn := by
  obtain ⟨fd, Fn⟩ := T.d_turn
  refine df_mk Fn sc_turn T.g_turn (fun _ _ _ _ _ _ us hl => match us, hl with | [_, _, _, _], _ => rfl) fun cdv A outer s H E hr tk => ?_
  exact (sd_one (sd_ret (dCall (df_sign T) hr (by decide) tk (ad_cons (dCall (df_dot T) hr (by decide) tk (ad_cons (dCall (df_cross T) hr (by decide) tk (ad_cons (dCall (df_minus T) hr (by decide) tk (ad_cons (pdv 1) (ad_cons (pdv 0) ad_nil))) (ad_cons (dCall (df_minus T) hr (by decide) tk (ad_cons (pdv 2) (ad_cons (pdv 0) ad_nil))) ad_nil))) (ad_cons (pdv 3) ad_nil))) ad_nil))))
theorem sc_along : FnScope ["ray", "point", "top"] ["ray", "point"] (defScope s_along) := ⟨rfl, rfl, rfl, by decide +kernel, rfl, by decide +kernel, by decide +kernel⟩
theorem df_along (T : Tx w base K mg) : Df P w K mg base 2 "along" 2 F_along := by
  obtain ⟨fd, Fn⟩ := T.d_along
  refine df_mk Fn sc_along T.g_along (fun _ _ _ _ _ _ us hl => match us, hl with | [_, _], _ => rfl) fun cdv A outer s H E hr tk => ?_
  exact (sd_cons (sd_set (i := 2) sc_along.nd (dCall (df_dot T) hr (by decide) tk (ad_cons (dCall (df_minus T) hr (by decide) tk (ad_cons (pdv 1) (ad_cons (dIx (pbv 0) (pb_of pd_int)) ad_nil))) (ad_cons (dIx (pbv 0) (pb_of pd_int)) ad_nil)))) (sd_cons (sd_if (tLt (pbv 2) (pb_of pd_int)) (sd_one (sd_ret pd_non)) sd_nil) (sd_one (sd_ret (dCall (df_ratio T) hr (by decide) tk (ad_cons (pdv 2) (ad_cons (dCall (df_dot T) hr (by decide) tk (ad_cons (dIx (pbv 0) (pb_of pd_int)) (ad_cons (dIx (pbv 0) (pb_of pd_int)) ad_nil))) ad_nil)))))))
theorem sc_on_line : FnScope ["ray", "one", "other", "first", "second"] ["ray", "one", "other"] (defScope s_on_line) := ⟨rfl, rfl, rfl, by decide +kernel, rfl, by decide +kernel, by decide +kernel⟩
theorem df_on_line (T : Tx w base K mg) : Df P w K mg base 3 "on_line" 3 F_on_line := by
  obtain ⟨fd, Fn⟩ := T.d_on_line
  refine df_mk Fn sc_on_line T.g_on_line (fun _ _ _ _ _ _ us hl => match us, hl with | [_, _, _], _ => rfl) fun cdv A outer s H E hr tk => ?_
  exact (sd_cons (sd_set (i := 3) sc_on_line.nd (dCall (df_along T) hr (by decide) tk (ad_cons (pdv 0) (ad_cons (pdv 1) ad_nil)))) (sd_cons (sd_set (i := 4) sc_on_line.nd (dCall (df_along T) hr (by decide) tk (ad_cons (pdv 0) (ad_cons (pdv 2) ad_nil)))) (sd_cons (sd_if (td_of (tw_and (tIsN (pbv 3) (pb_of pd_non)) (tw_and1 (tIsN (pbv 4) (pb_of pd_non))))) (sd_one (sd_ret pd_non)) sd_nil) (sd_cons (sd_if (td_of (tw_or (tIsN (pbv 3) (pb_of pd_non)) (tw_or1 (tIsN (pbv 4) (pb_of pd_non))))) (sd_one (sd_ret (pd_tup (ad_cons pd_int (ad_cons pd_int ad_nil))))) sd_nil) (sd_one (sd_ret (dCall (df_lesser T) hr (by decide) tk (ad_cons (pdv 3) (ad_cons (pdv 4) ad_nil)))))))))
theorem sc_meets_segment : FnScope ["ray", "one", "other", "start", "way", "side", "gap", "upon", "wide", "when", "where"] ["ray", "one", "other"] (defScope s_meets_segment) := ⟨rfl, rfl, rfl, by decide +kernel, rfl, by decide +kernel, by decide +kernel⟩
theorem df_meets_segment (T : Tx w base K mg) : Df P w K mg base 4 "meets_segment" 3 F_meets_segment := by
  obtain ⟨fd, Fn⟩ := T.d_meets_segment
  refine df_mk Fn sc_meets_segment T.g_meets_segment (fun _ _ _ _ _ _ us hl => match us, hl with | [_, _, _], _ => rfl) fun cdv A outer s H E hr tk => ?_
  exact (sd_cons (sd_asg (pdv 0) (gdT (n := 2) rfl (gds_cons (gdN (i := 3) sc_meets_segment.nd rfl (by first | exact Or.inl rfl | exact Or.inr rfl)) (gds_cons (gdN (i := 4) sc_meets_segment.nd rfl (by first | exact Or.inl rfl | exact Or.inr rfl)) gds_nil)))) (sd_cons (sd_set (i := 5) sc_meets_segment.nd (dCall (df_minus T) hr (by decide) tk (ad_cons (pdv 2) (ad_cons (pdv 1) ad_nil)))) (sd_cons (sd_set (i := 6) sc_meets_segment.nd (dCall (df_minus T) hr (by decide) tk (ad_cons (pdv 1) (ad_cons (pdv 3) ad_nil)))) (sd_cons (sd_set (i := 7) sc_meets_segment.nd (dCall (df_cross T) hr (by decide) tk (ad_cons (pdv 4) (ad_cons (pdv 5) ad_nil)))) (sd_cons (sd_if (tEq hr (pbv 7) (pb_of (pd_tupI (ns := [0, 0, 0]) T.g_ZERO T.t_ZERO))) (sd_cons (sd_if (tNe hr (pb_of (dCall (df_cross T) hr (by decide) tk (ad_cons (pdv 6) (ad_cons (pdv 4) ad_nil)))) (pb_of (pd_tupI (ns := [0, 0, 0]) T.g_ZERO T.t_ZERO))) (sd_one (sd_ret pd_non)) sd_nil) (sd_one (sd_ret (dCall (df_on_line T) hr (by decide) tk (ad_cons (pdv 0) (ad_cons (pdv 1) (ad_cons (pdv 2) ad_nil))))))) sd_nil) (sd_cons (sd_if (tNe hr (pb_of (dCall (df_dot T) hr (by decide) tk (ad_cons (pdv 6) (ad_cons (pdv 7) ad_nil)))) (pb_of pd_int)) (sd_one (sd_ret pd_non)) sd_nil) (sd_cons (sd_set (i := 8) sc_meets_segment.nd (dCall (df_dot T) hr (by decide) tk (ad_cons (pdv 7) (ad_cons (pdv 7) ad_nil)))) (sd_cons (sd_set (i := 9) sc_meets_segment.nd (dCall (df_dot T) hr (by decide) tk (ad_cons (dCall (df_cross T) hr (by decide) tk (ad_cons (pdv 6) (ad_cons (pdv 5) ad_nil))) (ad_cons (pdv 7) ad_nil)))) (sd_cons (sd_set (i := 10) sc_meets_segment.nd (dCall (df_dot T) hr (by decide) tk (ad_cons (dCall (df_cross T) hr (by decide) tk (ad_cons (pdv 6) (ad_cons (pdv 4) ad_nil))) (ad_cons (pdv 7) ad_nil)))) (sd_cons (sd_if (td_of (tw_or (tLt (pbv 9) (pb_of pd_int)) (tw_or (tLt (pbv 10) (pb_of pd_int)) (tw_or1 (tGt (pbv 10) (pbv 8)))))) (sd_one (sd_ret pd_non)) sd_nil) (sd_one (sd_ret (dCall (df_ratio T) hr (by decide) tk (ad_cons (pdv 9) (ad_cons (pdv 8) ad_nil)))))))))))))))
theorem sc_is_within : FnScope ["triangle", "upon", "point", "top", "under", "a", "b", "c", "one", "turns"] ["triangle", "upon", "point"] (defScope s_is_within) := ⟨rfl, rfl, rfl, by decide +kernel, rfl, by decide +kernel, by decide +kernel⟩
theorem df_is_within (T : Tx w base K mg) : Df P w K mg base 3 "is_within" 3 F_is_within := by
  obtain ⟨fd, Fn⟩ := T.d_is_within
  refine df_mk Fn sc_is_within T.g_is_within (fun _ _ _ _ _ _ us hl => match us, hl with | [_, _, _], _ => rfl) fun cdv A outer s H E hr tk => ?_
  exact (sd_cons (sd_asg (pdv 2) (gdT (n := 2) rfl (gds_cons (gdN (i := 3) sc_is_within.nd rfl (by first | exact Or.inl rfl | exact Or.inr rfl)) (gds_cons (gdN (i := 4) sc_is_within.nd rfl (by first | exact Or.inl rfl | exact Or.inr rfl)) gds_nil)))) (sd_cons (sd_asg (pd_new (pn_lc (own := [("one", 8)]) (js := [8]) rfl sc_is_within.nd (itB (pbv 0)) (blkOk_by (by rfl)) (fun _ _ _ _ _ => (gdN (i := 8) sc_is_within.nd rfl (by first | exact Or.inl rfl | exact Or.inr rfl))) (fun _ _ _ _ _ => tds_nil) (fun _ _ _ _ _ => (pd_tup (ad_cons (dMul (pb_of (dIx (pbv 8) (pb_of pd_int))) (pbv 4)) (ad_cons (dMul (pb_of (dIx (pbv 8) (pb_of pd_int))) (pbv 4)) (ad_cons (dMul (pb_of (dIx (pbv 8) (pb_of pd_int))) (pbv 4)) ad_nil))))))) (gdT (n := 3) rfl (gds_cons (gdN (i := 5) sc_is_within.nd rfl (by first | exact Or.inl rfl | exact Or.inr rfl)) (gds_cons (gdN (i := 6) sc_is_within.nd rfl (by first | exact Or.inl rfl | exact Or.inr rfl)) (gds_cons (gdN (i := 7) sc_is_within.nd rfl (by first | exact Or.inl rfl | exact Or.inr rfl)) gds_nil))))) (sd_cons (sd_set (i := 9) sc_is_within.nd (pd_new (pn_lst (ad_cons (dCall (df_turn T) hr (by decide) tk (ad_cons (pdv 5) (ad_cons (pdv 6) (ad_cons (pdv 3) (ad_cons (pdv 1) ad_nil))))) (ad_cons (dCall (df_turn T) hr (by decide) tk (ad_cons (pdv 6) (ad_cons (pdv 7) (ad_cons (pdv 3) (ad_cons (pdv 1) ad_nil))))) (ad_cons (dCall (df_turn T) hr (by decide) tk (ad_cons (pdv 7) (ad_cons (pdv 5) (ad_cons (pdv 3) (ad_cons (pdv 1) ad_nil))))) ad_nil)))))) (sd_one (sd_ret (pd_not (pd_and (dIn (pb_of pd_int) (pbv 9)) (pd_one (dIn (pb_of (dNeg (pb_of pd_int))) (pbv 9))))))))))
theorem sc_meets_flat : FnScope ["ray", "triangle", "a", "b", "c", "found"] ["ray", "triangle"] (defScope s_meets_flat) := ⟨rfl, rfl, rfl, by decide +kernel, rfl, by decide +kernel, by decide +kernel⟩
theorem df_meets_flat (T : Tx w base K mg) : Df P w K mg base 5 "meets_flat" 2 F_meets_flat := by
  obtain ⟨fd, Fn⟩ := T.d_meets_flat
  refine df_mk Fn sc_meets_flat T.g_meets_flat (fun _ _ _ _ _ _ us hl => match us, hl with | [_, _], _ => rfl) fun cdv A outer s H E hr tk => ?_
  exact (sd_cons (sd_asg (pdv 1) (gdT (n := 3) rfl (gds_cons (gdN (i := 2) sc_meets_flat.nd rfl (by first | exact Or.inl rfl | exact Or.inr rfl)) (gds_cons (gdN (i := 3) sc_meets_flat.nd rfl (by first | exact Or.inl rfl | exact Or.inr rfl)) (gds_cons (gdN (i := 4) sc_meets_flat.nd rfl (by first | exact Or.inl rfl | exact Or.inr rfl)) gds_nil))))) (sd_cons (sd_set (i := 5) sc_meets_flat.nd (dCall (df_lesser T) hr (by decide) tk (ad_cons (dCall (df_meets_segment T) hr (by decide) tk (ad_cons (pdv 0) (ad_cons (pdv 2) (ad_cons (pdv 3) ad_nil)))) (ad_cons (dCall (df_meets_segment T) hr (by decide) tk (ad_cons (pdv 0) (ad_cons (pdv 3) (ad_cons (pdv 4) ad_nil)))) ad_nil)))) (sd_one (sd_ret (dCall (df_lesser T) hr (by decide) tk (ad_cons (pdv 5) (ad_cons (dCall (df_meets_segment T) hr (by decide) tk (ad_cons (pdv 0) (ad_cons (pdv 4) (ad_cons (pdv 2) ad_nil)))) ad_nil)))))))
theorem sc_meets_triangle : FnScope ["ray", "triangle", "start", "way", "a", "b", "c", "upon", "under", "top", "when", "point", "k"] ["ray", "triangle"] (defScope s_meets_triangle) := ⟨rfl, rfl, rfl, by decide +kernel, rfl, by decide +kernel, by decide +kernel⟩
theorem df_meets_triangle (T : Tx w base K mg) : Df P w K mg base 6 "meets_triangle" 2 F_meets_triangle := by
  obtain ⟨fd, Fn⟩ := T.d_meets_triangle
  refine df_mk Fn sc_meets_triangle T.g_meets_triangle (fun _ _ _ _ _ _ us hl => match us, hl with | [_, _], _ => rfl) fun cdv A outer s H E hr tk => ?_
  exact (sd_cons (sd_asg (pdv 0) (gdT (n := 2) rfl (gds_cons (gdN (i := 2) sc_meets_triangle.nd rfl (by first | exact Or.inl rfl | exact Or.inr rfl)) (gds_cons (gdN (i := 3) sc_meets_triangle.nd rfl (by first | exact Or.inl rfl | exact Or.inr rfl)) gds_nil)))) (sd_cons (sd_asg (pdv 1) (gdT (n := 3) rfl (gds_cons (gdN (i := 4) sc_meets_triangle.nd rfl (by first | exact Or.inl rfl | exact Or.inr rfl)) (gds_cons (gdN (i := 5) sc_meets_triangle.nd rfl (by first | exact Or.inl rfl | exact Or.inr rfl)) (gds_cons (gdN (i := 6) sc_meets_triangle.nd rfl (by first | exact Or.inl rfl | exact Or.inr rfl)) gds_nil))))) (sd_cons (sd_set (i := 7) sc_meets_triangle.nd (dCall (df_cross T) hr (by decide) tk (ad_cons (dCall (df_minus T) hr (by decide) tk (ad_cons (pdv 5) (ad_cons (pdv 4) ad_nil))) (ad_cons (dCall (df_minus T) hr (by decide) tk (ad_cons (pdv 6) (ad_cons (pdv 4) ad_nil))) ad_nil)))) (sd_cons (sd_if (tEq hr (pbv 7) (pb_of (pd_tupI (ns := [0, 0, 0]) T.g_ZERO T.t_ZERO))) (sd_one (sd_ret (dCall (df_meets_flat T) hr (by decide) tk (ad_cons (pdv 0) (ad_cons (pdv 1) ad_nil))))) sd_nil) (sd_cons (sd_set (i := 8) sc_meets_triangle.nd (dCall (df_dot T) hr (by decide) tk (ad_cons (pdv 7) (ad_cons (pdv 3) ad_nil)))) (sd_cons (sd_set (i := 9) sc_meets_triangle.nd (dCall (df_dot T) hr (by decide) tk (ad_cons (pdv 7) (ad_cons (dCall (df_minus T) hr (by decide) tk (ad_cons (pdv 4) (ad_cons (pdv 2) ad_nil))) ad_nil)))) (sd_cons (sd_if (tEq hr (pbv 8) (pb_of pd_int)) (sd_cons (sd_if (tNe hr (pbv 9) (pb_of pd_int)) (sd_one (sd_ret pd_non)) sd_nil) (sd_cons (sd_if (td_val (dCall (df_is_within T) hr (by decide) tk (ad_cons (pdv 1) (ad_cons (pdv 7) (ad_cons (pd_tup (ad_cons (pdv 2) (ad_cons pd_int ad_nil))) ad_nil))))) (sd_one (sd_ret (pd_tup (ad_cons pd_int (ad_cons pd_int ad_nil))))) sd_nil) (sd_one (sd_ret (dCall (df_meets_flat T) hr (by decide) tk (ad_cons (pdv 0) (ad_cons (pdv 1) ad_nil))))))) sd_nil) (sd_cons (sd_set (i := 10) sc_meets_triangle.nd (dCall (df_ratio T) hr (by decide) tk (ad_cons (pdv 9) (ad_cons (pdv 8) ad_nil)))) (sd_cons (sd_if (td_val (dCall (df_is_less T) hr (by decide) tk (ad_cons (pdv 10) (ad_cons (pd_tup (ad_cons pd_int (ad_cons pd_int ad_nil))) ad_nil)))) (sd_one (sd_ret pd_non)) sd_nil) (sd_cons (sd_set (i := 11) sc_meets_triangle.nd (dTuple T.f_tuple (pb_of (pd_new (pn_lc (own := [("k", 12)]) (js := [12]) rfl sc_meets_triangle.nd (itR T.f_range (pb_of pd_int)) (blkOk_by (by rfl)) (fun _ _ _ _ _ => (gdN (i := 12) sc_meets_triangle.nd rfl (by first | exact Or.inl rfl | exact Or.inr rfl))) (fun _ _ _ _ _ => tds_nil) (fun _ _ _ _ _ => (dAdd (pb_of (dMul (pb_of (dIx (pbv 2) (pbv 12))) (pb_of (dIx (pbv 10) (pb_of pd_int))))) (pb_of (dMul (pb_of (dIx (pbv 3) (pbv 12))) (pb_of (dIx (pbv 10) (pb_of pd_int)))))))))))) (sd_cons (sd_if (td_val (dCall (df_is_within T) hr (by decide) tk (ad_cons (pdv 1) (ad_cons (pdv 7) (ad_cons (pd_tup (ad_cons (pdv 11) (ad_cons (dIx (pbv 10) (pb_of pd_int)) ad_nil))) ad_nil))))) (sd_one (sd_ret (pdv 10))) sd_nil) (sd_one (sd_ret pd_non)))))))))))))
theorem sc_edges : FnScope ["triangle", "a", "b", "c"] ["triangle"] (defScope s_edges) := ⟨rfl, rfl, rfl, by decide +kernel, rfl, by decide +kernel, by decide +kernel⟩
theorem df_edges (T : Tx w base K mg) : Df P w K mg base 1 "edges" 1 F_edges := by
  obtain ⟨fd, Fn⟩ := T.d_edges
  refine df_mk Fn sc_edges T.g_edges (fun _ _ _ _ _ _ us hl => match us, hl with | [_], _ => rfl) fun cdv A outer s H E hr tk => ?_
  exact (sd_cons (sd_asg (pdv 0) (gdT (n := 3) rfl (gds_cons (gdN (i := 1) sc_edges.nd rfl (by first | exact Or.inl rfl | exact Or.inr rfl)) (gds_cons (gdN (i := 2) sc_edges.nd rfl (by first | exact Or.inl rfl | exact Or.inr rfl)) (gds_cons (gdN (i := 3) sc_edges.nd rfl (by first | exact Or.inl rfl | exact Or.inr rfl)) gds_nil))))) (sd_one (sd_ret (pd_new (pn_lst (ad_cons (pd_tup (ad_cons (pdv 1) (ad_cons (pdv 2) ad_nil))) (ad_cons (pd_tup (ad_cons (pdv 2) (ad_cons (pdv 3) ad_nil))) (ad_cons (pd_tup (ad_cons (pdv 3) (ad_cons (pdv 1) ad_nil))) ad_nil))))))))
theorem sc_is_closed : FnScope ["triangles", "counts", "triangle", "one", "other"] ["triangles"] (defScope s_is_closed) := ⟨rfl, rfl, rfl, by decide +kernel, rfl, by decide +kernel, by decide +kernel⟩
theorem df_is_closed (T : Tx w base K mg) : Df P w K mg base 2 "is_closed" 1 F_is_closed := by
  obtain ⟨fd, Fn⟩ := T.d_is_closed
  refine df_mk Fn sc_is_closed T.g_is_closed (fun _ _ _ _ _ _ us hl => match us, hl with | [_], _ => rfl) fun cdv A outer s H E hr tk => ?_
  exact (sd_cons (sd_dnew (i := 1) T.hw sc_is_closed.nd) (sd_cons (sd_for (js := [2]) PassesOwn.leaving rfl (itS (pdv 0)) (gdN (i := 2) sc_is_closed.nd rfl (by first | exact Or.inl rfl | exact Or.inr rfl)) (sd_one (sd_for (js := [3, 4]) PassesOwn.leaving rfl (itS (dCall (df_edges T) hr (by decide) tk (ad_cons (pdv 2) ad_nil))) (gdT (n := 2) rfl (gds_cons (gdN (i := 3) sc_is_closed.nd rfl (by first | exact Or.inl rfl | exact Or.inr rfl)) (gds_cons (gdN (i := 4) sc_is_closed.nd rfl (by first | exact Or.inl rfl | exact Or.inr rfl)) gds_nil))) (sd_one (sd_dput 1 T.hw (hu63 hr) (pd_tup (ad_cons (pdv 3) (ad_cons (pdv 4) ad_nil))) (dAdd (pb_of (pd_dget2 1 T.hw (hu63 hr) (pd_tup (ad_cons (pdv 3) (ad_cons (pdv 4) ad_nil))) pd_int)) (pb_of pd_int))))))) (sd_one (sd_ret (dAll T.f_all (pb_of (pd_new (pn_lock 1 (pn_lc (own := [("one", 3), ("other", 4)]) (js := [3, 4]) rfl sc_is_closed.nd (idM 1 T.hw) (blkOk_by (by rfl)) (fun _ _ _ _ _ => (gdT (n := 2) rfl (gds_cons (gdN (i := 3) sc_is_closed.nd rfl (by first | exact Or.inl rfl | exact Or.inr rfl)) (gds_cons (gdN (i := 4) sc_is_closed.nd rfl (by first | exact Or.inl rfl | exact Or.inr rfl)) gds_nil)))) (fun _ _ _ _ _ => tds_nil) (fun _ _ _ _ _ => (dEq hr (pb_of (pd_dget2 1 T.hw (hu63 hr) (pd_tup (ad_cons (pdv 4) (ad_cons (pdv 3) ad_nil))) pd_int)) (pb_of (pd_dix 1 T.hw (hu63 hr) (pd_tup (ad_cons (pdv 3) (ad_cons (pdv 4) ad_nil))))))))))))))))
theorem sc_is_on : FnScope ["point", "triangles", "triangle"] ["point", "triangles"] (defScope s_is_on) := ⟨rfl, rfl, rfl, by decide +kernel, rfl, by decide +kernel, by decide +kernel⟩
theorem df_is_on (T : Tx w base K mg) : Df P w K mg base 7 "is_on" 2 F_is_on := by
  obtain ⟨fd, Fn⟩ := T.d_is_on
  refine df_mk Fn sc_is_on T.g_is_on (fun _ _ _ _ _ _ us hl => match us, hl with | [_, _], _ => rfl) fun cdv A outer s H E hr tk => ?_
  exact (sd_one (sd_ret (dAny T.f_any (pb_of (pd_new (pn_lc (own := [("triangle", 2)]) (js := [2]) rfl sc_is_on.nd (itB (pbv 1)) (blkOk_by (by rfl)) (fun _ _ _ _ _ => (gdN (i := 2) sc_is_on.nd rfl (by first | exact Or.inl rfl | exact Or.inr rfl))) (fun _ _ _ _ _ => tds_nil) (fun _ _ _ _ _ => (dEq hr (pb_of (dCall (df_meets_triangle T) hr (by decide) L2.takes0 (ad_cons (pd_tup (ad_cons (pdv 0) (ad_cons (pd_tup (ad_cons pd_int (ad_cons pd_int (ad_cons pd_int ad_nil)))) ad_nil))) (ad_cons (pdv 2) ad_nil)))) (pb_of (pd_tup (ad_cons pd_int (ad_cons pd_int ad_nil))))))))))))
theorem sc_far_way : FnScope ["point", "triangles", "most", "triangle", "corner", "one", "step"] ["point", "triangles"] (defScope s_far_way) := ⟨rfl, rfl, rfl, by decide +kernel, rfl, by decide +kernel, by decide +kernel⟩
theorem df_far_way (T : Tx w base K mg) : Df P w K mg base 2 "far_way" 2 F_far_way := by
  obtain ⟨fd, Fn⟩ := T.d_far_way
  refine df_mk Fn sc_far_way T.g_far_way (fun _ _ _ _ _ _ us hl => match us, hl with | [_, _], _ => rfl) fun cdv A outer s H E hr tk => ?_
  exact (sd_cons (sd_set (i := 2) sc_far_way.nd pd_int) (sd_cons (sd_for (js := [3]) PassesOwn.leaving rfl (itS (pdv 1)) (gdN (i := 3) sc_far_way.nd rfl (by first | exact Or.inl rfl | exact Or.inr rfl)) (sd_one (sd_for (js := [4]) PassesOwn.leaving rfl (itS (pdv 3)) (gdN (i := 4) sc_far_way.nd rfl (by first | exact Or.inl rfl | exact Or.inr rfl)) (sd_one (sd_set (i := 2) sc_far_way.nd (dMax T.f_max (pb_of (dAdd (pb_of (pd_new (pn_lst (ad_cons (pdv 2) ad_nil)))) (pb_of (pd_new (pn_lc (own := [("one", 5)]) (js := [5]) rfl sc_far_way.nd (itB (pb_of (dCall (df_minus T) hr (by decide) tk (ad_cons (pdv 4) (ad_cons (pdv 0) ad_nil))))) (blkOk_by (by rfl)) (fun _ _ _ _ _ => (gdN (i := 5) sc_far_way.nd rfl (by first | exact Or.inl rfl | exact Or.inr rfl))) (fun _ _ _ _ _ => tds_nil) (fun _ _ _ _ _ => (dAbs T.f_abs (pbv 5)))))))))))))) (sd_cons (sd_set (i := 6) sc_far_way.nd (dAdd (pb_of (dMul (pb_of (dMul (pb_of (dMul (pb_of (dMul (pb_of pd_int) (pbv 2))) (pbv 2))) (pbv 2))) (pbv 2))) (pb_of pd_int))) (sd_one (sd_ret (pd_tup (ad_cons pd_int (ad_cons (pdv 6) (ad_cons (dMul (pbv 6) (pbv 6)) ad_nil)))))))))
theorem sc_wound : FnScope ["point", "triangles", "way", "found", "triangle", "a", "b", "c"] ["point", "triangles"] (defScope s_wound) := ⟨rfl, rfl, rfl, by decide +kernel, rfl, by decide +kernel, by decide +kernel⟩
theorem df_wound (T : Tx w base K mg) : Df P w K mg base 7 "wound" 2 F_wound := by
  obtain ⟨fd, Fn⟩ := T.d_wound
  refine df_mk Fn sc_wound T.g_wound (fun _ _ _ _ _ _ us hl => match us, hl with | [_, _], _ => rfl) fun cdv A outer s H E hr tk => ?_
  exact (sd_cons (sd_set (i := 2) sc_wound.nd (dCall (df_far_way T) hr (by decide) tk (ad_cons (pdv 0) (ad_cons (pdv 1) ad_nil)))) (sd_cons (sd_set (i := 3) sc_wound.nd pd_int) (sd_cons (sd_for (js := [4]) PassesOwn.leaving rfl (itS (pdv 1)) (gdN (i := 4) sc_wound.nd rfl (by first | exact Or.inl rfl | exact Or.inr rfl)) (sd_one (sd_if (tNotN (pb_of (dCall (df_meets_triangle T) hr (by decide) tk (ad_cons (pd_tup (ad_cons (pdv 0) (ad_cons (pdv 2) ad_nil))) (ad_cons (pdv 4) ad_nil)))) (pb_of pd_non)) (sd_cons (sd_asg (pdv 4) (gdT (n := 3) rfl (gds_cons (gdN (i := 5) sc_wound.nd rfl (by first | exact Or.inl rfl | exact Or.inr rfl)) (gds_cons (gdN (i := 6) sc_wound.nd rfl (by first | exact Or.inl rfl | exact Or.inr rfl)) (gds_cons (gdN (i := 7) sc_wound.nd rfl (by first | exact Or.inl rfl | exact Or.inr rfl)) gds_nil))))) (sd_one (sd_set (i := 3) sc_wound.nd (dAdd (pbv 3) (pb_of (dCall (df_sign T) hr (by decide) tk (ad_cons (dCall (df_dot T) hr (by decide) tk (ad_cons (dCall (df_cross T) hr (by decide) tk (ad_cons (dCall (df_minus T) hr (by decide) tk (ad_cons (pdv 6) (ad_cons (pdv 5) ad_nil))) (ad_cons (dCall (df_minus T) hr (by decide) tk (ad_cons (pdv 7) (ad_cons (pdv 5) ad_nil))) ad_nil))) (ad_cons (pdv 2) ad_nil))) ad_nil))))))) sd_nil))) (sd_one (sd_ret (pdv 3))))))
theorem sc_place_of : FnScope ["point", "triangles"] ["point", "triangles"] (defScope s_place_of) := ⟨rfl, rfl, rfl, by decide +kernel, rfl, by decide +kernel, by decide +kernel⟩
theorem df_place_of (T : Tx w base K mg) : Df P w K mg base 8 "place_of" 2 F_place_of := by
  obtain ⟨fd, Fn⟩ := T.d_place_of
  refine df_mk Fn sc_place_of T.g_place_of (fun _ _ _ _ _ _ us hl => match us, hl with | [_, _], _ => rfl) fun cdv A outer s H E hr tk => ?_
  exact (sd_cons (sd_if (td_not (td_val (dCall (df_is_closed T) hr (by decide) tk (ad_cons (pdv 1) ad_nil)))) (sd_one (sd_raise tk T.x_NotClosed)) sd_nil) (sd_cons (sd_if (td_val (dCall (df_is_on T) hr (by decide) tk (ad_cons (pdv 0) (ad_cons (pdv 1) ad_nil)))) (sd_one (sd_ret pd_int)) sd_nil) (sd_one (sd_ret (pd_if (tNe hr (pb_of (dCall (df_wound T) hr (by decide) tk (ad_cons (pdv 0) (ad_cons (pdv 1) ad_nil)))) (pb_of pd_int)) pd_int (dNeg (pb_of pd_int)))))))
theorem sc_l_cell : FnScope ["_law_script", "_law_k"] ["_law_script", "_law_k"] (defScope s_l_cell) := ⟨rfl, rfl, rfl, by decide +kernel, rfl, by decide +kernel, by decide +kernel⟩
theorem df_l_cell (T : Tx w base K mg) : Df P w K mg base 1 "_law_cell" 2 F_l_cell := by
  obtain ⟨fd, Fn⟩ := T.d_l_cell
  refine df_mk Fn sc_l_cell T.g_l_cell (fun _ _ _ _ _ _ us hl => match us, hl with | [_, _], _ => rfl) fun cdv A outer s H E hr tk => ?_
  exact (sd_cons (sd_if (tEq hr (pbv 0) (pb_of (pd_new (pn_lst ad_nil)))) (sd_one (sd_ret (dMul (pbv 1) (pb_of pd_int)))) sd_nil) (sd_one (sd_ret (dAdd (pb_of (dIx (pbv 0) (pb_of (dMod (pbv 1) (pb_of (dLen T.f_len (pbv 0))))))) (pb_of (dMul (pb_of (dDiv (pbv 1) (pb_of (dLen T.f_len (pbv 0))))) (pb_of pd_int)))))))
theorem sc_l_drawn : FnScope ["_law_cell_here", "_law_k", "_law_more"] ["_law_cell_here", "_law_k"] (defScope s_l_drawn) := ⟨rfl, rfl, rfl, by decide +kernel, rfl, by decide +kernel, by decide +kernel⟩
theorem df_l_drawn (T : Tx w base K mg) : Df P w K mg base 1 "_law_drawn" 2 F_l_drawn := by
  obtain ⟨fd, Fn⟩ := T.d_l_drawn
  refine df_mk Fn sc_l_drawn T.g_l_drawn (fun _ _ _ _ _ _ us hl => match us, hl with | [_, _], _ => rfl) fun cdv A outer s H E hr tk => ?_
  exact (sd_cons (sd_set (i := 2) sc_l_drawn.nd (dMod (pb_of (dAdd (pb_of (dMul (pbv 0) (pb_of pd_int))) (pb_of (dMul (pb_of (dAdd (pbv 1) (pb_of pd_int))) (pb_of pd_int))))) (pb_of pd_int))) (sd_one (sd_ret (dMod (pb_of (dMul (pbv 2) (pbv 2))) (pb_of pd_int)))))
theorem sc_l_whole : FnScope ["_law_thing"] ["_law_thing"] (defScope s_l_whole) := ⟨rfl, rfl, rfl, by decide +kernel, rfl, by decide +kernel, by decide +kernel⟩
theorem df_l_whole (T : Tx w base K mg) : Df P w K mg base 1 "_law_whole" 1 F_l_whole := by
  obtain ⟨fd, Fn⟩ := T.d_l_whole
  refine df_mk Fn sc_l_whole T.g_l_whole (fun _ _ _ _ _ _ us hl => match us, hl with | [_], _ => rfl) fun cdv A outer s H E hr tk => ?_
  exact (sd_one (sd_ret (pd_and (dIsi (T := "int") (Ty := "int") T.f_isinstance T.f_int (pbv 0)) (pd_one (pd_not (dIsi (T := "bool") (Ty := "bool") T.f_isinstance T.f_bool (pbv 0)))))))
theorem sc_l_spot : FnScope ["_law_more"] ["_law_more"] (defScope s_l_spot) := ⟨rfl, rfl, rfl, by decide +kernel, rfl, by decide +kernel, by decide +kernel⟩
theorem df_l_spot (T : Tx w base K mg) : Df P w K mg base 1 "_law_spot" 1 F_l_spot := by
  obtain ⟨fd, Fn⟩ := T.d_l_spot
  refine df_mk Fn sc_l_spot T.g_l_spot (fun _ _ _ _ _ _ us hl => match us, hl with | [_], _ => rfl) fun cdv A outer s H E hr tk => ?_
  exact (sd_one (sd_ret (pd_tup (ad_cons (dSub (pb_of (dMod (pbv 0) (pb_of pd_int))) (pb_of pd_int)) (ad_cons (dSub (pb_of (dMod (pb_of (dDiv (pbv 0) (pb_of pd_int))) (pb_of pd_int))) (pb_of pd_int)) (ad_cons (dSub (pb_of (dMod (pb_of (dDiv (pbv 0) (pb_of pd_int))) (pb_of pd_int))) (pb_of pd_int)) ad_nil))))))
theorem sc_l_put : FnScope ["_law_point_here", "_law_cell_here", "_law_scale"] ["_law_point_here", "_law_cell_here"] (defScope s_l_put) := ⟨rfl, rfl, rfl, by decide +kernel, rfl, by decide +kernel, by decide +kernel⟩
theorem df_l_put (T : Tx w base K mg) : Df P w K mg base 1 "_law_put" 2 F_l_put := by
  obtain ⟨fd, Fn⟩ := T.d_l_put
  refine df_mk Fn sc_l_put T.g_l_put (fun _ _ _ _ _ _ us hl => match us, hl with | [_, _], _ => rfl) fun cdv A outer s H E hr tk => ?_
  exact (sd_cons (sd_if (tEq hr (pb_of (dMod (pbv 1) (pb_of pd_int))) (pb_of pd_int)) (sd_one (sd_ret (pdv 0))) sd_nil) (sd_cons (sd_set (i := 2) sc_l_put.nd (dAdd (pb_of pd_int) (pb_of (dMod (pbv 1) (pb_of (dShl (pb_of pd_int) (pb_of pd_int))))))) (sd_one (sd_ret (pd_tup (ad_cons (dAdd (pb_of (dMul (pb_of (dIx (pbv 0) (pb_of pd_int))) (pbv 2))) (pb_of (dMod (pbv 1) (pb_of pd_int)))) (ad_cons (dSub (pb_of (dMul (pb_of (dIx (pbv 0) (pb_of pd_int))) (pbv 2))) (pb_of (dMod (pbv 1) (pb_of pd_int)))) (ad_cons (dAdd (pb_of (dMul (pb_of (dIx (pbv 0) (pb_of pd_int))) (pbv 2))) (pb_of pd_int)) ad_nil))))))))
theorem sc_l_face : FnScope ["_law_box", "_law_k", "_law_side", "_law_i", "_law_j", "_law_four", "_law_one", "_law_other", "_law_corner"] ["_law_box", "_law_k", "_law_side"] (defScope s_l_face) := ⟨rfl, rfl, rfl, by decide +kernel, rfl, by decide +kernel, by decide +kernel⟩
theorem df_l_face (T : Tx w base K mg) : Df P w K mg base 1 "_law_face" 3 F_l_face := by
  obtain ⟨fd, Fn⟩ := T.d_l_face
  refine df_mk Fn sc_l_face T.g_l_face (fun _ _ _ _ _ _ us hl => match us, hl with | [_, _, _], _ => rfl) fun cdv A outer s H E hr tk => ?_
  exact (sd_cons (sd_set (i := 3) sc_l_face.nd (dMod (pb_of (dAdd (pbv 1) (pb_of pd_int))) (pb_of pd_int))) (sd_cons (sd_set (i := 4) sc_l_face.nd (dMod (pb_of (dAdd (pbv 1) (pb_of pd_int))) (pb_of pd_int))) (sd_cons (sd_setO (i := 5) sc_l_face.nd (pn_lst ad_nil)) (sd_cons (sd_for (js := [6, 7]) PassesOwn.leaving rfl (itS (pd_new (pn_lst (ad_cons (pd_tup (ad_cons pd_int (ad_cons pd_int ad_nil))) (ad_cons (pd_tup (ad_cons pd_int (ad_cons pd_int ad_nil))) (ad_cons (pd_tup (ad_cons pd_int (ad_cons pd_int ad_nil))) (ad_cons (pd_tup (ad_cons pd_int (ad_cons pd_int ad_nil))) ad_nil))))))) (gdT (n := 2) rfl (gds_cons (gdN (i := 6) sc_l_face.nd rfl (by first | exact Or.inl rfl | exact Or.inr rfl)) (gds_cons (gdN (i := 7) sc_l_face.nd rfl (by first | exact Or.inl rfl | exact Or.inr rfl)) gds_nil))) (sd_cons (sd_setO (i := 8) sc_l_face.nd (pn_lst (ad_cons pd_int (ad_cons pd_int (ad_cons pd_int ad_nil))))) (sd_cons (sd_item 8 (pbv 1) (dIx (pb_of (dIx (pbv 0) (pbv 2))) (pbv 1))) (sd_cons (sd_item 8 (pbv 3) (dIx (pb_of (dIx (pbv 0) (pbv 6))) (pbv 3))) (sd_cons (sd_item 8 (pbv 4) (dIx (pb_of (dIx (pbv 0) (pbv 7))) (pbv 4))) (sd_one (sd_append 5 (dTuple T.f_tuple (pbv 8))))))))) (sd_one (sd_ret (pd_new (pn_lst (ad_cons (pd_tup (ad_cons (dIx (pbv 5) (pb_of pd_int)) (ad_cons (dIx (pbv 5) (pb_of pd_int)) (ad_cons (dIx (pbv 5) (pb_of pd_int)) ad_nil)))) (ad_cons (pd_tup (ad_cons (dIx (pbv 5) (pb_of pd_int)) (ad_cons (dIx (pbv 5) (pb_of pd_int)) (ad_cons (dIx (pbv 5) (pb_of pd_int)) ad_nil)))) ad_nil))))))))))
theorem sc_l_skin : FnScope ["_law_box", "_law_about", "_law_made", "_law_n", "_law_a", "_law_b", "_law_c"] ["_law_box", "_law_about"] (defScope s_l_skin) := ⟨rfl, rfl, rfl, by decide +kernel, rfl, by decide +kernel, by decide +kernel⟩
theorem df_l_skin (T : Tx w base K mg) : Df P w K mg base 2 "_law_skin" 2 F_l_skin := by
  obtain ⟨fd, Fn⟩ := T.d_l_skin
  refine df_mk Fn sc_l_skin T.g_l_skin (fun _ _ _ _ _ _ us hl => match us, hl with | [_, _], _ => rfl) fun cdv A outer s H E hr tk => ?_
  exact (sd_cons (sd_setO (i := 2) sc_l_skin.nd (pn_lst ad_nil)) (sd_cons (sd_for (js := [3]) PassesOwn.leaving rfl (itRS T.f_range (pb_of pd_int)) (gdN (i := 3) sc_l_skin.nd rfl (by first | exact Or.inl rfl | exact Or.inr rfl)) (sd_one (sd_for (js := [4, 5, 6]) PassesOwn.leaving rfl (itS (dCall (df_l_face T) hr (by decide) tk (ad_cons (pdv 0) (ad_cons (dDiv (pbv 3) (pb_of pd_int)) (ad_cons (dMod (pbv 3) (pb_of pd_int)) ad_nil))))) (gdT (n := 3) rfl (gds_cons (gdN (i := 4) sc_l_skin.nd rfl (by first | exact Or.inl rfl | exact Or.inr rfl)) (gds_cons (gdN (i := 5) sc_l_skin.nd rfl (by first | exact Or.inl rfl | exact Or.inr rfl)) (gds_cons (gdN (i := 6) sc_l_skin.nd rfl (by first | exact Or.inl rfl | exact Or.inr rfl)) gds_nil)))) (sd_one (sd_if (tNe hr (pb_of (dEq hr (pb_of (dMod (pbv 3) (pb_of pd_int))) (pb_of pd_int))) (pbv 1)) (sd_one (sd_append 2 (pd_tup (ad_cons (pdv 4) (ad_cons (pdv 6) (ad_cons (pdv 5) ad_nil)))))) (sd_one (sd_append 2 (pd_tup (ad_cons (pdv 4) (ad_cons (pdv 5) (ad_cons (pdv 6) ad_nil))))))))))) (sd_one (sd_retV 2))))
theorem sc_l_closed : FnScope ["_law_triangles", "_law_pairs", "_law_a", "_law_b", "_law_c", "_law_pair"] ["_law_triangles"] (defScope s_l_closed) := ⟨rfl, rfl, rfl, by decide +kernel, rfl, by decide +kernel, by decide +kernel⟩
theorem df_l_closed (T : Tx w base K mg) : Df P w K mg base 1 "_law_closed" 1 F_l_closed := by
  obtain ⟨fd, Fn⟩ := T.d_l_closed
  refine df_mk Fn sc_l_closed T.g_l_closed (fun _ _ _ _ _ _ us hl => match us, hl with | [_], _ => rfl) fun cdv A outer s H E hr tk => ?_
  exact (sd_cons (sd_set (i := 1) sc_l_closed.nd (pd_new (pn_lst ad_nil))) (sd_cons (sd_for (js := [2, 3, 4]) PassesOwn.leaving rfl (itS (pdv 0)) (gdT (n := 3) rfl (gds_cons (gdN (i := 2) sc_l_closed.nd rfl (by first | exact Or.inl rfl | exact Or.inr rfl)) (gds_cons (gdN (i := 3) sc_l_closed.nd rfl (by first | exact Or.inl rfl | exact Or.inr rfl)) (gds_cons (gdN (i := 4) sc_l_closed.nd rfl (by first | exact Or.inl rfl | exact Or.inr rfl)) gds_nil)))) (sd_one (sd_set (i := 1) sc_l_closed.nd (dAdd (pbv 1) (pb_of (pd_new (pn_lst (ad_cons (pd_tup (ad_cons (pdv 2) (ad_cons (pdv 3) ad_nil))) (ad_cons (pd_tup (ad_cons (pdv 3) (ad_cons (pdv 4) ad_nil))) (ad_cons (pd_tup (ad_cons (pdv 4) (ad_cons (pdv 2) ad_nil))) ad_nil)))))))))) (sd_one (sd_ret (dAll T.f_all (pb_of (pd_new (pn_lc (own := [("_law_pair", 5)]) (js := [5]) rfl sc_l_closed.nd (itB (pbv 1)) (blkOk_by (by rfl)) (fun _ _ _ _ _ => (gdN (i := 5) sc_l_closed.nd rfl (by first | exact Or.inl rfl | exact Or.inr rfl))) (fun _ _ _ _ _ => tds_nil) (fun _ _ _ _ _ => (dEq hr (pb_of (pd_count hr (pbv 1) (pdv 5))) (pb_of (pd_count hr (pbv 1) (pd_tup (ad_cons (dIx (pbv 5) (pb_of pd_int)) (ad_cons (dIx (pbv 5) (pb_of pd_int)) ad_nil)))))))))))))))
theorem sc_l_edited : FnScope ["_law_triangles", "_law_more", "_law_made", "_law_at", "_law_a", "_law_b", "_law_c"] ["_law_triangles", "_law_more"] (defScope s_l_edited) := ⟨rfl, rfl, rfl, by decide +kernel, rfl, by decide +kernel, by decide +kernel⟩
theorem df_l_edited (T : Tx w base K mg) : Df P w K mg base 1 "_law_edited" 2 F_l_edited := by
  obtain ⟨fd, Fn⟩ := T.d_l_edited
  refine df_mk Fn sc_l_edited T.g_l_edited (fun _ _ _ _ _ _ us hl => match us, hl with | [_, _], _ => rfl) fun cdv A outer s H E hr tk => ?_
  exact (sd_cons (sd_setO (i := 2) sc_l_edited.nd (nList T.f_list (pbv 0))) (sd_cons (sd_set (i := 3) sc_l_edited.nd (dMod (pb_of (dDiv (pbv 1) (pb_of pd_int))) (pb_of (dLen T.f_len (pbv 2))))) (sd_cons (sd_asg (dIx (pbv 2) (pbv 3)) (gdT (n := 3) rfl (gds_cons (gdN (i := 4) sc_l_edited.nd rfl (by first | exact Or.inl rfl | exact Or.inr rfl)) (gds_cons (gdN (i := 5) sc_l_edited.nd rfl (by first | exact Or.inl rfl | exact Or.inr rfl)) (gds_cons (gdN (i := 6) sc_l_edited.nd rfl (by first | exact Or.inl rfl | exact Or.inr rfl)) gds_nil))))) (sd_cons (sd_if (tEq hr (pb_of (dMod (pbv 1) (pb_of pd_int))) (pb_of pd_int)) (sd_one (sd_popAt 2 (pdv 3))) sd_nil) (sd_cons (sd_if (tEq hr (pb_of (dMod (pbv 1) (pb_of pd_int))) (pb_of pd_int)) (sd_one (sd_item 2 (pbv 3) (pd_tup (ad_cons (pdv 4) (ad_cons (pdv 6) (ad_cons (pdv 5) ad_nil)))))) sd_nil) (sd_cons (sd_if (tEq hr (pb_of (dMod (pbv 1) (pb_of pd_int))) (pb_of pd_int)) (sd_one (sd_item 2 (pbv 3) (pd_tup (ad_cons (pdv 5) (ad_cons (pdv 6) (ad_cons (pdv 4) ad_nil)))))) sd_nil) (sd_cons (sd_if (tEq hr (pb_of (dMod (pbv 1) (pb_of pd_int))) (pb_of pd_int)) (sd_one (sd_insert 2 (dMod (pb_of (dDiv (pbv 1) (pb_of pd_int))) (pb_of (dLen T.f_len (pbv 2)))) (pd_tup (ad_cons (pdv 4) (ad_cons (pdv 5) (ad_cons (pdv 6) ad_nil)))))) sd_nil) (sd_cons (sd_if (tEq hr (pb_of (dMod (pbv 1) (pb_of pd_int))) (pb_of pd_int)) (sd_one (sd_setO (i := 2) sc_l_edited.nd (nAdd (pbv 2) (pb_of (pd_new (pn_lst (ad_cons (pd_tup (ad_cons (pdv 4) (ad_cons (pdv 6) (ad_cons (pdv 5) ad_nil)))) (ad_cons (pd_tup (ad_cons (pdv 4) (ad_cons (pdv 5) (ad_cons (pdv 6) ad_nil)))) ad_nil)))))))) sd_nil) (sd_cons (sd_reverse 2) (sd_one (sd_retV 2)))))))))))
theorem sc_l_word : FnScope ["_law_e", "_law_flags"] ["_law_e"] (defScope s_l_word) := ⟨rfl, rfl, rfl, by decide +kernel, rfl, by decide +kernel, by decide +kernel⟩
theorem w_at {a c : Addr} {q : PySem.Str} {b : Bool} {x : Lc} : un (isED a b) (gb 0) [.d (.fn a c q [] []), x] = .ok (.bl b) := by
  show Rz.ofO (isED a b (.fn a c q [] [])) = _
  rw [isED_eq]
  rfl
theorem w_NoRay (a c : Addr) (q : PySem.Str) : g_l_word a true false false false (startE 2 [.fn a c q [] []]) = .ok (.rt (.str "NoRay")) := by
  have e0 : ∀ (b : Bool) (x : Lc), un (isED a b) (gb 0) [.d (.fn a c q [] []), x] = .ok (.bl b) := fun _ _ => w_at
  show g_l_word a true false false false [.d (.fn a c q [] []), .u] = _
  unfold g_l_word
  have h4 : (4 ≤ sizeLine) = True := eq_true (by decide +kernel)
  simp only [seqS, seqR, stS, exS, lstF, lsF, consF, nilF, Rz.bind, e0, List.set, ifS, orT, notT, tst, List.length_cons, List.length_nil, Nat.zero_add, Nat.reduceAdd, h4, if_true]
  kernel_rfl
theorem w_NoShape (a c : Addr) (q : PySem.Str) : g_l_word a false true false false (startE 2 [.fn a c q [] []]) = .ok (.rt (.str "NoShape")) := by
  have e0 : ∀ (b : Bool) (x : Lc), un (isED a b) (gb 0) [.d (.fn a c q [] []), x] = .ok (.bl b) := fun _ _ => w_at
  show g_l_word a false true false false [.d (.fn a c q [] []), .u] = _
  unfold g_l_word
  have h4 : (4 ≤ sizeLine) = True := eq_true (by decide +kernel)
  simp only [seqS, seqR, stS, exS, lstF, lsF, consF, nilF, Rz.bind, e0, List.set, ifS, orT, notT, tst, List.length_cons, List.length_nil, Nat.zero_add, Nat.reduceAdd, h4, if_true]
  kernel_rfl
theorem w_NotClosed (a c : Addr) (q : PySem.Str) : g_l_word a false false true false (startE 2 [.fn a c q [] []]) = .ok (.rt (.str "NotClosed")) := by
  have e0 : ∀ (b : Bool) (x : Lc), un (isED a b) (gb 0) [.d (.fn a c q [] []), x] = .ok (.bl b) := fun _ _ => w_at
  show g_l_word a false false true false [.d (.fn a c q [] []), .u] = _
  unfold g_l_word
  have h4 : (4 ≤ sizeLine) = True := eq_true (by decide +kernel)
  simp only [seqS, seqR, stS, exS, lstF, lsF, consF, nilF, Rz.bind, e0, List.set, ifS, orT, notT, tst, List.length_cons, List.length_nil, Nat.zero_add, Nat.reduceAdd, h4, if_true]
  kernel_rfl
theorem bd_l_word (T : Tx w base K mg) {c : Str} {b0 b1 b2 b3 : Bool} (Z : ErrC K "HitError" [("NoRay", b0), ("NoShape", b1), ("NotClosed", b2), ("BadRow", b3), ("HitError", true)] c) {cdv : Value} {A : Around} {outer : List Env} {s : Shared} {H : Hp} {a : Addr} {oe : Obj} (hz : Zc (.ref (He.ga K c)) none oe) (hf : ∃ vs, oe.data = .fields vs)
    (hu : (A.deeper (envOfC "_law_word" (defScope s_l_word) s.heap.objs.size (He.ga K "_law_word") cdv)).units + 65 < cLine) : SDs (L2H.cxH C8.CX0 P w K mg base ["_law_e", "_law_flags"] "_law_word" (defScope s_l_word) (He.ga K "_law_word") cdv A outer s H C8.E0 (a, oe)) W0 (defBody s_l_word) (g_l_word a b0 b1 b2 b3) := by
  exact (sd_cons (sd_set (i := 1) sc_l_word.nd (pd_new (pn_lst (ad_cons (dIsE (cv := .ref (He.ga K "NoRay")) Z.cl List.mem_cons_self hz hf T.f_isinstance (pbv 0) (pe_glob rfl T.g_NoRay rfl (by decide)) ref_only (Z.at_ 0)) (ad_cons (dIsE (cv := .ref (He.ga K "NoShape")) Z.cl List.mem_cons_self hz hf T.f_isinstance (pbv 0) (pe_glob rfl T.g_NoShape rfl (by decide)) ref_only (Z.at_ 1)) (ad_cons (dIsE (cv := .ref (He.ga K "NotClosed")) Z.cl List.mem_cons_self hz hf T.f_isinstance (pbv 0) (pe_glob rfl T.g_NotClosed rfl (by decide)) ref_only (Z.at_ 2)) (ad_cons (dIsE (cv := .ref (He.ga K "BadRow")) Z.cl List.mem_cons_self hz hf T.f_isinstance (pbv 0) (pe_glob rfl T.g_BadRow rfl (by decide)) ref_only (Z.at_ 3)) ad_nil))))))) (sd_cons (sd_if (td_of (tw_or (tNeU hu (pb_of (pd_countU hu (pbv 1) pd_bl)) (pb_of pd_int)) (tw_or (td_not (td_val (dIsE (cv := .ref (He.ga K "HitError")) Z.cl List.mem_cons_self hz hf T.f_isinstance (pbv 0) (pe_glob rfl T.g_HitError rfl (by decide)) ref_only (Z.at_ 4)))) (tw_or1 (td_not (td_val (dIsE (cv := .ty "ValueError") Z.cl List.mem_cons_self hz hf T.f_isinstance (pbv 0) (pe_bltn rfl T.f_ValueError (by decide +kernel) rfl (by decide) (by decide)) ty_only Z.v))))))) (sd_one (sd_ret pd_str)) sd_nil) (sd_one (sd_ret (dIx (pb_of (pd_new (pn_lst (ad_cons pd_str (ad_cons pd_str (ad_cons pd_str (ad_cons pd_str ad_nil))))))) (pb_of (pd_indexU hu (pbv 1) pd_bl)))))))
theorem tw_l_word (T : Tx w base K mg) : TwOk P w K mg base 1 "HitError" "_law_word" [("NoRay", .str "NoRay"), ("NoShape", .str "NoShape"), ("NotClosed", .str "NotClosed")] := by
  obtain ⟨fd, Fn⟩ := T.d_l_word
  refine ⟨_, _, T.g_HitError, T.g_l_word, Fn.kp, fun c wd h => ?_⟩
  rcases lk_cons h with ⟨rfl, rfl⟩ | h
  · exact ⟨plain_str, _, T.g_NoRay, T.e_NoRay.h, wd_of Fn sc_l_word (fun _ _ _ _ _ _ us hl => match us, hl with | [_], _ => rfl) (fun cdv A outer s H Q a oe hz hf hr => bd_l_word T T.e_NoRay hz hf (by have := hr.un; omega)) w_NoRay⟩
  rcases lk_cons h with ⟨rfl, rfl⟩ | h
  · exact ⟨plain_str, _, T.g_NoShape, T.e_NoShape.h, wd_of Fn sc_l_word (fun _ _ _ _ _ _ us hl => match us, hl with | [_], _ => rfl) (fun cdv A outer s H Q a oe hz hf hr => bd_l_word T T.e_NoShape hz hf (by have := hr.un; omega)) w_NoShape⟩
  rcases lk_cons h with ⟨rfl, rfl⟩ | h
  · exact ⟨plain_str, _, T.g_NotClosed, T.e_NotClosed.h, wd_of Fn sc_l_word (fun _ _ _ _ _ _ us hl => match us, hl with | [_], _ => rfl) (fun cdv A outer s H Q a oe hz hf hr => bd_l_word T T.e_NotClosed hz hf (by have := hr.un; omega)) w_NotClosed⟩
  exact (lk_nil h).elim
theorem sc_l_told : FnScope ["_law_rule", "_law_e"] ["_law_rule"] (defScope s_l_told) := ⟨rfl, rfl, rfl, by decide +kernel, rfl, by decide +kernel, by decide +kernel⟩
theorem sc_l_boxes : FnScope ["_law_script", "_law_base", "_law_more", "_law_made", "_law_k", "_law_here", "_law_low", "_law_high", "_law_box"] ["_law_script"] (defScope s_l_boxes) := ⟨rfl, rfl, rfl, by decide +kernel, rfl, by decide +kernel, by decide +kernel⟩
theorem df_l_boxes (T : Tx w base K mg) : Df P w K mg base 2 "_law_boxes" 1 F_l_boxes := by
  obtain ⟨fd, Fn⟩ := T.d_l_boxes
  refine df_mk Fn sc_l_boxes T.g_l_boxes (fun _ _ _ _ _ _ us hl => match us, hl with | [_], _ => rfl) fun cdv A outer s H E hr tk => ?_
  exact (sd_cons (sd_set (i := 1) sc_l_boxes.nd (dCall (df_l_cell T) hr (by decide) tk (ad_cons (pdv 0) (ad_cons pd_int ad_nil)))) (sd_cons (sd_set (i := 2) sc_l_boxes.nd (dCall (df_l_drawn T) hr (by decide) tk (ad_cons (dCall (df_l_cell T) hr (by decide) tk (ad_cons (pdv 0) (ad_cons pd_int ad_nil))) (ad_cons pd_int ad_nil)))) (sd_cons (sd_setO (i := 3) sc_l_boxes.nd (pn_lst ad_nil)) (sd_cons (sd_for (js := [4]) PassesOwn.leaving rfl (itRS T.f_range (pb_of (dIx (pb_of (pd_new (pn_lst (ad_cons pd_int (ad_cons pd_int (ad_cons pd_int (ad_cons pd_int (ad_cons pd_int ad_nil)))))))) (pb_of (dMod (pbv 2) (pb_of pd_int)))))) (gdN (i := 4) sc_l_boxes.nd rfl (by first | exact Or.inl rfl | exact Or.inr rfl)) (sd_cons (sd_set (i := 5) sc_l_boxes.nd (dCall (df_l_drawn T) hr (by decide) tk (ad_cons (dCall (df_l_cell T) hr (by decide) tk (ad_cons (pdv 0) (ad_cons (dAdd (pbv 4) (pb_of pd_int)) ad_nil))) (ad_cons (pdv 4) ad_nil)))) (sd_cons (sd_set (i := 6) sc_l_boxes.nd (dCall (df_l_spot T) hr (by decide) tk (ad_cons (pdv 5) ad_nil))) (sd_cons (sd_set (i := 7) sc_l_boxes.nd (pd_tup (ad_cons (dAdd (pb_of (dIx (pbv 6) (pb_of pd_int))) (pb_of (dMod (pb_of (dDiv (pbv 5) (pb_of pd_int))) (pb_of pd_int)))) (ad_cons (dAdd (pb_of (dIx (pbv 6) (pb_of pd_int))) (pb_of (dMod (pb_of (dDiv (pbv 5) (pb_of pd_int))) (pb_of pd_int)))) (ad_cons (dAdd (pb_of (dIx (pbv 6) (pb_of pd_int))) (pb_of (dMod (pb_of (dDiv (pbv 5) (pb_of pd_int))) (pb_of pd_int)))) ad_nil))))) (sd_cons (sd_set (i := 8) sc_l_boxes.nd (pd_tup (ad_cons (dCall (df_l_put T) hr (by decide) tk (ad_cons (pdv 6) (ad_cons (pdv 1) ad_nil))) (ad_cons (dCall (df_l_put T) hr (by decide) tk (ad_cons (pdv 7) (ad_cons (pdv 1) ad_nil))) ad_nil)))) (sd_cons (sd_if (td_of (tw_and (tEq hr (pbv 4) (pb_of pd_int)) (tw_and1 (tEq hr (pb_of (dMod (pb_of (dDiv (pbv 2) (pb_of pd_int))) (pb_of pd_int))) (pb_of pd_int))))) (sd_one (sd_set (i := 8) sc_l_boxes.nd (dIx (pb_of (dIx (pbv 3) (pb_of pd_int))) (pb_of pd_int)))) sd_nil) (sd_one (sd_append 3 (pd_tup (ad_cons (pdv 8) (ad_cons (dEq hr (pb_of (dMod (pb_of (dDiv (pbv 5) (pb_of pd_int))) (pb_of pd_int))) (pb_of pd_int)) ad_nil))))))))))) (sd_one (sd_retV 3))))))
theorem sc_l_point : FnScope ["_law_box", "_law_here", "_law_point_here", "_law_n", "_law_half"] ["_law_box", "_law_here"] (defScope s_l_point) := ⟨rfl, rfl, rfl, by decide +kernel, rfl, by decide +kernel, by decide +kernel⟩
theorem df_l_point (T : Tx w base K mg) : Df P w K mg base 1 "_law_point" 2 F_l_point_2 := by
  obtain ⟨fd, Fn⟩ := T.d_l_point
  refine df_mk Fn sc_l_point T.g_l_point (fun _ _ _ _ _ _ us hl => match us, hl with | [_, _], _ => rfl) fun cdv A outer s H E hr tk => ?_
  exact (sd_cons (sd_setO (i := 2) sc_l_point.nd (pn_lst ad_nil)) (sd_cons (sd_for (js := [3]) PassesOwn.leaving rfl (itRS T.f_range (pb_of pd_int)) (gdN (i := 3) sc_l_point.nd rfl (by first | exact Or.inl rfl | exact Or.inr rfl)) (sd_cons (sd_set (i := 4) sc_l_point.nd (dDiv (pb_of (dAdd (pb_of (dIx (pb_of (dIx (pbv 0) (pb_of pd_int))) (pbv 3))) (pb_of (dIx (pb_of (dIx (pbv 0) (pb_of pd_int))) (pbv 3))))) (pb_of pd_int))) (sd_one (sd_append 2 (dIx (pb_of (pd_new (pn_lst (ad_cons (dIx (pb_of (dIx (pbv 0) (pb_of pd_int))) (pbv 3)) (ad_cons (dIx (pb_of (dIx (pbv 0) (pb_of pd_int))) (pbv 3)) (ad_cons (pdv 4) (ad_cons (pdv 4) (ad_cons (pdv 4) (ad_cons (dSub (pb_of (dIx (pb_of (dIx (pbv 0) (pb_of pd_int))) (pbv 3))) (pb_of pd_int)) ad_nil))))))))) (pb_of (dMod (pb_of (dDiv (pbv 1) (pb_of (dIx (pb_of (pd_new (pn_lst (ad_cons pd_int (ad_cons pd_int (ad_cons pd_int ad_nil)))))) (pbv 3))))) (pb_of pd_int)))))))) (sd_one (sd_ret (dTuple T.f_tuple (pbv 2))))))
theorem sc_l_due : FnScope ["_law_point_here", "_law_boxes_here", "_law_found", "_law_box", "_law_about", "_law_n"] ["_law_point_here", "_law_boxes_here"] (defScope s_l_due) := ⟨rfl, rfl, rfl, by decide +kernel, rfl, by decide +kernel, by decide +kernel⟩
theorem df_l_due (T : Tx w base K mg) : Df P w K mg base 1 "_law_due" 2 F_l_due_2 := by
  obtain ⟨fd, Fn⟩ := T.d_l_due
  refine df_mk Fn sc_l_due T.g_l_due (fun _ _ _ _ _ _ us hl => match us, hl with | [_, _], _ => rfl) fun cdv A outer s H E hr tk => ?_
  exact (sd_cons (sd_set (i := 2) sc_l_due.nd pd_int) (sd_cons (sd_for (js := [3, 4]) PassesOwn.leaving rfl (itS (pdv 1)) (gdT (n := 2) rfl (gds_cons (gdN (i := 3) sc_l_due.nd rfl (by first | exact Or.inl rfl | exact Or.inr rfl)) (gds_cons (gdN (i := 4) sc_l_due.nd rfl (by first | exact Or.inl rfl | exact Or.inr rfl)) gds_nil))) (sd_one (sd_if (td_val (dAll T.f_all (pb_of (pd_new (pn_lc (own := [("_law_n", 5)]) (js := [5]) rfl sc_l_due.nd (itR T.f_range (pb_of pd_int)) (blkOk_by (by rfl)) (fun _ _ _ _ _ => (gdN (i := 5) sc_l_due.nd rfl (by first | exact Or.inl rfl | exact Or.inr rfl))) (fun _ _ _ _ _ => tds_nil) (fun _ _ _ _ _ => (pd_and (dLt (pb_of (dIx (pb_of (dIx (pbv 3) (pb_of pd_int))) (pbv 5))) (pb_of (dIx (pbv 0) (pbv 5)))) (pd_one (dLt (pb_of (dIx (pbv 0) (pbv 5))) (pb_of (dIx (pb_of (dIx (pbv 3) (pb_of pd_int))) (pbv 5)))))))))))) (sd_one (sd_set (i := 2) sc_l_due.nd (dSub (pb_of (dAdd (pbv 2) (pb_of pd_int))) (pb_of (dMul (pb_of pd_int) (pb_of (dInt T.f_int (pbv 4)))))))) (sd_one (sd_if (td_val (dAll T.f_all (pb_of (pd_new (pn_lc (own := [("_law_n", 5)]) (js := [5]) rfl sc_l_due.nd (itR T.f_range (pb_of pd_int)) (blkOk_by (by rfl)) (fun _ _ _ _ _ => (gdN (i := 5) sc_l_due.nd rfl (by first | exact Or.inl rfl | exact Or.inr rfl))) (fun _ _ _ _ _ => tds_nil) (fun _ _ _ _ _ => (pd_and (dLe (pb_of (dIx (pb_of (dIx (pbv 3) (pb_of pd_int))) (pbv 5))) (pb_of (dIx (pbv 0) (pbv 5)))) (pd_one (dLe (pb_of (dIx (pbv 0) (pbv 5))) (pb_of (dIx (pb_of (dIx (pbv 3) (pb_of pd_int))) (pbv 5)))))))))))) (sd_one (sd_ret pd_int)) sd_nil))))) (sd_cons (sd_if (tEq hr (pbv 2) (pb_of pd_int)) (sd_one (sd_ret (dSub (pb_of pd_int) (pb_of pd_int)))) sd_nil) (sd_one (sd_ret pd_int)))))
theorem sc_law : FnScope ["_law_script", "_law_boxes_here", "_law_triangles", "_law_box", "_law_about", "_law_kept", "_law_k", "_law_here", "_law_point_here", "_law_told_here", "_law_other"] ["_law_script"] (defScope s_law) := ⟨rfl, rfl, rfl, by decide +kernel, rfl, by decide +kernel, by decide +kernel⟩
theorem law_df (T : Tx w base K mg) {fd : FuncData} (Fn : FunD K "law" "law" (defArgs s_law) (defBody s_law) (defScope s_law) [] [] (He.ga K "law") fd) : FnOk P w K mg base (L2.CX P w) 11 (He.ga K "law") fd ["_law_script"] (spD K mg 1 F_law_k22) := by
  obtain ⟨fd_l_told, Fn_l_told⟩ := T.d_l_told
  refine fnD_okC (p := ("law", none)) Fn sc_law fun A outer s H E hr tk => ?_
  exact (sd_cons (sd_set (i := 1) sc_law.nd (dCall (df_l_boxes T) hr (by decide) tk (ad_cons (pdv 0) ad_nil))) (sd_cons (sd_set (i := 2) sc_law.nd (pd_new (pn_lst ad_nil))) (sd_cons (sd_for (js := [3, 4]) PassesOwn.leaving rfl (itS (pdv 1)) (gdT (n := 2) rfl (gds_cons (gdN (i := 3) sc_law.nd rfl (by first | exact Or.inl rfl | exact Or.inr rfl)) (gds_cons (gdN (i := 4) sc_law.nd rfl (by first | exact Or.inl rfl | exact Or.inr rfl)) gds_nil))) (sd_one (sd_set (i := 2) sc_law.nd (dAdd (pbv 2) (pb_of (dCall (df_l_skin T) hr (by decide) tk (ad_cons (pdv 3) (ad_cons (pdv 4) ad_nil)))))))) (sd_cons (sd_set (i := 5) sc_law.nd (pd_new (nList T.f_list (pbv 2)))) (sd_cons (sd_for (js := [6]) PassesOwn.leaving rfl (itRS T.f_range (pb_of pd_int)) (gdN (i := 6) sc_law.nd rfl (by first | exact Or.inl rfl | exact Or.inr rfl)) (sd_cons (sd_set (i := 7) sc_law.nd (dCall (df_l_drawn T) hr (by decide) tk (ad_cons (dCall (df_l_cell T) hr (by decide) tk (ad_cons (pdv 0) (ad_cons (dAdd (pbv 6) (pb_of pd_int)) ad_nil))) (ad_cons (pdv 6) ad_nil)))) (sd_cons (sd_set (i := 8) sc_law.nd (dCall (df_l_point T) hr (by decide) tk (ad_cons (dIx (pb_of (dIx (pbv 1) (pb_of (dMod (pbv 7) (pb_of (dLen T.f_len (pbv 1))))))) (pb_of pd_int)) (ad_cons (dDiv (pbv 7) (pb_of pd_int)) ad_nil)))) (sd_cons (sd_set (i := 9) sc_law.nd (dCall (df_place_of T) hr (by decide) tk (ad_cons (pdv 8) (ad_cons (pdv 2) ad_nil)))) (sd_one (sd_if (td_of (tw_or (tNe hr (pbv 9) (pb_of (dCall (df_l_due T) hr (by decide) tk (ad_cons (pdv 8) (ad_cons (pdv 1) ad_nil))))) (tw_or (td_not (td_val (dCall (df_l_whole T) hr (by decide) tk (ad_cons (pdv 9) ad_nil)))) (tw_or1 (tNe hr (pbv 2) (pbv 5)))))) (sd_one (sd_ret pd_bl)) sd_nil)))))) (sd_cons (sd_set (i := 7) sc_law.nd (dCall (df_l_drawn T) hr (by decide) tk (ad_cons (dCall (df_l_cell T) hr (by decide) tk (ad_cons (pdv 0) (ad_cons pd_int ad_nil))) (ad_cons pd_int ad_nil)))) (sd_cons (sd_set (i := 10) sc_law.nd (dCall (df_l_edited T) hr (by decide) tk (ad_cons (dCall (df_l_skin T) hr (by decide) tk (ad_cons (dIx (pb_of (dIx (pbv 1) (pb_of pd_int))) (pb_of pd_int)) (ad_cons pd_bl ad_nil))) (ad_cons (dAdd (pb_of (dMul (pb_of (dDiv (pbv 7) (pb_of pd_int))) (pb_of pd_int))) (pb_of (dMod (pbv 7) (pb_of pd_int)))) ad_nil)))) (sd_cons (sd_if (td_val (dCall (df_l_closed T) hr (by decide) tk (ad_cons (pdv 10) ad_nil))) (sd_one (sd_ret pd_bl)) sd_nil) (sd_cons (sd_set (i := 8) sc_law.nd (dCall (df_l_point T) hr (by decide) tk (ad_cons (dIx (pb_of (dIx (pbv 1) (pb_of pd_int))) (pb_of pd_int)) (ad_cons (dDiv (pbv 7) (pb_of pd_int)) ad_nil)))) (sd_one (sd_ret (dEq hr (pb_of (pd_told (k := 8) (lw := 1) (wx := "_law_word") (tw := [("NoRay", .str "NoRay"), ("NoShape", .str "NoShape"), ("NotClosed", .str "NotClosed")]) (res := toldR) (gs := toldS) Fn_l_told T.g_l_told (fun _ _ _ _ _ _ us hl => match us, hl with | [_], _ => rfl) sc_l_told rfl (Or.inl rfl) rfl rfl (by decide) T.b_law rfl rfl T.m_law T.u_law (hr.mono (by decide)) (by decide) tk (LamX.lamS_by (by rfl)) (fun _ _ _ _ _ => rfl) (fun A outer s H E f c' hr tk => (dCall (df_place_of T) hr (by decide) tk (ad_cons (pdv 8) (ad_cons (pdv 10) ad_nil)))) (tw_l_word T) (fun cdg s H E a D fw oe pn wd hW pl hWm hWk hr hz hf => (sd_one (sd_ret (pd_tup (ad_cons pd_str (ad_cons (pd_word hW pl hWm hWk hr hz hf (pdv 1)) ad_nil)))))) told_res)) (pb_of (pd_tup (ad_cons pd_str (ad_cons pd_str ad_nil))))))))))))))))
end
def h_minus : He.DefD := ⟨("minus", none), "minus", "minus", defArgs s_minus, defBody s_minus, defScope s_minus, [], []⟩
def h_dot : He.DefD := ⟨("dot", none), "dot", "dot", defArgs s_dot, defBody s_dot, defScope s_dot, [], []⟩
def h_cross : He.DefD := ⟨("cross", none), "cross", "cross", defArgs s_cross, defBody s_cross, defScope s_cross, [], []⟩
def h_sign : He.DefD := ⟨("sign", none), "sign", "sign", defArgs s_sign, defBody s_sign, defScope s_sign, [], []⟩
def h_ratio : He.DefD := ⟨("ratio", none), "ratio", "ratio", defArgs s_ratio, defBody s_ratio, defScope s_ratio, [], []⟩
def h_is_less : He.DefD := ⟨("is_less", none), "is_less", "is_less", defArgs s_is_less, defBody s_is_less, defScope s_is_less, [], []⟩
def h_lesser : He.DefD := ⟨("lesser", none), "lesser", "lesser", defArgs s_lesser, defBody s_lesser, defScope s_lesser, [], []⟩
def h_turn : He.DefD := ⟨("turn", none), "turn", "turn", defArgs s_turn, defBody s_turn, defScope s_turn, [], []⟩
def h_along : He.DefD := ⟨("along", none), "along", "along", defArgs s_along, defBody s_along, defScope s_along, [], []⟩
def h_on_line : He.DefD := ⟨("on_line", none), "on_line", "on_line", defArgs s_on_line, defBody s_on_line, defScope s_on_line, [], []⟩
def h_meets_segment : He.DefD := ⟨("meets_segment", none), "meets_segment", "meets_segment", defArgs s_meets_segment, defBody s_meets_segment, defScope s_meets_segment, [], []⟩
def h_is_within : He.DefD := ⟨("is_within", none), "is_within", "is_within", defArgs s_is_within, defBody s_is_within, defScope s_is_within, [], []⟩
def h_meets_flat : He.DefD := ⟨("meets_flat", none), "meets_flat", "meets_flat", defArgs s_meets_flat, defBody s_meets_flat, defScope s_meets_flat, [], []⟩
def h_meets_triangle : He.DefD := ⟨("meets_triangle", none), "meets_triangle", "meets_triangle", defArgs s_meets_triangle, defBody s_meets_triangle, defScope s_meets_triangle, [], []⟩
def h_edges : He.DefD := ⟨("edges", none), "edges", "edges", defArgs s_edges, defBody s_edges, defScope s_edges, [], []⟩
def h_is_closed : He.DefD := ⟨("is_closed", none), "is_closed", "is_closed", defArgs s_is_closed, defBody s_is_closed, defScope s_is_closed, [], []⟩
def h_is_on : He.DefD := ⟨("is_on", none), "is_on", "is_on", defArgs s_is_on, defBody s_is_on, defScope s_is_on, [], []⟩
def h_far_way : He.DefD := ⟨("far_way", none), "far_way", "far_way", defArgs s_far_way, defBody s_far_way, defScope s_far_way, [], []⟩
def h_wound : He.DefD := ⟨("wound", none), "wound", "wound", defArgs s_wound, defBody s_wound, defScope s_wound, [], []⟩
def h_place_of : He.DefD := ⟨("place_of", none), "place_of", "place_of", defArgs s_place_of, defBody s_place_of, defScope s_place_of, [], []⟩
def h_l_cell : He.DefD := ⟨("_law_cell", none), "_law_cell", "_law_cell", defArgs s_l_cell, defBody s_l_cell, defScope s_l_cell, [], []⟩
def h_l_drawn : He.DefD := ⟨("_law_drawn", none), "_law_drawn", "_law_drawn", defArgs s_l_drawn, defBody s_l_drawn, defScope s_l_drawn, [], []⟩
def h_l_whole : He.DefD := ⟨("_law_whole", none), "_law_whole", "_law_whole", defArgs s_l_whole, defBody s_l_whole, defScope s_l_whole, [], []⟩
def h_l_spot : He.DefD := ⟨("_law_spot", none), "_law_spot", "_law_spot", defArgs s_l_spot, defBody s_l_spot, defScope s_l_spot, [], []⟩
def h_l_put : He.DefD := ⟨("_law_put", none), "_law_put", "_law_put", defArgs s_l_put, defBody s_l_put, defScope s_l_put, [], []⟩
def h_l_face : He.DefD := ⟨("_law_face", none), "_law_face", "_law_face", defArgs s_l_face, defBody s_l_face, defScope s_l_face, [], []⟩
def h_l_skin : He.DefD := ⟨("_law_skin", none), "_law_skin", "_law_skin", defArgs s_l_skin, defBody s_l_skin, defScope s_l_skin, [], []⟩
def h_l_closed : He.DefD := ⟨("_law_closed", none), "_law_closed", "_law_closed", defArgs s_l_closed, defBody s_l_closed, defScope s_l_closed, [], []⟩
def h_l_edited : He.DefD := ⟨("_law_edited", none), "_law_edited", "_law_edited", defArgs s_l_edited, defBody s_l_edited, defScope s_l_edited, [], []⟩
def h_l_word : He.DefD := ⟨("_law_word", none), "_law_word", "_law_word", defArgs s_l_word, defBody s_l_word, defScope s_l_word, [], []⟩
def h_l_told : He.DefD := ⟨("_law_told", none), "_law_told", "_law_told", defArgs s_l_told, defBody s_l_told, defScope s_l_told, [], []⟩
def h_l_boxes : He.DefD := ⟨("_law_boxes", none), "_law_boxes", "_law_boxes", defArgs s_l_boxes, defBody s_l_boxes, defScope s_l_boxes, [], []⟩
def h_l_point : He.DefD := ⟨("_law_point", none), "_law_point", "_law_point", defArgs s_l_point, defBody s_l_point, defScope s_l_point, [], []⟩
def h_l_due : He.DefD := ⟨("_law_due", none), "_law_due", "_law_due", defArgs s_l_due, defBody s_l_due, defScope s_l_due, [], []⟩
def h_law : He.DefD := ⟨("law", none), "law", "law", defArgs s_law, defBody s_law, defScope s_law, [], []⟩
def fn : List He.DefD := h_minus :: h_dot :: h_cross :: h_sign :: h_ratio :: h_is_less :: h_lesser :: h_turn :: h_along :: h_on_line :: h_meets_segment :: h_is_within :: h_meets_flat :: h_meets_triangle :: h_edges :: h_is_closed :: h_is_on :: h_far_way :: h_wound :: h_place_of :: h_l_cell :: h_l_drawn :: h_l_whole :: h_l_spot :: h_l_put :: h_l_face :: h_l_skin :: h_l_closed :: h_l_edited :: h_l_word :: h_l_told :: h_l_boxes :: h_l_point :: h_l_due :: h_law :: []
def fa : List He.Fa := .free "ValueError" :: .free "abs" :: .free "all" :: .free "any" :: .free "bool" :: .free "int" :: .free "isinstance" :: .free "len" :: .free "list" :: .free "max" :: .free "range" :: .free "tuple" :: .glo "NotClosed" :: .exc "NotClosed" :: .glo "NoRay" :: .glo "NoShape" :: .glo "NotClosed" :: .glo "BadRow" :: .glo "HitError" :: .glo "ZERO" :: .glo "minus" :: .glo "dot" :: .glo "cross" :: .glo "sign" :: .glo "ratio" :: .glo "is_less" :: .glo "lesser" :: .glo "turn" :: .glo "along" :: .glo "on_line" :: .glo "meets_segment" :: .glo "is_within" :: .glo "meets_flat" :: .glo "meets_triangle" :: .glo "edges" :: .glo "is_closed" :: .glo "is_on" :: .glo "far_way" :: .glo "wound" :: .glo "place_of" :: .glo "_law_cell" :: .glo "_law_drawn" :: .glo "_law_whole" :: .glo "_law_spot" :: .glo "_law_put" :: .glo "_law_face" :: .glo "_law_skin" :: .glo "_law_closed" :: .glo "_law_edited" :: .glo "_law_word" :: .glo "_law_told" :: .glo "_law_boxes" :: .glo "_law_point" :: .glo "_law_due" :: .glo "law" :: []
def ts : List (He.Defn × Str) := [(("law", none), (("law" : Str) ++ (".<locals>." : Str) ++ ("<lambda>" : Str)))]
def tf : List He.Defn := [("law", none)]
def xs : List (PySem.W.Frag → Bool) := [apart tf, errX "HitError" [("NoRay", true), ("NoShape", false), ("NotClosed", false), ("BadRow", false), ("HitError", true)] "NoRay", errX "HitError" [("NoRay", false), ("NoShape", true), ("NotClosed", false), ("BadRow", false), ("HitError", true)] "NoShape", errX "HitError" [("NoRay", false), ("NoShape", false), ("NotClosed", true), ("BadRow", false), ("HitError", true)] "NotClosed", tupX "ZERO" [0, 0, 0]]
theorem tx_of {w : World} {K : PySem.W.Frag} {h base : Heap} {mg : Str → Option Value} (X : K.In h) (G : h.Ns mainGlobals mg) (cx : exOf xs K = true) (c : He.SaysD fa fn K) (tb : ∀ p ∈ tf, LamX.TabB base mg (He.cT K p).1 (He.cT K p).2) : @Tx ⟨tabsOf K ts, w⟩ w base K mg := by
  letI : TbC := ⟨tabsOf K ts, w⟩
  have nd : ((ts.map (·.1)).map fun p => (He.cT K p).2).Nodup := of_decide_eq_true (exOf_at cx 0)
  exact {
    hw := rfl
    f_ValueError := He.free_ok X G (c.fact 0)
    f_abs := He.free_ok X G (c.fact 1)
    f_all := He.free_ok X G (c.fact 2)
    f_any := He.free_ok X G (c.fact 3)
    f_bool := He.free_ok X G (c.fact 4)
    f_int := He.free_ok X G (c.fact 5)
    f_isinstance := He.free_ok X G (c.fact 6)
    f_len := He.free_ok X G (c.fact 7)
    f_list := He.free_ok X G (c.fact 8)
    f_max := He.free_ok X G (c.fact 9)
    f_range := He.free_ok X G (c.fact 10)
    f_tuple := He.free_ok X G (c.fact 11)
    x_NotClosed := excF_of X G (c.fact 12) (c.fact 13)
    g_NoRay := He.glo_ok X G (c.fact 14)
    g_NoShape := He.glo_ok X G (c.fact 15)
    g_NotClosed := He.glo_ok X G (c.fact 16)
    g_BadRow := He.glo_ok X G (c.fact 17)
    g_HitError := He.glo_ok X G (c.fact 18)
    e_NoRay := errX_ok (exOf_at cx 1)
    e_NoShape := errX_ok (exOf_at cx 2)
    e_NotClosed := errX_ok (exOf_at cx 3)
    g_ZERO := He.glo_ok X G (c.fact 19)
    t_ZERO := tupX_ok (exOf_at cx 4)
    g_minus := He.glo_ok X G (c.fact 20)
    d_minus := c.def_ 0 (d := h_minus) rfl
    g_dot := He.glo_ok X G (c.fact 21)
    d_dot := c.def_ 1 (d := h_dot) rfl
    g_cross := He.glo_ok X G (c.fact 22)
    d_cross := c.def_ 2 (d := h_cross) rfl
    g_sign := He.glo_ok X G (c.fact 23)
    d_sign := c.def_ 3 (d := h_sign) rfl
    g_ratio := He.glo_ok X G (c.fact 24)
    d_ratio := c.def_ 4 (d := h_ratio) rfl
    g_is_less := He.glo_ok X G (c.fact 25)
    d_is_less := c.def_ 5 (d := h_is_less) rfl
    g_lesser := He.glo_ok X G (c.fact 26)
    d_lesser := c.def_ 6 (d := h_lesser) rfl
    g_turn := He.glo_ok X G (c.fact 27)
    d_turn := c.def_ 7 (d := h_turn) rfl
    g_along := He.glo_ok X G (c.fact 28)
    d_along := c.def_ 8 (d := h_along) rfl
    g_on_line := He.glo_ok X G (c.fact 29)
    d_on_line := c.def_ 9 (d := h_on_line) rfl
    g_meets_segment := He.glo_ok X G (c.fact 30)
    d_meets_segment := c.def_ 10 (d := h_meets_segment) rfl
    g_is_within := He.glo_ok X G (c.fact 31)
    d_is_within := c.def_ 11 (d := h_is_within) rfl
    g_meets_flat := He.glo_ok X G (c.fact 32)
    d_meets_flat := c.def_ 12 (d := h_meets_flat) rfl
    g_meets_triangle := He.glo_ok X G (c.fact 33)
    d_meets_triangle := c.def_ 13 (d := h_meets_triangle) rfl
    g_edges := He.glo_ok X G (c.fact 34)
    d_edges := c.def_ 14 (d := h_edges) rfl
    g_is_closed := He.glo_ok X G (c.fact 35)
    d_is_closed := c.def_ 15 (d := h_is_closed) rfl
    g_is_on := He.glo_ok X G (c.fact 36)
    d_is_on := c.def_ 16 (d := h_is_on) rfl
    g_far_way := He.glo_ok X G (c.fact 37)
    d_far_way := c.def_ 17 (d := h_far_way) rfl
    g_wound := He.glo_ok X G (c.fact 38)
    d_wound := c.def_ 18 (d := h_wound) rfl
    g_place_of := He.glo_ok X G (c.fact 39)
    d_place_of := c.def_ 19 (d := h_place_of) rfl
    g_l_cell := He.glo_ok X G (c.fact 40)
    d_l_cell := c.def_ 20 (d := h_l_cell) rfl
    g_l_drawn := He.glo_ok X G (c.fact 41)
    d_l_drawn := c.def_ 21 (d := h_l_drawn) rfl
    g_l_whole := He.glo_ok X G (c.fact 42)
    d_l_whole := c.def_ 22 (d := h_l_whole) rfl
    g_l_spot := He.glo_ok X G (c.fact 43)
    d_l_spot := c.def_ 23 (d := h_l_spot) rfl
    g_l_put := He.glo_ok X G (c.fact 44)
    d_l_put := c.def_ 24 (d := h_l_put) rfl
    g_l_face := He.glo_ok X G (c.fact 45)
    d_l_face := c.def_ 25 (d := h_l_face) rfl
    g_l_skin := He.glo_ok X G (c.fact 46)
    d_l_skin := c.def_ 26 (d := h_l_skin) rfl
    g_l_closed := He.glo_ok X G (c.fact 47)
    d_l_closed := c.def_ 27 (d := h_l_closed) rfl
    g_l_edited := He.glo_ok X G (c.fact 48)
    d_l_edited := c.def_ 28 (d := h_l_edited) rfl
    g_l_word := He.glo_ok X G (c.fact 49)
    d_l_word := c.def_ 29 (d := h_l_word) rfl
    g_l_told := He.glo_ok X G (c.fact 50)
    d_l_told := c.def_ 30 (d := h_l_told) rfl
    g_l_boxes := He.glo_ok X G (c.fact 51)
    d_l_boxes := c.def_ 31 (d := h_l_boxes) rfl
    g_l_point := He.glo_ok X G (c.fact 52)
    d_l_point := c.def_ 32 (d := h_l_point) rfl
    g_l_due := He.glo_ok X G (c.fact 53)
    d_l_due := c.def_ 33 (d := h_l_due) rfl
    g_law := He.glo_ok X G (c.fact 54)
    d_law := c.def_ 34 (d := h_law) rfl
    b_law := tb ("law", none) (by decide)
    m_law := tabs_mem (ts := ts) (by first | exact List.mem_cons_self | (repeat (first | exact List.mem_cons_self | apply List.mem_cons_of_mem)))
    u_law := tabs_one (ts := ts) nd (by first | exact List.mem_cons_self | (repeat (first | exact List.mem_cons_self | apply List.mem_cons_of_mem)))
  }
end Lw
end
section
set_option Elab.async false
set_option linter.all false
set_option maxRecDepth 100000
set_option autoImplicit false
namespace DL
variable [TbC]
open PySem PySem.Spec PyProof.Rows L2
/-! ### what the functions on data do: equations -/
theorem env_set0 (l : Lc) (r : Ev) (x : Lc) : List.set (l :: r) 0 x = x :: r := rfl
theorem env_setS (l : Lc) (r : Ev) (i : Nat) (x : Lc) : List.set (l :: r) (i + 1) x = l :: List.set r i x := rfl
/-! arithmetic under bounds -/
def Bd (n : Nat) (x : Int) : Prop := x.natAbs < 2 ^ n
theorem Bd.mono {n m : Nat} {x : Int} (h : Bd n x) (l : n ≤ m) : Bd m x := Nat.lt_of_lt_of_le h (Nat.pow_le_pow_right (by decide) l)
theorem Bd.add {n : Nat} {x y : Int} (h : Bd n x) (k : Bd n y) : Bd (n + 1) (x + y) := by
  unfold Bd at *
  have : (x + y).natAbs ≤ x.natAbs + y.natAbs := Int.natAbs_add_le x y
  rw [Nat.pow_succ]
  omega
theorem Bd.neg {n : Nat} {x : Int} (h : Bd n x) : Bd n (-x) := by
  unfold Bd at *
  rw [Int.natAbs_neg]
  exact h
theorem Bd.sub {n : Nat} {x y : Int} (h : Bd n x) (k : Bd n y) : Bd (n + 1) (x - y) := by
  rw [Int.sub_eq_add_neg]
  exact h.add k.neg
theorem Bd.mul {n m : Nat} {x y : Int} (h : Bd n x) (k : Bd m y) : Bd (n + m) (x * y) := wide_lt h k
theorem Bd.of_le {n : Nat} {x y : Int} (h0 : 0 ≤ x) (hl : x ≤ y) (h : Bd n y) : Bd n x := wide_le h0 hl h
theorem mul_bd {n m : Nat} {i j : Int} (h : Bd n i) (k : Bd m j) (hn : 0 < n) (hm : 0 < m) (hs : n + m ≤ 1000000) : mulD (.int i) (.int j) = some (.int (i * j)) := by
  exact if_pos (wide_mul h k hn hm hs).ok
theorem mul_right {i j : Int} (h : -(2 ^ 64) < j ∧ j < 2 ^ 64) : mulD (.int i) (.int j) = some (.int (i * j)) := by
  exact if_pos (CMul.ok (.inr h))
theorem mul_left {i j : Int} (h : -(2 ^ 64) < i ∧ i < 2 ^ 64) : mulD (.int i) (.int j) = some (.int (i * j)) := by
  exact if_pos (CMul.ok (.inl h))
theorem mod_pos {i j : Int} (h : 0 < j) : modD (.int i) (.int j) = some (.int (i % j)) := by
  rw [← Int.fmod_eq_emod_of_nonneg i (by omega)]
  exact if_pos (by omega)
theorem div_pos {i j : Int} (h : 0 < j) (hb : Bd 9000 j) : divD (.int i) (.int j) = some (.int (i / j)) := by
  rw [← Int.fdiv_eq_ediv_of_nonneg i (by omega)]
  exact if_pos ⟨by omega, Nat.lt_of_lt_of_le (PySem.Flt.log2_lt_of (by decide) hb) (Nat.le_refl _)⟩
theorem div_sm {i j : Int} (h : 0 < j ∧ j < 4611686018427387904) : divD (.int i) (.int j) = some (.int (i / j)) := div_pos h.1 (Bd.mono (n := 62) (show j.natAbs < 2 ^ 62 by omega) (by decide))
theorem bd_lit {n : Nat} {x : Int} (h : x.natAbs < 2 ^ n) : Bd n x := h
/-! ### equality -/
/-- == on data -/
def eqq (d e : Dt) : Bool := ((py d).bind fun x => (py e).map fun y => PyData.eqv x y).getD false
def eqqs (d e : List Dt) : Bool := ((pys d).bind fun x => (pys e).map fun y => PyData.eqvAll x y).getD false
theorem eqq_int (i j : Int) : eqq (.int i) (.int j) = decide (i = j) := by
  show (i == j) = decide (i = j)
  by_cases h : i = j <;> simp [h]
theorem eqq_str (i j : Str) : eqq (.str i) (.str j) = (i == j) := rfl
theorem eqq_bl (i j : Bool) : eqq (.bl i) (.bl j) = (i == j) := rfl
theorem eqq_non : eqq .non .non = true := rfl
theorem eqq_nonI (i : Int) : eqq .non (.int i) = false := rfl
theorem eqq_Inon (i : Int) : eqq (.int i) .non = false := rfl
theorem eqq_nonT (xs : List Dt) : eqq .non (.tup xs) = false := by
  unfold eqq
  rw [py, py]
  cases pys xs <;> rfl
theorem eqq_Tnon (xs : List Dt) : eqq (.tup xs) .non = false := by
  unfold eqq
  rw [py, py]
  cases pys xs <;> rfl
theorem eqq_TS (xs : List Dt) (s : Str) : eqq (.tup xs) (.str s) = false := by
  unfold eqq
  rw [py, py]
  cases pys xs <;> rfl
theorem eqq_tup (xs ys : List Dt) : eqq (.tup xs) (.tup ys) = eqqs xs ys := by
  unfold eqq eqqs
  rw [py, py]
  cases pys xs <;> cases pys ys <;> rfl
theorem eqq_lst (xs ys : List Dt) : eqq (.lst xs) (.lst ys) = eqqs xs ys := by
  unfold eqq eqqs
  rw [py, py]
  cases pys xs <;> cases pys ys <;> rfl
theorem eqq_frl (xs ys : List Dt) : eqq (.frl xs) (.lst ys) = eqqs xs ys := by
  unfold eqq eqqs
  rw [py, py]
  cases pys xs <;> cases pys ys <;> rfl
theorem eqqs_nil : eqqs [] [] = true := rfl
theorem eqqs_cons (x y : Dt) (xs ys : List Dt) : eqqs (x :: xs) (y :: ys) = (eqq x y && eqqs xs ys) := by
  unfold eqqs eqq
  rw [pys, pys]
  cases py x <;> cases py y <;> cases pys xs <;> cases pys ys <;> simp [PyData.eqvAll]
theorem eqqs_nc (y : Dt) (ys : List Dt) : eqqs [] (y :: ys) = false := by
  unfold eqqs
  rw [pys, pys]
  cases py y <;> cases pys ys <;> rfl
theorem eqqs_cn (y : Dt) (ys : List Dt) : eqqs (y :: ys) [] = false := by
  unfold eqqs
  rw [pys, pys]
  cases py y <;> cases pys ys <;> rfl
mutual
/-- comparable, n deep at most -/
def okq : Nat → Dt → Bool
  | _, .non => true
  | _, .bl _ => true
  | _, .int _ => true
  | _, .str x => PyData.strOk x
  | n + 1, .tup xs => okqs n xs
  | n + 1, .lst xs => okqs n xs
  | n + 1, .frl xs => okqs n xs
  | _, _ => false
def okqs : Nat → List Dt → Bool
  | _, [] => true
  | n, x :: xs => okq n x && okqs n xs
end
mutual
theorem okq_py : ∀ (d : Dt) (n : Nat), okq n d = true → ∃ x, py d = some x ∧ x.canLay0 = true ∧ x.depth ≤ n
  | .non, n, h => ⟨_, rfl, rfl, Nat.zero_le _⟩
  | .bl _, n, h => ⟨_, rfl, rfl, Nat.zero_le _⟩
  | .int _, n, h => ⟨_, rfl, rfl, Nat.zero_le _⟩
  | .str x, n, h => ⟨_, rfl, by cases n <;> exact h, Nat.zero_le _⟩
  | .tup xs, n, h => by
    cases n with
    | zero => cases h
    | succ n =>
      obtain ⟨ys, h1, h2, h3⟩ := okqs_py xs n h
      exact ⟨.tuple ys, by rw [py, h1]; rfl, h2, Nat.succ_le_succ h3⟩
  | .lst xs, n, h => by
    cases n with
    | zero => cases h
    | succ n =>
      obtain ⟨ys, h1, h2, h3⟩ := okqs_py xs n h
      exact ⟨.list ys, by rw [py, h1]; rfl, h2, Nat.succ_le_succ h3⟩
  | .frl xs, n, h => by
    cases n with
    | zero => cases h
    | succ n =>
      obtain ⟨ys, h1, h2, h3⟩ := okqs_py xs n h
      exact ⟨.list ys, by rw [py, h1]; rfl, h2, Nat.succ_le_succ h3⟩
  | .ins _ _ _, n, h => by cases n <;> cases h
  | .fn _ _ _ _ _, n, h => by cases n <;> cases h
theorem okqs_py : ∀ (ds : List Dt) (n : Nat), okqs n ds = true → ∃ xs, pys ds = some xs ∧ PyData.canLayAll0 xs = true ∧ PyData.depthAll xs ≤ n
  | [], n, h => ⟨[], rfl, rfl, Nat.zero_le _⟩
  | d :: ds, n, h => by
    rw [okqs, Bool.and_eq_true] at h
    obtain ⟨x, h1, h2, h3⟩ := okq_py d n h.1
    obtain ⟨xs, h4, h5, h6⟩ := okqs_py ds n h.2
    refine ⟨x :: xs, by rw [pys, h1, h4]; rfl, ?_, ?_⟩
    · rw [PyData.canLayAll0, h2, h5]; rfl
    · rw [PyData.depthAll]; exact Nat.max_le.mpr ⟨h3, h6⟩
end
theorem eqB_of {n : Nat} {x y : Dt} (h1 : okq n x = true) (h2 : okq n y = true) (hn : n ≤ 64) : eqB x y = some (eqq x y) := by
  obtain ⟨a, a1, a2, a3⟩ := okq_py x n h1
  obtain ⟨b, b1, b2, b3⟩ := okq_py y n h2
  have sa : SeqAt.shaped a = true := by
    unfold SeqAt.shaped
    rw [a2, decide_eq_true (Nat.le_trans a3 hn)]; rfl
  have sb : SeqAt.shaped b = true := by
    unfold SeqAt.shaped
    rw [b2, decide_eq_true (Nat.le_trans b3 hn)]; rfl
  unfold eqB eqq
  rw [a1, b1]
  exact if_pos ⟨sa, sb⟩
theorem eqD_of {n : Nat} {x y : Dt} (h1 : okq n x = true) (h2 : okq n y = true) (hn : n ≤ 64) : eqD x y = some (.bl (eqq x y)) := by
  unfold eqD
  rw [eqB_of h1 h2 hn]; rfl
theorem neD_of {n : Nat} {x y : Dt} (h1 : okq n x = true) (h2 : okq n y = true) (hn : n ≤ 64) : neD x y = some (.bl (!eqq x y)) := by
  unfold neD
  rw [eqB_of h1 h2 hn]; rfl
theorem eqD_int (i j : Int) : eqD (.int i) (.int j) = some (.bl (decide (i = j))) := by rw [eqD_of (n := 0) rfl rfl (by decide), eqq_int]
theorem neD_int (i j : Int) : neD (.int i) (.int j) = some (.bl (!decide (i = j))) := by rw [neD_of (n := 0) rfl rfl (by decide), eqq_int]
/-! ### comprehensions -/
theorem lcGo_map {α : Type} {set : Sf} {test : Tf} {elt : Fn} {ε : Ev} {l : List α} {en f : α → Dt} (h : ∀ a ∈ l, ∃ ε1, set (en a) ε = some ε1 ∧ test ε1 = .ok true ∧ elt ε1 = .ok (f a)) : lcGo set test elt ε (l.map en) = some (l.map f) := by
  induction l with
  | nil => rfl
  | cons a l ih =>
    obtain ⟨ε1, h1, h2, h3⟩ := h a List.mem_cons_self
    rw [List.map_cons, lcGo, h1, Option.bind_some, h2, show (Rz.ok true : Rz Str Bool).val = some true from rfl, Option.bind_some, if_pos rfl, h3, show (Rz.ok (f a) : Rz Str Dt).val = some (f a) from rfl, Option.bind_some, ih fun b hb => h b (List.mem_cons_of_mem _ hb)]
    rfl
theorem lcGo_mapN {α : Type} {i : Nat} {elt : Fn} {ε : Ev} {l : List α} {en f : α → Dt} (h : ∀ a ∈ l, elt (ε.set i (.d (en a))) = .ok (f a)) : lcGo (setN i) yes elt ε (l.map en) = some (l.map f) :=
  lcGo_map fun a ha => ⟨_, rfl, rfl, h a ha⟩
/-- a comprehension over a list that is the image of plain things -/
theorem lcF_map {α : Type} {it : Fs} {own : List Nat} {i : Nat} {elt : Fn} {ε : Ev} {l : List α} {en f : α → Dt} (hi : it ε = .ok (l.map en)) (hl : l.length < 16777216) (h : ∀ a ∈ l, elt ((wipeE ε own).set i (.d (en a))) = .ok (f a)) : lcF it own (setN i) yes elt ε = .ok (l.map f) := by
  unfold lcF
  rw [hi, Rz.bind_ok, if_pos (by rw [List.length_map, sizeLine_eq]; exact hl), lcGo_mapN h]
  rfl
/-- .. over range(n) -/
theorem lcF_rng {it : Fs} {own : List Nat} {i : Nat} {elt : Fn} {ε : Ev} {n : Nat} {f : Nat → Dt} (hi : it ε = .ok (upTo 0 n)) (hl : n < 16777216) (h : ∀ k, k < n → elt ((wipeE ε own).set i (.d (.int k))) = .ok (f k)) : lcF it own (setN i) yes elt ε = .ok ((List.range n).map f) := by
  refine lcF_map (l := List.range n) (en := fun k => .int (0 + (k : Int))) hi (by rw [List.length_range]; exact hl) fun k hk => ?_
  rw [Int.zero_add]
  exact h k (List.mem_range.mp hk)
theorem rng_ok {j : Int} (h0 : 0 ≤ j) (h1 : j < 2 ^ 62) : rngD (.int j) = some (upTo 0 j.toNat) := if_pos ⟨by omega, h1⟩
/-! ### equations of the readings -/
section
variable {ε : Ev} {α β : Type} {f g : Fn} {r : Re}
theorem q_ofO (a : α) : (Rz.ofO (some a) : Rz Str α) = .ok a := rfl
theorem q_ofN : (Rz.ofO (none : Option α) : Rz Str α) = .bad := rfl
theorem q_bad (f : α → Rz Str β) : (Rz.bad : Rz Str α).bind f = .bad := rfl
theorem q_ex (c : Str) (f : α → Rz Str β) : (Rz.ex c : Rz Str α).bind f = .ex c := rfl
theorem q_exS (a : α) : exS ε (.ok a : Rz Str α) = .ok a := rfl
theorem q_exX (c : Str) : exS ε (.ex c : Rz Str α) = .ex (c, ε) := rfl
theorem q_exB (x : Str × Ev) (f : α → Rz (Str × Ev) β) : (Rz.ex x : Rz (Str × Ev) α).bind f = .ex x := rfl
theorem q_okB (a : α) (f : α → Rz (Str × Ev) β) : (Rz.ok a : Rz (Str × Ev) α).bind f = f a := rfl
theorem q_nx (g : Sg) : seqR (.ok (.nx ε)) g = g ε := rfl
theorem q_rt (d : Dt) (g : Sg) : seqR (.ok (.rt d)) g = .ok (.rt d) := rfl
theorem q_ro (d : List Dt) (g : Sg) : seqR (.ok (.ro d)) g = .ok (.ro d) := rfl
theorem q_bk (g : Sg) : seqR (.ok (.bk ε)) g = .ok (.bk ε) := rfl
theorem q_ct (g : Sg) : seqR (.ok (.ct ε)) g = .ok (.ct ε) := rfl
theorem q_sx (x : Str × Ev) (g : Sg) : seqR (.ex x) g = .ex x := rfl
theorem q_anx (g : Sg) : afterB (.ok (.nx ε)) g = g ε := rfl
theorem q_act (g : Sg) : afterB (.ok (.ct ε)) g = g ε := rfl
theorem q_abk (g : Sg) : afterB (.ok (.bk ε)) g = .ok (.nx ε) := rfl
theorem q_art (d : Dt) (g : Sg) : afterB (.ok (.rt d)) g = .ok (.rt d) := rfl
theorem q_bnx : bodyR (.ok (.nx ε)) = .ok (.va .non) := rfl
theorem q_brt (d : Dt) : bodyR (.ok (.rt d)) = .ok (.va d) := rfl
theorem q_bro (d : List Dt) : bodyR (.ok (.ro d)) = .ok (.ow d) := rfl
theorem q_bex (c : Str) : bodyR (.ex (c, ε)) = .ex c := rfl
theorem q_va (d : Dt) : Oc.dt (.va d) = d := rfl
theorem q_ow (d : List Dt) : Oc.dt (.ow d) = .lst d := rfl
theorem q_gv {i : Nat} {d : Dt} (h : ε[i]? = some (.d d)) : gv i ε = .ok d := by unfold gv; rw [h]
theorem q_gb {i : Nat} {d : Dt} (h : ε[i]? = some (.d d)) : gb i ε = .ok d := by unfold gb; rw [h]
theorem q_gbo {i : Nat} {xs : List Dt} (h : ε[i]? = some (.o xs)) : gb i ε = .ok (.lst xs) := by unfold gb; rw [h]
theorem q_boo (b : Bool) : Dt.boo (.bl b) = .ok b := rfl
theorem q_call {n : Nat} {G : Fd} {fs : Fs} {ds : List Dt} {o : Oc} (h1 : fs ε = .ok ds) (h2 : ds.length = n) (h3 : G ds = .ok o) : callF n G fs ε = .ok o.dt := by
  unfold callF
  rw [h1, Rz.bind_ok, if_pos h2, h3]; rfl
theorem q_sh {i : Nat} {xs : List Dt} {g : Sg} (h : ε[i]? = some (.o xs)) : shS i g ε = g (ε.set i (.d (.lst xs))) := by unfold shS; rw [h]
end
theorem add_int (i j : Int) : addD (.int i) (.int j) = some (.int (i + j)) := rfl
theorem sub_int (i j : Int) : subD (.int i) (.int j) = some (.int (i - j)) := rfl
theorem lt_int (i j : Int) : ltD (.int i) (.int j) = some (.bl (decide (i < j))) := rfl
theorem le_int (i j : Int) : leD (.int i) (.int j) = some (.bl (decide (i ≤ j))) := rfl
theorem gt_int (i j : Int) : gtD (.int i) (.int j) = some (.bl (decide (j < i))) := rfl
theorem ge_int (i j : Int) : geD (.int i) (.int j) = some (.bl (decide (j ≤ i))) := rfl
theorem neg_int (i : Int) : negD (.int i) = some (.int (-i)) := rfl
/-! ### one step at a time -/
section
variable {ε ε' : Ev} {i : Nat} {f : Fn} {fs : Fs} {g a b : Sg} {t : Tf} {d : Dt} {ds : List Dt} {set : Sf}
theorem s_st (h : f ε = .ok d) : seqS (stS i f) g ε = g (ε.set i (.d d)) := by
  unfold seqS stS
  rw [h]; rfl
theorem s_sto (h : fs ε = .ok ds) : seqS (stO i fs) g ε = g (ε.set i (.o ds)) := by
  unfold seqS stO
  rw [h]; rfl
theorem s_as (h : f ε = .ok d) (k : set d ε = some ε') : seqS (asS f set) g ε = g ε' := by
  unfold seqS asS
  rw [h, q_exS, Rz.bind_ok, k]; rfl
theorem s_ifT (h : t ε = .ok true) : seqS (ifS t a b) g ε = seqR (a ε) g := by
  unfold seqS ifS
  rw [h]; rfl
theorem s_ifF (h : t ε = .ok false) : seqS (ifS t a (fun ε => .ok (.nx ε))) g ε = g ε := by
  unfold seqS ifS
  rw [h]; rfl
theorem s_ifE (h : t ε = .ok false) : seqS (ifS t a b) g ε = seqR (b ε) g := by
  unfold seqS ifS
  rw [h]; rfl
theorem i_T (h : t ε = .ok true) : ifS t a b ε = a ε := by
  unfold ifS
  rw [h]; rfl
theorem i_F (h : t ε = .ok false) : ifS t a b ε = b ε := by
  unfold ifS
  rw [h]; rfl
theorem s_rt (h : f ε = .ok d) : rtS f ε = .ok (.rt d) := by
  unfold rtS
  rw [h]; rfl
theorem b_rt {n : Nat} {us : List Dt} {g : Sg} (h : g (startE n us) = .ok (.rt d)) : bodyF n g us = .ok (.va d) := by
  unfold bodyF
  rw [h]; rfl
theorem c_1 {n : Nat} {G : Fd} {o : Oc} {ds : List Dt} (h1 : fs ε = .ok ds) (h2 : ds.length = n) (h3 : G ds = .ok o) (h4 : o.dt = d) : callF n G fs ε = .ok d := by
  rw [q_call h1 h2 h3, h4]
variable {h : Fn} {o : O2} {u : Dt → Option Dt} {un' : Dt → Option (List Dt)} {x y z : Dt}
theorem e_bin (h1 : f ε = .ok x) (h2 : h ε = .ok y) (h3 : o x y = some z) : bin o f h ε = .ok z := by
  unfold bin
  rw [h1, Rz.bind_ok, h2, Rz.bind_ok, h3]; rfl
theorem e_un (h1 : f ε = .ok x) (h3 : u x = some z) : un u f ε = .ok z := by
  unfold un
  rw [h1, Rz.bind_ok, h3]; rfl
theorem e_unN (h1 : f ε = .ok x) (h3 : un' x = some ds) : unN un' f ε = .ok ds := by
  unfold unN
  rw [h1, Rz.bind_ok, h3]; rfl
theorem e_lst (h1 : fs ε = .ok ds) : lstF fs ε = .ok (.lst ds) := by
  unfold lstF
  rw [h1]; rfl
theorem e_tup (h1 : fs ε = .ok ds) (h2 : ds.length ≤ 16777216) : tupF fs ε = .ok (.tup ds) := by
  unfold tupF
  rw [h1]
  first | rfl | exact if_pos (by rw [sizeLine_eq]; exact h2)
theorem e_cons (h1 : f ε = .ok x) (h2 : fs ε = .ok ds) : consF f fs ε = .ok (x :: ds) := by
  unfold consF
  rw [h1, Rz.bind_ok, h2]; rfl
theorem e_tst {b : Bool} (h1 : f ε = .ok (.bl b)) : tst f ε = .ok b := by
  unfold tst
  rw [h1]; rfl
end
end DL
end
section
set_option Elab.async false
set_option linter.all false
set_option maxRecDepth 100000
set_option maxHeartbeats 4000000
set_option autoImplicit false
namespace DL
variable [TbC]
open PySem
/-! ### the law's numbers -/
def M1 : Int := 340282366920938463463374607431768211507
def M2 : Int := 340282366920938463463374607431768211297
def drawn (c k : Int) : Int := (c * 6364136223846793005 + (k + 1) * 1442695040888963407) % M1 * ((c * 6364136223846793005 + (k + 1) * 1442695040888963407) % M1) % M2
theorem drawn_bd (c k : Int) : 0 ≤ drawn c k ∧ drawn c k < M2 := ⟨Int.emod_nonneg _ (by decide), Int.emod_lt_of_pos _ (by decide)⟩
theorem F_l_drawn_eq (c k : Int) : F_l_drawn [.int c, .int k] = .ok (.va (.int (drawn c k))) := by
  have h1 : mulD (.int c) (.int 6364136223846793005) = some (.int (c * 6364136223846793005)) := mul_right (by decide)
  have h2 : mulD (.int (k + 1)) (.int 1442695040888963407) = some (.int ((k + 1) * 1442695040888963407)) := mul_right (by decide)
  have h3 : Bd 129 ((c * 6364136223846793005 + (k + 1) * 1442695040888963407) % 340282366920938463463374607431768211507) := by
    unfold Bd
    generalize c * 6364136223846793005 + (k + 1) * 1442695040888963407 = z
    omega
  have h4 := mul_bd h3 h3 (by decide) (by decide) (by decide)
  have h5 : ∀ i : Int, modD (.int i) (.int 340282366920938463463374607431768211507) = some (.int (i % 340282366920938463463374607431768211507)) := fun i => mod_pos (by decide)
  have h6 : ∀ i : Int, modD (.int i) (.int 340282366920938463463374607431768211297) = some (.int (i % 340282366920938463463374607431768211297)) := fun i => mod_pos (by decide)
  simp only [F_l_drawn, g_l_drawn, bodyF, startE, seqS, stS, stO, rtS, roS, roV, asS, ifS, xpS, bin, un, unN, lstF, lsF, consF, nilF, tupF, kc, gv, gb, tst, andT, orT, notT, andV, orV, notV, ifV, callF, callN, iterF, rngF, walked, slF, noP, soP, setN, setT, setCons, setNil, wipeE, yes, forS, prS, Rz.bind_ok, q_ofO, q_ofN, q_bad, q_ex, q_exS, q_exX, q_exB, q_okB, q_nx, q_rt, q_ro, q_bk, q_ct, q_sx, q_anx, q_act, q_abk, q_art, q_bnx, q_brt, q_bro, q_bex, q_va, q_ow, q_boo, add_int, sub_int, lt_int, le_int, gt_int, ge_int, neg_int, List.map_cons, List.map_nil, List.length_cons, List.length_nil, List.nil_append, List.cons_append, List.replicate, List.getElem?_cons_zero, List.getElem?_cons_succ, env_set0, env_setS, Option.bind_some, Option.map_some, if_true, Bool.false_eq_true, if_false, Nat.reduceAdd, Nat.reduceSub, sizeLine_eq, Nat.reduceLeDiff, Nat.zero_le, h1, h2, h5, h4, h6]
  rfl
/-- a cell of the script -/
def cell (ns : List Int) (k : Nat) : Int := if ns = [] then k * 7919 else ns[k % ns.length]?.getD 0 + (k / ns.length : Nat) * 104729
theorem F_l_cell_eq (ns : List Int) (hn : ns.length ≤ 63) (k : Nat) (hk : k < 1000) : F_l_cell [.frl (ns.map .int), .int k] = .ok (.va (.int (cell ns k))) := by
  have e1 : eqD (.frl (ns.map .int)) (.lst []) = some (.bl (decide (ns = []))) := by
    have ok : ∀ l : List Int, okqs 0 (l.map Dt.int) = true := fun l => by
      induction l with
      | nil => rfl
      | cons a l ih => rw [List.map_cons, okqs, ih]; rfl
    rw [eqD_of (n := 1) (show okq 1 (.frl (ns.map .int)) = true from ok ns) rfl (by decide), eqq_frl]
    cases ns with
    | nil => rfl
    | cons a l => rw [List.map_cons, eqqs_cn]; rfl
  by_cases h : ns = []
  · subst h
    have h1 : mulD (.int (k : Int)) (.int 7919) = some (.int ((k : Int) * 7919)) := mul_right (by decide)
    simp only [F_l_cell, g_l_cell, bodyF, startE, seqS, stS, stO, rtS, roS, roV, asS, ifS, xpS, bin, un, unN, lstF, lsF, consF, nilF, tupF, kc, gv, gb, tst, andT, orT, notT, andV, orV, notV, ifV, callF, callN, iterF, rngF, walked, slF, noP, soP, setN, setT, setCons, setNil, wipeE, yes, forS, prS, Rz.bind_ok, q_ofO, q_ofN, q_bad, q_ex, q_exS, q_exX, q_exB, q_okB, q_nx, q_rt, q_ro, q_bk, q_ct, q_sx, q_anx, q_act, q_abk, q_art, q_bnx, q_brt, q_bro, q_bex, q_va, q_ow, q_boo, add_int, sub_int, lt_int, le_int, gt_int, ge_int, neg_int, List.map_cons, List.map_nil, List.length_cons, List.length_nil, List.nil_append, List.cons_append, List.replicate, List.getElem?_cons_zero, List.getElem?_cons_succ, env_set0, env_setS, Option.bind_some, Option.map_some, if_true, Bool.false_eq_true, if_false, Nat.reduceAdd, Nat.reduceSub, sizeLine_eq, Nat.reduceLeDiff, Nat.zero_le, e1, decide_true, h1]
    rfl
  · have l0 : 0 < ns.length := List.length_pos_iff.mpr h
    have h1 : modD (.int (k : Int)) (.int (ns.map Dt.int).length) = some (.int ((k % ns.length : Nat) : Int)) := by
      rw [List.length_map, mod_pos (by omega)]; rfl
    have h2 : divD (.int (k : Int)) (.int (ns.map Dt.int).length) = some (.int ((k / ns.length : Nat) : Int)) := by
      rw [List.length_map, div_pos (by omega) (Bd.mono (n := 6) (show ((ns.length : Int)).natAbs < 2 ^ 6 by omega) (by decide))]; rfl
    have h3 : mulD (.int ((k / ns.length : Nat) : Int)) (.int 104729) = some (.int ((k / ns.length : Nat) * 104729)) := mul_right (by decide)
    have h4 : ixD (.frl (ns.map .int)) (.int ((k % ns.length : Nat) : Int)) = some (.int (ns[k % ns.length]?.getD 0)) := by
      have hlt : k % ns.length < ns.length := Nat.mod_lt _ l0
      exact L2.atI_nat (by rw [List.getElem?_map, List.getElem?_eq_getElem hlt]; rfl)
    simp only [F_l_cell, g_l_cell, bodyF, startE, seqS, stS, stO, rtS, roS, roV, asS, ifS, xpS, bin, un, unN, lstF, lsF, consF, nilF, tupF, kc, gv, gb, tst, andT, orT, notT, andV, orV, notV, ifV, callF, callN, iterF, rngF, walked, slF, noP, soP, setN, setT, setCons, setNil, wipeE, yes, forS, prS, Rz.bind_ok, q_ofO, q_ofN, q_bad, q_ex, q_exS, q_exX, q_exB, q_okB, q_nx, q_rt, q_ro, q_bk, q_ct, q_sx, q_anx, q_act, q_abk, q_art, q_bnx, q_brt, q_bro, q_bex, q_va, q_ow, q_boo, add_int, sub_int, lt_int, le_int, gt_int, ge_int, neg_int, List.map_cons, List.map_nil, List.length_cons, List.length_nil, List.nil_append, List.cons_append, List.replicate, List.getElem?_cons_zero, List.getElem?_cons_succ, env_set0, env_setS, Option.bind_some, Option.map_some, if_true, Bool.false_eq_true, if_false, Nat.reduceAdd, Nat.reduceSub, sizeLine_eq, Nat.reduceLeDiff, Nat.zero_le, e1, decide_eq_false h, lenD, h1, h2, h3, h4]
    rw [cell, if_neg h]
end DL
end
section
set_option Elab.async false
set_option linter.all false
set_option maxRecDepth 100000
set_option maxHeartbeats 4000000
set_option autoImplicit false
namespace DL
variable [TbC]
open PySem
/-! ### points -/
abbrev P3 := Int × Int × Int
def co : Nat → P3 → Int
  | 0, p => p.1
  | 1, p => p.2.1
  | _, p => p.2.2
def en (p : P3) : Dt := .tup [.int p.1, .int p.2.1, .int p.2.2]
def rayD (s w : P3) : Dt := .tup [en s, en w]
theorem en_ix (p : P3) (k : Nat) (h : k < 3) : ixD (en p) (.int k) = some (.int (co k p)) := by
  match k, h with
  | 0, _ => rfl
  | 1, _ => rfl
  | 2, _ => rfl
theorem en_okq (p : P3) : okq 1 (en p) = true := rfl
theorem ens_okq (ps : List P3) : okqs 1 (ps.map en) = true := by
  induction ps with
  | nil => rfl
  | cons a l ih => rw [List.map_cons, okqs, ih, en_okq]; rfl
theorem eqq_en (p q : P3) : eqq (en p) (en q) = decide (p = q) := by
  unfold en
  rw [eqq_tup, eqqs_cons, eqqs_cons, eqqs_cons, eqqs_nil, eqq_int, eqq_int, eqq_int]
  obtain ⟨a, b, c⟩ := p
  obtain ⟨d, e, f⟩ := q
  simp only [Prod.mk.injEq]
  by_cases h1 : a = d <;> by_cases h2 : b = e <;> by_cases h3 : c = f <;> simp [h1, h2, h3]
theorem eqqs_ens (ps qs : List P3) : eqqs (ps.map en) (qs.map en) = decide (ps = qs) := by
  induction ps generalizing qs with
  | nil => cases qs with
    | nil => rfl
    | cons b m => rw [List.map_cons, List.map_nil, eqqs_nc]; rfl
  | cons a l ih => cases qs with
    | nil => rw [List.map_cons, List.map_nil, eqqs_cn]; rfl
    | cons b m =>
      rw [List.map_cons, List.map_cons, eqqs_cons, ih, eqq_en]
      simp only [List.cons.injEq]
      by_cases h1 : a = b <;> by_cases h2 : l = m <;> simp [h1, h2]
theorem range3 {α : Type} (f : Nat → α) : (List.range 3).map f = [f 0, f 1, f 2] := rfl
theorem tupD_lst (xs : List Dt) : tupD (.lst xs) = some (.tup xs) := rfl
end DL
end
section
set_option Elab.async false
set_option linter.all false
set_option maxRecDepth 100000
set_option maxHeartbeats 4000000
set_option autoImplicit false
namespace DL
variable [TbC]
open PySem
/-! ### fractions -/
abbrev Fr := Int × Int
def fr (x : Fr) : Dt := .tup [.int x.1, .int x.2]
def gle (x y : Fr) : Prop := x.1 * y.2 ≤ y.1 * x.2
instance (x y : Fr) : Decidable (gle x y) := inferInstanceAs (Decidable (x.1 * y.2 ≤ y.1 * x.2))
def rtg (t u : Int) : Int := if u < 0 then -(Int.gcd t u : Int) else (Int.gcd t u : Int)
def rat (t u : Int) : Fr := (t / rtg t u, u / rtg t u)
def Rdc (x : Fr) : Prop := 0 < x.2 ∧ Int.gcd x.1 x.2 = 1
theorem rat_g {t u : Int} (hu : u ≠ 0) : rtg t u ≠ 0 ∧ (0 < rtg t u ↔ 0 < u) ∧ t = rtg t u * (rat t u).1 ∧ u = rtg t u * (rat t u).2 := by
  have hg : (Int.gcd t u : Int) ≠ 0 := by
    intro h
    have h1 : Int.gcd t u = 0 := by exact_mod_cast h
    exact hu (Int.gcd_eq_zero_iff.mp h1).2
  have d1 : (Int.gcd t u : Int) ∣ t := Int.gcd_dvd_left ..
  have d2 : (Int.gcd t u : Int) ∣ u := Int.gcd_dvd_right ..
  have hp : 0 < (Int.gcd t u : Int) := by omega
  have e1 : rtg t u ∣ t := by
    unfold rtg; split
    · exact Int.neg_dvd.mpr d1
    · exact d1
  have e2 : rtg t u ∣ u := by
    unfold rtg; split
    · exact Int.neg_dvd.mpr d2
    · exact d2
  refine ⟨?_, ?_, (Int.mul_ediv_cancel' e1).symm, (Int.mul_ediv_cancel' e2).symm⟩
  · unfold rtg; split <;> omega
  · unfold rtg; split <;> omega
theorem rat_pos {t u : Int} (hu : u ≠ 0) : 0 < (rat t u).2 := by
  obtain ⟨h1, h2, h3, h4⟩ := rat_g (t := t) hu
  by_cases hp : 0 < u
  · have hg := h2.mpr hp
    rcases Int.lt_trichotomy (rat t u).2 0 with h | h | h
    · have := Int.mul_neg_of_pos_of_neg hg h; omega
    · rw [h] at h4; omega
    · exact h
  · have hg : rtg t u < 0 := by
      have : ¬ 0 < rtg t u := fun z => hp (h2.mp z)
      omega
    rcases Int.lt_trichotomy (rat t u).2 0 with h | h | h
    · have := Int.mul_pos_of_neg_of_neg hg h; omega
    · rw [h] at h4; omega
    · exact h
theorem rat_rd {t u : Int} (hu : u ≠ 0) : Rdc (rat t u) := by
  refine ⟨rat_pos hu, ?_⟩
  obtain ⟨h1, h2, h3, h4⟩ := rat_g (t := t) hu
  have e : Int.gcd t u = (rtg t u).natAbs * Int.gcd (rat t u).1 (rat t u).2 := by
    have := Int.gcd_mul_left (rtg t u) (rat t u).1 (rat t u).2
    rw [← h3, ← h4] at this
    exact this
  have e2 : (rtg t u).natAbs = Int.gcd t u := by
    unfold rtg; split
    · rw [Int.natAbs_neg, Int.natAbs_natCast]
    · rw [Int.natAbs_natCast]
  rw [e2] at e
  have hg : 0 < Int.gcd t u := by
    rcases Nat.eq_zero_or_pos (Int.gcd t u) with h | h
    · exact absurd (Int.gcd_eq_zero_iff.mp h).2 hu
    · exact h
  exact Nat.eq_of_mul_eq_mul_left hg (by rw [Nat.mul_one]; exact e.symm)
theorem Rdc.eq {x y : Fr} (h : Rdc x) (k : Rdc y) (e : x.1 * y.2 = y.1 * x.2) : x = y := by
  obtain ⟨a, b⟩ := x
  obtain ⟨c, d⟩ := y
  obtain ⟨h1, h2⟩ := h
  obtain ⟨k1, k2⟩ := k
  simp only at *
  have cop : ∀ {a b d c : Int}, Int.gcd a b = 1 → a * d = c * b → b ∣ d := fun {a b d c} g e => by
    have e' : a.natAbs * d.natAbs = c.natAbs * b.natAbs := by rw [← Int.natAbs_mul, ← Int.natAbs_mul, e]
    have : Nat.Coprime b.natAbs a.natAbs := by
      show Nat.gcd _ _ = 1
      rw [Nat.gcd_comm]
      exact g
    exact Int.natAbs_dvd_natAbs.mp (this.dvd_of_dvd_mul_left (by rw [e']; exact Nat.dvd_mul_left ..))
  have b_d : b ∣ d := cop h2 e
  have d_b : d ∣ b := cop k2 e.symm
  have e1 : b = d := Int.dvd_antisymm (by omega) (by omega) b_d d_b
  subst e1
  have : a = c := Int.eq_of_mul_eq_mul_right (by omega) e
  rw [this]
theorem rat_self {x : Fr} (h : Rdc x) : rat x.1 x.2 = x := by
  have h0 : x.2 ≠ 0 := by have := h.1; omega
  refine (rat_rd h0).eq h ?_
  obtain ⟨h1, h2, h3, h4⟩ := rat_g (t := x.1) h0
  apply Int.eq_of_mul_eq_mul_left h1
  calc rtg x.1 x.2 * ((rat x.1 x.2).1 * x.2) = (rtg x.1 x.2 * (rat x.1 x.2).1) * x.2 := by rw [Int.mul_assoc]
    _ = x.1 * x.2 := by rw [← h3]
    _ = x.1 * (rtg x.1 x.2 * (rat x.1 x.2).2) := by rw [← h4]
    _ = rtg x.1 x.2 * (x.1 * (rat x.1 x.2).2) := by rw [Int.mul_left_comm]
theorem rat_bd {n : Nat} {t u : Int} (hu : u ≠ 0) (h : Bd n t) (k : Bd n u) : Bd n (rat t u).1 ∧ Bd n (rat t u).2 := by
  obtain ⟨h1, h2, h3, h4⟩ := rat_g (t := t) hu
  have g1 : 1 ≤ (rtg t u).natAbs := by omega
  have e1 : t.natAbs = (rtg t u).natAbs * (rat t u).1.natAbs := by rw [← Int.natAbs_mul, ← h3]
  have e2 : u.natAbs = (rtg t u).natAbs * (rat t u).2.natAbs := by rw [← Int.natAbs_mul, ← h4]
  unfold Bd at *
  exact ⟨Nat.lt_of_le_of_lt (by rw [e1]; exact Nat.le_mul_of_pos_left _ g1) h, Nat.lt_of_le_of_lt (by rw [e2]; exact Nat.le_mul_of_pos_left _ g1) k⟩
/-! order -/
theorem gle_trans {x y z : Fr} (hx : 0 < x.2) (hy : 0 < y.2) (hz : 0 < z.2) (h : gle x y) (k : gle y z) : gle x z := by
  unfold gle at *
  have h1 := Int.mul_le_mul_of_nonneg_right h (Int.le_of_lt hz)
  have h2 := Int.mul_le_mul_of_nonneg_right k (Int.le_of_lt hx)
  refine Int.le_of_mul_le_mul_right (a := y.2) ?_ hy
  calc x.1 * z.2 * y.2 = x.1 * y.2 * z.2 := by rw [Int.mul_right_comm]
    _ ≤ y.1 * x.2 * z.2 := h1
    _ = y.1 * z.2 * x.2 := by rw [Int.mul_right_comm]
    _ ≤ z.1 * y.2 * x.2 := h2
    _ = z.1 * x.2 * y.2 := by rw [Int.mul_right_comm]
theorem gle_total (x y : Fr) : gle x y ∨ gle y x := by
  unfold gle; omega
theorem gle_of_not {x y : Fr} (h : ¬ gle x y) : gle y x := (gle_total x y).resolve_left h
theorem gle_refl (x : Fr) : gle x x := Int.le_refl _
theorem Rdc.anti {x y : Fr} (h : Rdc x) (k : Rdc y) (h1 : gle x y) (h2 : gle y x) : x = y := h.eq k (Int.le_antisymm h1 h2)
/-- a fraction told by any top and under -/
theorem gle_rat {t u : Int} (hu : u ≠ 0) (x : Fr) : (gle (rat t u) x ↔ if 0 < u then t * x.2 ≤ x.1 * u else x.1 * u ≤ t * x.2) ∧ (gle x (rat t u) ↔ if 0 < u then x.1 * u ≤ t * x.2 else t * x.2 ≤ x.1 * u) := by
  obtain ⟨h1, h2, h3, h4⟩ := rat_g (t := t) hu
  have e1 : t * x.2 = rtg t u * ((rat t u).1 * x.2) := by rw [← Int.mul_assoc, ← h3]
  have e2 : x.1 * u = rtg t u * (x.1 * (rat t u).2) := by rw [Int.mul_left_comm, ← h4]
  unfold gle
  by_cases hp : 0 < u
  · have hg := h2.mpr hp
    rw [if_pos hp, if_pos hp, e1, e2]
    exact ⟨(Int.mul_le_mul_left hg).symm, (Int.mul_le_mul_left hg).symm⟩
  · have hg : rtg t u < 0 := by
      have : ¬ 0 < rtg t u := fun z => hp (h2.mp z)
      omega
    rw [if_neg hp, if_neg hp, e1, e2]
    have neg : ∀ a b : Int, a ≤ b ↔ rtg t u * b ≤ rtg t u * a := fun a b => by
      constructor
      · exact fun h => Int.mul_le_mul_of_nonpos_left (by omega) h
      · intro h
        rcases Int.lt_or_le b a with z | z
        · have := Int.mul_lt_mul_of_neg_left z hg
          omega
        · exact z
    exact ⟨neg _ _, neg _ _⟩
/-! ### the loops of ratio -/
theorem absD_int (i : Int) : absD (.int i) = some (.int (i.natAbs : Int)) := by
  show some (Dt.int (if i < 0 then -i else i)) = _
  rw [show (if i < 0 then -i else i) = (i.natAbs : Int) by split <;> omega]
theorem mod_nat {a b : Nat} (h : b ≠ 0) : modD (.int a) (.int b) = some (.int ((a % b : Nat) : Int)) := by rw [mod_pos (by omega)]; rfl
theorem fdiv_mul {d t : Int} {n : Nat} (h : d ≠ 0) (hb : Bd n d) (hn : n ≤ 9000) : divD (.int (d * t)) (.int d) = some (.int t) := by
  have e : (d * t).fdiv d = t := Int.mul_fdiv_cancel_left _ h
  refine (if_pos ⟨h, PySem.Flt.log2_lt_of (by decide) (Bd.mono hb hn)⟩).trans ?_
  rw [e]
theorem gcd_loop (d0 d1 : Lc) : ∀ (b a : Nat), whS (tst (bin neD (gb 3) (kc (.int 0)))) (prS 2 3 (consF (gv 3) (consF (bin modD (gb 2) (gb 3)) nilF))) [d0, d1, .d (.int a), .d (.int b)] = .ok (.nx [d0, d1, .d (.int (Nat.gcd a b : Nat)), .d (.int 0)]) := by
  intro b
  induction b using Nat.strongRecOn with
  | ind b ih =>
    intro a
    rw [whS_step]
    by_cases h : b = 0
    · subst h
      have h1 : neD (.int ((0 : Nat) : Int)) (.int 0) = some (.bl false) := by rw [neD_int]; rfl
      simp only [whT, bodyF, startE, seqS, stS, stO, rtS, roS, roV, asS, ifS, xpS, bin, un, unN, lstF, lsF, consF, nilF, tupF, kc, gv, gb, tst, andT, orT, notT, andV, orV, notV, ifV, callF, callN, iterF, rngF, walked, slF, noP, soP, setN, setT, setCons, setNil, wipeE, yes, forS, prS, Rz.bind_ok, q_ofO, q_ofN, q_bad, q_ex, q_exS, q_exX, q_exB, q_okB, q_nx, q_rt, q_ro, q_bk, q_ct, q_sx, q_anx, q_act, q_abk, q_art, q_bnx, q_brt, q_bro, q_bex, q_va, q_ow, q_boo, add_int, sub_int, lt_int, le_int, gt_int, ge_int, neg_int, List.map_cons, List.map_nil, List.length_cons, List.length_nil, List.nil_append, List.cons_append, List.replicate, List.getElem?_cons_zero, List.getElem?_cons_succ, env_set0, env_setS, Option.bind_some, Option.map_some, if_true, Bool.false_eq_true, if_false, Nat.reduceAdd, Nat.reduceSub, sizeLine_eq, Nat.reduceLeDiff, Nat.zero_le, h1]
      rw [Nat.gcd_zero_right]
      rfl
    · have h1 : neD (.int (b : Int)) (.int 0) = some (.bl true) := by rw [neD_int, decide_eq_false (by omega)]; rfl
      simp only [whT, bodyF, startE, seqS, stS, stO, rtS, roS, roV, asS, ifS, xpS, bin, un, unN, lstF, lsF, consF, nilF, tupF, kc, gv, gb, tst, andT, orT, notT, andV, orV, notV, ifV, callF, callN, iterF, rngF, walked, slF, noP, soP, setN, setT, setCons, setNil, wipeE, yes, forS, prS, Rz.bind_ok, q_ofO, q_ofN, q_bad, q_ex, q_exS, q_exX, q_exB, q_okB, q_nx, q_rt, q_ro, q_bk, q_ct, q_sx, q_anx, q_act, q_abk, q_art, q_bnx, q_brt, q_bro, q_bex, q_va, q_ow, q_boo, add_int, sub_int, lt_int, le_int, gt_int, ge_int, neg_int, List.map_cons, List.map_nil, List.length_cons, List.length_nil, List.nil_append, List.cons_append, List.replicate, List.getElem?_cons_zero, List.getElem?_cons_succ, env_set0, env_setS, Option.bind_some, Option.map_some, if_true, Bool.false_eq_true, if_false, Nat.reduceAdd, Nat.reduceSub, sizeLine_eq, Nat.reduceLeDiff, Nat.zero_le, h1, mod_nat h]
      rw [ih (a % b) (Nat.mod_lt _ (by omega)) b]
      rw [show Nat.gcd b (a % b) = Nat.gcd a b by rw [Nat.gcd_comm, ← Nat.gcd_rec, Nat.gcd_comm]]
theorem rtg_tail {t u : Int} (hu : u ≠ 0) {n : Nat} (hb : Bd n u) (hn : n ≤ 9000) : divD (.int t) (.int (rtg t u)) = some (.int (rat t u).1) ∧ divD (.int u) (.int (rtg t u)) = some (.int (rat t u).2) := by
  obtain ⟨h1, h2, h3, h4⟩ := rat_g (t := t) hu
  have hb' : Bd n (rtg t u) := by
    unfold Bd at *
    have e : u.natAbs = (rtg t u).natAbs * (rat t u).2.natAbs := by rw [← Int.natAbs_mul, ← h4]
    have := rat_pos (t := t) hu
    exact Nat.lt_of_le_of_lt (by rw [e]; exact Nat.le_mul_of_pos_right _ (by omega)) hb
  refine ⟨?_, ?_⟩
  · have := fdiv_mul (t := (rat t u).1) h1 hb' hn
    rw [← h3] at this
    exact this
  · have := fdiv_mul (t := (rat t u).2) h1 hb' hn
    rw [← h4] at this
    exact this
theorem F_ratio_eq {t u : Int} (hu : u ≠ 0) {n : Nat} (hb : Bd n u) (hn : n ≤ 9000) : F_ratio [.int t, .int u] = .ok (.va (fr (rat t u))) := by
  obtain ⟨h1, h2⟩ := rtg_tail (t := t) hu hb hn
  refine b_rt ?_
  unfold g_ratio
  rw [s_st (e_un rfl (absD_int t)), s_st (e_un rfl (absD_int u))]
  show seqR (whS _ _ [.d (.int t), .d (.int u), .d (.int t.natAbs), .d (.int u.natAbs)]) _ = _
  rw [gcd_loop, q_nx]
  have hg : (Nat.gcd t.natAbs u.natAbs : Int) = Int.gcd t u := rfl
  rw [hg]
  by_cases h : u < 0
  · rw [s_ifT (by simp only [bodyF, startE, seqS, stS, stO, rtS, roS, roV, asS, ifS, xpS, bin, un, unN, lstF, lsF, consF, nilF, tupF, kc, gv, gb, tst, andT, orT, notT, andV, orV, notV, ifV, callF, callN, iterF, rngF, walked, slF, noP, soP, setN, setT, setCons, setNil, wipeE, yes, forS, prS, Rz.bind_ok, q_ofO, q_ofN, q_bad, q_ex, q_exS, q_exX, q_exB, q_okB, q_nx, q_rt, q_ro, q_bk, q_ct, q_sx, q_anx, q_act, q_abk, q_art, q_bnx, q_brt, q_bro, q_bex, q_va, q_ow, q_boo, add_int, sub_int, lt_int, le_int, gt_int, ge_int, neg_int, List.map_cons, List.map_nil, List.length_cons, List.length_nil, List.nil_append, List.cons_append, List.replicate, List.getElem?_cons_zero, List.getElem?_cons_succ, env_set0, env_setS, Option.bind_some, Option.map_some, if_true, Bool.false_eq_true, if_false, Nat.reduceAdd, Nat.reduceSub, sizeLine_eq, Nat.reduceLeDiff, Nat.zero_le, decide_eq_true h])]
    have e : rtg t u = 0 - Int.gcd t u := by unfold rtg; rw [if_pos h]; omega
    rw [e] at h1 h2
    simp only [bodyF, startE, seqS, stS, stO, rtS, roS, roV, asS, ifS, xpS, bin, un, unN, lstF, lsF, consF, nilF, tupF, kc, gv, gb, tst, andT, orT, notT, andV, orV, notV, ifV, callF, callN, iterF, rngF, walked, slF, noP, soP, setN, setT, setCons, setNil, wipeE, yes, forS, prS, Rz.bind_ok, q_ofO, q_ofN, q_bad, q_ex, q_exS, q_exX, q_exB, q_okB, q_nx, q_rt, q_ro, q_bk, q_ct, q_sx, q_anx, q_act, q_abk, q_art, q_bnx, q_brt, q_bro, q_bex, q_va, q_ow, q_boo, add_int, sub_int, lt_int, le_int, gt_int, ge_int, neg_int, List.map_cons, List.map_nil, List.length_cons, List.length_nil, List.nil_append, List.cons_append, List.replicate, List.getElem?_cons_zero, List.getElem?_cons_succ, env_set0, env_setS, Option.bind_some, Option.map_some, if_true, Bool.false_eq_true, if_false, Nat.reduceAdd, Nat.reduceSub, sizeLine_eq, Nat.reduceLeDiff, Nat.zero_le, h1, h2]
    rfl
  · rw [s_ifF (by simp only [bodyF, startE, seqS, stS, stO, rtS, roS, roV, asS, ifS, xpS, bin, un, unN, lstF, lsF, consF, nilF, tupF, kc, gv, gb, tst, andT, orT, notT, andV, orV, notV, ifV, callF, callN, iterF, rngF, walked, slF, noP, soP, setN, setT, setCons, setNil, wipeE, yes, forS, prS, Rz.bind_ok, q_ofO, q_ofN, q_bad, q_ex, q_exS, q_exX, q_exB, q_okB, q_nx, q_rt, q_ro, q_bk, q_ct, q_sx, q_anx, q_act, q_abk, q_art, q_bnx, q_brt, q_bro, q_bex, q_va, q_ow, q_boo, add_int, sub_int, lt_int, le_int, gt_int, ge_int, neg_int, List.map_cons, List.map_nil, List.length_cons, List.length_nil, List.nil_append, List.cons_append, List.replicate, List.getElem?_cons_zero, List.getElem?_cons_succ, env_set0, env_setS, Option.bind_some, Option.map_some, if_true, Bool.false_eq_true, if_false, Nat.reduceAdd, Nat.reduceSub, sizeLine_eq, Nat.reduceLeDiff, Nat.zero_le, decide_eq_false h])]
    have e : rtg t u = Int.gcd t u := by unfold rtg; rw [if_neg h]
    rw [e] at h1 h2
    simp only [bodyF, startE, seqS, stS, stO, rtS, roS, roV, asS, ifS, xpS, bin, un, unN, lstF, lsF, consF, nilF, tupF, kc, gv, gb, tst, andT, orT, notT, andV, orV, notV, ifV, callF, callN, iterF, rngF, walked, slF, noP, soP, setN, setT, setCons, setNil, wipeE, yes, forS, prS, Rz.bind_ok, q_ofO, q_ofN, q_bad, q_ex, q_exS, q_exX, q_exB, q_okB, q_nx, q_rt, q_ro, q_bk, q_ct, q_sx, q_anx, q_act, q_abk, q_art, q_bnx, q_brt, q_bro, q_bex, q_va, q_ow, q_boo, add_int, sub_int, lt_int, le_int, gt_int, ge_int, neg_int, List.map_cons, List.map_nil, List.length_cons, List.length_nil, List.nil_append, List.cons_append, List.replicate, List.getElem?_cons_zero, List.getElem?_cons_succ, env_set0, env_setS, Option.bind_some, Option.map_some, if_true, Bool.false_eq_true, if_false, Nat.reduceAdd, Nat.reduceSub, sizeLine_eq, Nat.reduceLeDiff, Nat.zero_le, h1, h2]
    rfl
theorem F_is_less_eq {x y : Fr} {n : Nat} (b1 : Bd n x.1) (b2 : Bd n x.2) (b3 : Bd n y.1) (b4 : Bd n y.2) (h0 : 0 < n) (hn : n ≤ 500000) : F_is_less [fr x, fr y] = .ok (.va (.bl (!decide (gle y x)))) := by
  have m1 := mul_bd b1 b4 h0 h0 (by omega)
  have m2 := mul_bd b3 b2 h0 h0 (by omega)
  have i0 : ∀ z : Fr, ixD (fr z) (.int 0) = some (.int z.1) := fun _ => rfl
  have i1 : ∀ z : Fr, ixD (fr z) (.int 1) = some (.int z.2) := fun _ => rfl
  simp only [F_is_less, g_is_less, bodyF, startE, seqS, stS, stO, rtS, roS, roV, asS, ifS, xpS, bin, un, unN, lstF, lsF, consF, nilF, tupF, kc, gv, gb, tst, andT, orT, notT, andV, orV, notV, ifV, callF, callN, iterF, rngF, walked, slF, noP, soP, setN, setT, setCons, setNil, wipeE, yes, forS, prS, Rz.bind_ok, q_ofO, q_ofN, q_bad, q_ex, q_exS, q_exX, q_exB, q_okB, q_nx, q_rt, q_ro, q_bk, q_ct, q_sx, q_anx, q_act, q_abk, q_art, q_bnx, q_brt, q_bro, q_bex, q_va, q_ow, q_boo, add_int, sub_int, lt_int, le_int, gt_int, ge_int, neg_int, List.map_cons, List.map_nil, List.length_cons, List.length_nil, List.nil_append, List.cons_append, List.replicate, List.getElem?_cons_zero, List.getElem?_cons_succ, env_set0, env_setS, Option.bind_some, Option.map_some, if_true, Bool.false_eq_true, if_false, Nat.reduceAdd, Nat.reduceSub, sizeLine_eq, Nat.reduceLeDiff, Nat.zero_le, i0, i1, m1, m2]
  have e : decide (x.1 * y.2 < y.1 * x.2) = !decide (gle y x) := by
    by_cases h : x.1 * y.2 < y.1 * x.2
    · rw [decide_eq_true h, decide_eq_false (show ¬ gle y x from fun z => by unfold gle at z; omega)]; rfl
    · rw [decide_eq_false h, decide_eq_true (show gle y x by unfold gle; omega)]; rfl
  rw [e]
end DL
end
section
set_option Elab.async false
set_option linter.all false
set_option maxRecDepth 100000
set_option maxHeartbeats 4000000
set_option autoImplicit false
namespace DL
variable [TbC]
open PySem
/-! ### vectors -/
def mnP (p q : P3) : P3 := (p.1 - q.1, p.2.1 - q.2.1, p.2.2 - q.2.2)
def dtP (p q : P3) : Int := p.1 * q.1 + p.2.1 * q.2.1 + p.2.2 * q.2.2
def crP (p q : P3) : P3 := (p.2.1 * q.2.2 - p.2.2 * q.2.1, p.2.2 * q.1 - p.1 * q.2.2, p.1 * q.2.1 - p.2.1 * q.1)
def BdN (n : Nat) (p : P3) : Prop := Bd n p.1 ∧ Bd n p.2.1 ∧ Bd n p.2.2
theorem BdN.mono {n m : Nat} {p : P3} (h : BdN n p) (l : n ≤ m) : BdN m p := ⟨h.1.mono l, h.2.1.mono l, h.2.2.mono l⟩
theorem BdN.mn {n : Nat} {p q : P3} (h : BdN n p) (k : BdN n q) : BdN (n + 1) (mnP p q) := ⟨h.1.sub k.1, h.2.1.sub k.2.1, h.2.2.sub k.2.2⟩
theorem BdN.cr {n m : Nat} {p q : P3} (h : BdN n p) (k : BdN m q) : BdN (n + m + 1) (crP p q) :=
  ⟨(h.2.1.mul k.2.2).sub (h.2.2.mul k.2.1), (h.2.2.mul k.1).sub (h.1.mul k.2.2), (h.1.mul k.2.1).sub (h.2.1.mul k.1)⟩
theorem BdN.dt {n m : Nat} {p q : P3} (h : BdN n p) (k : BdN m q) : Bd (n + m + 2) (dtP p q) := ((h.1.mul k.1).add (h.2.1.mul k.2.1)).add ((h.2.2.mul k.2.2).mono (Nat.le_succ _))
theorem en0 (p : P3) : ixD (en p) (.int 0) = some (.int p.1) := rfl
theorem en1 (p : P3) : ixD (en p) (.int 1) = some (.int p.2.1) := rfl
theorem en2 (p : P3) : ixD (en p) (.int 2) = some (.int p.2.2) := rfl
theorem F_dot_eq {n m : Nat} {p q : P3} (h : BdN n p) (k : BdN m q) (h0 : 0 < n) (h1 : 0 < m) (hs : n + m ≤ 1000000) : F_dot [en p, en q] = .ok (.va (.int (dtP p q))) := by
  have e1 := mul_bd h.1 k.1 h0 h1 hs
  have e2 := mul_bd h.2.1 k.2.1 h0 h1 hs
  have e3 := mul_bd h.2.2 k.2.2 h0 h1 hs
  simp only [F_dot, g_dot, bodyF, startE, seqS, stS, stO, rtS, roS, roV, asS, ifS, xpS, bin, un, unN, lstF, lsF, consF, nilF, tupF, kc, gv, gb, tst, andT, orT, notT, andV, orV, notV, ifV, callF, callN, iterF, rngF, walked, slF, noP, soP, setN, setT, setCons, setNil, wipeE, yes, forS, prS, Rz.bind_ok, q_ofO, q_ofN, q_bad, q_ex, q_exS, q_exX, q_exB, q_okB, q_nx, q_rt, q_ro, q_bk, q_ct, q_sx, q_anx, q_act, q_abk, q_art, q_bnx, q_brt, q_bro, q_bex, q_va, q_ow, q_boo, add_int, sub_int, lt_int, le_int, gt_int, ge_int, neg_int, List.map_cons, List.map_nil, List.length_cons, List.length_nil, List.nil_append, List.cons_append, List.replicate, List.getElem?_cons_zero, List.getElem?_cons_succ, env_set0, env_setS, Option.bind_some, Option.map_some, if_true, Bool.false_eq_true, if_false, Nat.reduceAdd, Nat.reduceSub, sizeLine_eq, Nat.reduceLeDiff, Nat.zero_le, en0, en1, en2, e1, e2, e3]
  rfl
theorem F_cross_eq {n m : Nat} {p q : P3} (h : BdN n p) (k : BdN m q) (h0 : 0 < n) (h1 : 0 < m) (hs : n + m ≤ 1000000) : F_cross [en p, en q] = .ok (.va (en (crP p q))) := by
  have e1 := mul_bd h.1 k.2.1 h0 h1 hs
  have e2 := mul_bd h.1 k.2.2 h0 h1 hs
  have e3 := mul_bd h.2.1 k.1 h0 h1 hs
  have e4 := mul_bd h.2.1 k.2.2 h0 h1 hs
  have e5 := mul_bd h.2.2 k.1 h0 h1 hs
  have e6 := mul_bd h.2.2 k.2.1 h0 h1 hs
  simp only [F_cross, g_cross, bodyF, startE, seqS, stS, stO, rtS, roS, roV, asS, ifS, xpS, bin, un, unN, lstF, lsF, consF, nilF, tupF, kc, gv, gb, tst, andT, orT, notT, andV, orV, notV, ifV, callF, callN, iterF, rngF, walked, slF, noP, soP, setN, setT, setCons, setNil, wipeE, yes, forS, prS, Rz.bind_ok, q_ofO, q_ofN, q_bad, q_ex, q_exS, q_exX, q_exB, q_okB, q_nx, q_rt, q_ro, q_bk, q_ct, q_sx, q_anx, q_act, q_abk, q_art, q_bnx, q_brt, q_bro, q_bex, q_va, q_ow, q_boo, add_int, sub_int, lt_int, le_int, gt_int, ge_int, neg_int, List.map_cons, List.map_nil, List.length_cons, List.length_nil, List.nil_append, List.cons_append, List.replicate, List.getElem?_cons_zero, List.getElem?_cons_succ, env_set0, env_setS, Option.bind_some, Option.map_some, if_true, Bool.false_eq_true, if_false, Nat.reduceAdd, Nat.reduceSub, sizeLine_eq, Nat.reduceLeDiff, Nat.zero_le, en0, en1, en2, e1, e2, e3, e4, e5, e6]
  rfl
/-! identities -/
theorem dt_comm (p q : P3) : dtP p q = dtP q p := by
  obtain ⟨a, b, c⟩ := p
  obtain ⟨d, e, f⟩ := q
  simp only [dtP]
  grind
/-- a vector by three that stand askew -/
theorem split3 (g w v : P3) (k : Nat) : dtP (crP w v) (crP w v) * co k g = dtP (crP g v) (crP w v) * co k w - dtP (crP g w) (crP w v) * co k v + dtP g (crP w v) * co k (crP w v) := by
  obtain ⟨a, b, c⟩ := g
  obtain ⟨d, e, f⟩ := w
  obtain ⟨x, y, z⟩ := v
  match k with
  | 0 => simp only [dtP, crP, co]; grind
  | 1 => simp only [dtP, crP, co]; grind
  | k + 2 => simp only [dtP, crP, co]; grind
theorem dt_pos {p : P3} (h : p ≠ (0, 0, 0)) : 0 < dtP p p := by
  obtain ⟨a, b, c⟩ := p
  have sq : ∀ x : Int, 0 ≤ x * x ∧ (x ≠ 0 → 0 < x * x) := fun x => by
    refine ⟨?_, fun hx => ?_⟩
    · rcases Int.le_total 0 x with z | z
      · exact Int.mul_nonneg z z
      · exact Int.mul_nonneg_of_nonpos_of_nonpos z z
    · rcases Int.lt_trichotomy x 0 with z | z | z
      · exact Int.mul_pos_of_neg_of_neg z z
      · exact absurd z hx
      · exact Int.mul_pos z z
  have ha := sq a
  have hb := sq b
  have hc := sq c
  simp only [dtP]
  by_cases z1 : a = 0
  · by_cases z2 : b = 0
    · by_cases z3 : c = 0
      · subst z1 z2 z3; exact absurd rfl h
      · have := hc.2 z3; omega
    · have := hb.2 z2; omega
  · have := ha.2 z1; omega
end DL
end
section
set_option Elab.async false
set_option linter.all false
set_option maxRecDepth 100000
set_option maxHeartbeats 4000000
set_option autoImplicit false
namespace DL
variable [TbC]
open PySem
theorem F_minus_eq (p q : P3) : F_minus [en p, en q] = .ok (.va (en (mnP p q))) := by
  simp only [F_minus, g_minus, bodyF, startE, seqS, stS, stO, rtS, roS, roV, asS, ifS, xpS, bin, un, unN, lstF, lsF, consF, nilF, tupF, kc, gv, gb, tst, andT, orT, notT, andV, orV, notV, ifV, callF, callN, iterF, rngF, walked, slF, noP, soP, setN, setT, setCons, setNil, wipeE, yes, forS, prS, Rz.bind_ok, q_ofO, q_ofN, q_bad, q_ex, q_exS, q_exX, q_exB, q_okB, q_nx, q_rt, q_ro, q_bk, q_ct, q_sx, q_anx, q_act, q_abk, q_art, q_bnx, q_brt, q_bro, q_bex, q_va, q_ow, q_boo, add_int, sub_int, lt_int, le_int, gt_int, ge_int, neg_int, List.map_cons, List.map_nil, List.length_cons, List.length_nil, List.nil_append, List.cons_append, List.replicate, List.getElem?_cons_zero, List.getElem?_cons_succ, env_set0, env_setS, Option.bind_some, Option.map_some, if_true, Bool.false_eq_true, if_false, Nat.reduceAdd, Nat.reduceSub, sizeLine_eq, Nat.reduceLeDiff, Nat.zero_le, en0, en1, en2]
  rfl
end DL
end
section
set_option Elab.async false
set_option linter.all false
set_option maxRecDepth 100000
set_option maxHeartbeats 4000000
set_option autoImplicit false
namespace DL
variable [TbC]
open PySem
/-! ### times that may be none -/
def hiD : Option Fr → Dt
  | none => .non
  | some x => fr x
structure Gt (x : Fr) : Prop where
  rd : Rdc x
  b1 : Bd 9000 x.1
  b2 : Bd 9000 x.2
theorem Gt.pos {x : Fr} (h : Gt x) : 0 < x.2 := h.rd.1
theorem gt_rat {t u : Int} (hu : u ≠ 0) (h1 : Bd 9000 t) (h2 : Bd 9000 u) : Gt (rat t u) := ⟨rat_rd hu, (rat_bd hu h1 h2).1, (rat_bd hu h1 h2).2⟩
theorem gt_01 : Gt (0, 1) := ⟨⟨by decide, by decide⟩, Bd.mono (n := 1) (show (0 : Int).natAbs < 2 ^ 1 by decide) (by decide), Bd.mono (n := 1) (show (1 : Int).natAbs < 2 ^ 1 by decide) (by decide)⟩
def lesO : Option Fr → Option Fr → Option Fr
  | none, y => y
  | some x, none => some x
  | some x, some y => if gle x y then some x else some y
theorem F_lesser_eq {x y : Option Fr} (hx : ∀ a, x = some a → Gt a) (hy : ∀ a, y = some a → Gt a) : F_lesser [hiD x, hiD y] = .ok (.va (hiD (lesO x y))) := by
  have n0 : isND .non .non = some (.bl true) := rfl
  have n1 : ∀ x : Fr, isND (fr x) .non = some (.bl false) := fun _ => rfl
  have n2 : notND .non .non = some (.bl false) := rfl
  have n3 : ∀ x : Fr, notND (fr x) .non = some (.bl true) := fun _ => rfl
  cases x with
  | none =>
    simp only [F_lesser, g_lesser, bodyF, startE, seqS, stS, stO, rtS, roS, roV, asS, ifS, xpS, bin, un, unN, lstF, lsF, consF, nilF, tupF, kc, gv, gb, tst, andT, orT, notT, andV, orV, notV, ifV, callF, callN, iterF, rngF, walked, slF, noP, soP, setN, setT, setCons, setNil, wipeE, yes, forS, prS, Rz.bind_ok, q_ofO, q_ofN, q_bad, q_ex, q_exS, q_exX, q_exB, q_okB, q_nx, q_rt, q_ro, q_bk, q_ct, q_sx, q_anx, q_act, q_abk, q_art, q_bnx, q_brt, q_bro, q_bex, q_va, q_ow, q_boo, add_int, sub_int, lt_int, le_int, gt_int, ge_int, neg_int, List.map_cons, List.map_nil, List.length_cons, List.length_nil, List.nil_append, List.cons_append, List.replicate, List.getElem?_cons_zero, List.getElem?_cons_succ, env_set0, env_setS, Option.bind_some, Option.map_some, if_true, Bool.false_eq_true, if_false, Nat.reduceAdd, Nat.reduceSub, sizeLine_eq, Nat.reduceLeDiff, Nat.zero_le, hiD, n0, lesO]
  | some a =>
    cases y with
    | none => simp only [F_lesser, g_lesser, bodyF, startE, seqS, stS, stO, rtS, roS, roV, asS, ifS, xpS, bin, un, unN, lstF, lsF, consF, nilF, tupF, kc, gv, gb, tst, andT, orT, notT, andV, orV, notV, ifV, callF, callN, iterF, rngF, walked, slF, noP, soP, setN, setT, setCons, setNil, wipeE, yes, forS, prS, Rz.bind_ok, q_ofO, q_ofN, q_bad, q_ex, q_exS, q_exX, q_exB, q_okB, q_nx, q_rt, q_ro, q_bk, q_ct, q_sx, q_anx, q_act, q_abk, q_art, q_bnx, q_brt, q_bro, q_bex, q_va, q_ow, q_boo, add_int, sub_int, lt_int, le_int, gt_int, ge_int, neg_int, List.map_cons, List.map_nil, List.length_cons, List.length_nil, List.nil_append, List.cons_append, List.replicate, List.getElem?_cons_zero, List.getElem?_cons_succ, env_set0, env_setS, Option.bind_some, Option.map_some, if_true, Bool.false_eq_true, if_false, Nat.reduceAdd, Nat.reduceSub, sizeLine_eq, Nat.reduceLeDiff, Nat.zero_le, hiD, n1, n2, lesO]
    | some b =>
      have ga := hx a rfl
      have gb' := hy b rfl
      have l := F_is_less_eq (x := b) (y := a) gb'.b1 gb'.b2 ga.b1 ga.b2 (by decide) (by decide)
      by_cases c : gle a b
      · simp only [F_lesser, g_lesser, bodyF, startE, seqS, stS, stO, rtS, roS, roV, asS, ifS, xpS, bin, un, unN, lstF, lsF, consF, nilF, tupF, kc, gv, gb, tst, andT, orT, notT, andV, orV, notV, ifV, callF, callN, iterF, rngF, walked, slF, noP, soP, setN, setT, setCons, setNil, wipeE, yes, forS, prS, Rz.bind_ok, q_ofO, q_ofN, q_bad, q_ex, q_exS, q_exX, q_exB, q_okB, q_nx, q_rt, q_ro, q_bk, q_ct, q_sx, q_anx, q_act, q_abk, q_art, q_bnx, q_brt, q_bro, q_bex, q_va, q_ow, q_boo, add_int, sub_int, lt_int, le_int, gt_int, ge_int, neg_int, List.map_cons, List.map_nil, List.length_cons, List.length_nil, List.nil_append, List.cons_append, List.replicate, List.getElem?_cons_zero, List.getElem?_cons_succ, env_set0, env_setS, Option.bind_some, Option.map_some, if_true, Bool.false_eq_true, if_false, Nat.reduceAdd, Nat.reduceSub, sizeLine_eq, Nat.reduceLeDiff, Nat.zero_le, hiD, n1, n3, l, decide_eq_true c, Bool.not_true, lesO, if_pos c]
      · simp only [F_lesser, g_lesser, bodyF, startE, seqS, stS, stO, rtS, roS, roV, asS, ifS, xpS, bin, un, unN, lstF, lsF, consF, nilF, tupF, kc, gv, gb, tst, andT, orT, notT, andV, orV, notV, ifV, callF, callN, iterF, rngF, walked, slF, noP, soP, setN, setT, setCons, setNil, wipeE, yes, forS, prS, Rz.bind_ok, q_ofO, q_ofN, q_bad, q_ex, q_exS, q_exX, q_exB, q_okB, q_nx, q_rt, q_ro, q_bk, q_ct, q_sx, q_anx, q_act, q_abk, q_art, q_bnx, q_brt, q_bro, q_bex, q_va, q_ow, q_boo, add_int, sub_int, lt_int, le_int, gt_int, ge_int, neg_int, List.map_cons, List.map_nil, List.length_cons, List.length_nil, List.nil_append, List.cons_append, List.replicate, List.getElem?_cons_zero, List.getElem?_cons_succ, env_set0, env_setS, Option.bind_some, Option.map_some, if_true, Bool.false_eq_true, if_false, Nat.reduceAdd, Nat.reduceSub, sizeLine_eq, Nat.reduceLeDiff, Nat.zero_le, hiD, n1, n3, l, decide_eq_false c, Bool.not_false, lesO, if_neg c]
/-! ### what is the first of times -/
/-- r tells the first of the times at which S holds -/
structure Fst (S : Fr → Prop) (r : Option Fr) : Prop where
  g : ∀ x, r = some x → Gt x ∧ 0 ≤ x.1 ∧ S x
  least : ∀ x, r = some x → ∀ t : Fr, 0 < t.2 → 0 ≤ t.1 → S t → gle x t
  no : r = none → ∀ t : Fr, 0 < t.2 → 0 ≤ t.1 → ¬ S t
theorem Fst.or {S T : Fr → Prop} {x y : Option Fr} (h : Fst S x) (k : Fst T y) : Fst (fun t => S t ∨ T t) (lesO x y) := by
  cases x with
  | none => exact ⟨fun a e => ⟨(k.g a e).1, (k.g a e).2.1, .inr (k.g a e).2.2⟩, fun a e t h1 h2 z => z.elim (fun z => absurd z (h.no rfl t h1 h2)) fun z => k.least a e t h1 h2 z, fun e t h1 h2 z => z.elim (h.no rfl t h1 h2) (k.no e t h1 h2)⟩
  | some a =>
    cases y with
    | none => exact ⟨fun b e => by cases e; exact ⟨(h.g a rfl).1, (h.g a rfl).2.1, .inl (h.g a rfl).2.2⟩, fun b e t h1 h2 z => by cases e; exact z.elim (fun z => h.least a rfl t h1 h2 z) fun z => absurd z (k.no rfl t h1 h2), fun e => nomatch e⟩
    | some b =>
      have ga := h.g a rfl
      have gb := k.g b rfl
      unfold lesO
      by_cases c : gle a b
      · simp only [if_pos c]
        exact ⟨fun x e => by cases e; exact ⟨ga.1, ga.2.1, .inl ga.2.2⟩, fun x e t h1 h2 z => by cases e; exact z.elim (fun z => h.least a rfl t h1 h2 z) fun z => gle_trans ga.1.pos gb.1.pos h1 c (k.least b rfl t h1 h2 z), fun e => nomatch e⟩
      · simp only [if_neg c]
        exact ⟨fun x e => by cases e; exact ⟨gb.1, gb.2.1, .inr gb.2.2⟩, fun x e t h1 h2 z => by cases e; exact z.elim (fun z => gle_trans gb.1.pos ga.1.pos h1 (gle_of_not c) (h.least a rfl t h1 h2 z)) fun z => k.least b rfl t h1 h2 z, fun e => nomatch e⟩
theorem Fst.cong {S T : Fr → Prop} {r : Option Fr} (h : Fst S r) (e : ∀ t : Fr, 0 < t.2 → 0 ≤ t.1 → (S t ↔ T t)) : Fst T r :=
  ⟨fun x q => ⟨(h.g x q).1, (h.g x q).2.1, (e x (h.g x q).1.pos (h.g x q).2.1).mp (h.g x q).2.2⟩, fun x q t h1 h2 z => h.least x q t h1 h2 ((e t h1 h2).mpr z), fun q t h1 h2 z => h.no q t h1 h2 ((e t h1 h2).mpr z)⟩
theorem Fst.same {S : Fr → Prop} {x y : Option Fr} (h : Fst S x) (k : Fst S y) : x = y := by
  cases x with
  | none =>
    cases y with
    | none => rfl
    | some b => exact absurd (k.g b rfl).2.2 (h.no rfl b (k.g b rfl).1.pos (k.g b rfl).2.1)
  | some a =>
    cases y with
    | none => exact absurd (h.g a rfl).2.2 (k.no rfl a (h.g a rfl).1.pos (h.g a rfl).2.1)
    | some b =>
      have ga := h.g a rfl
      have gb := k.g b rfl
      rw [ga.1.rd.anti gb.1.rd (h.least a rfl b gb.1.pos gb.2.1 gb.2.2) (k.least b rfl a ga.1.pos ga.2.1 ga.2.2)]
/-! ### the ray's place at a time, a segment -/
def atP (s w : P3) (t : Fr) : P3 := (s.1 * t.2 + w.1 * t.1, s.2.1 * t.2 + w.2.1 * t.1, s.2.2 * t.2 + w.2.2 * t.1)
theorem co_at (s w : P3) (t : Fr) (k : Nat) : co k (atP s w t) = co k s * t.2 + co k w * t.1 := by
  match k with
  | 0 => rfl
  | 1 => rfl
  | k + 2 => rfl
theorem co_mn (p q : P3) (k : Nat) : co k (mnP p q) = co k p - co k q := by
  match k with
  | 0 => rfl
  | 1 => rfl
  | k + 2 => rfl
def Seg (X : P3) (m : Int) (p q : P3) : Prop := ∃ α β : Int, 0 ≤ α ∧ 0 ≤ β ∧ 0 < α + β ∧ ∀ k, (α + β) * co k X = m * (α * co k p + β * co k q)
theorem dt_co (p q : P3) : dtP p q = co 0 p * co 0 q + co 1 p * co 1 q + co 2 p * co 2 q := rfl
theorem ext3 {p q : P3} (h : ∀ k, co k p = co k q) : p = q := by
  have h0 := h 0
  have h1 := h 1
  have h2 := h 2
  obtain ⟨a, b, c⟩ := p
  obtain ⟨d, e, f⟩ := q
  simp only [co] at h0 h1 h2
  rw [h0, h1, h2]
theorem co_zero (k : Nat) : co k ((0, 0, 0) : P3) = 0 := by
  match k with
  | 0 => rfl
  | 1 => rfl
  | k + 2 => rfl
/-- where the ray stands on the line of the segment's ends, told by gaps -/
theorem seg_vec {s w p q : P3} {t : Fr} {α β : Int} (h : ∀ k, (α + β) * co k (atP s w t) = t.2 * (α * co k p + β * co k q)) (k : Nat) : (α + β) * (co k w * t.1) = t.2 * (α * co k (mnP p s) + β * co k (mnP q s)) := by
  have := h k
  rw [co_at] at this
  rw [co_mn, co_mn]
  grind
end DL
end
section
set_option Elab.async false
set_option linter.all false
set_option maxRecDepth 100000
set_option maxHeartbeats 4000000
set_option autoImplicit false
namespace DL
variable [TbC]
open PySem
theorem ray0 (s w : P3) : ixD (rayD s w) (.int 0) = some (en s) := rfl
theorem ray1 (s w : P3) : ixD (rayD s w) (.int 1) = some (en w) := rfl
def alg (s w x : P3) : Option Fr := if dtP (mnP x s) w < 0 then none else some (rat (dtP (mnP x s) w) (dtP w w))
theorem F_along_eq {s w x : P3} (b1 : BdN 500 s) (b2 : BdN 2000 w) (b3 : BdN 500 x) (hw : w ≠ (0, 0, 0)) : F_along [rayD s w, en x] = .ok (.va (hiD (alg s w x))) := by
  have p := dt_pos hw
  have d1 := F_dot_eq (b3.mn b1) b2 (by decide) (by decide) (by decide)
  have d2 := F_dot_eq b2 b2 (by decide) (by decide) (by decide)
  have r := F_ratio_eq (t := dtP (mnP x s) w) (u := dtP w w) (by omega) (b2.dt b2) (by decide)
  by_cases c : dtP (mnP x s) w < 0
  · simp only [F_along, g_along, bodyF, startE, seqS, stS, stO, rtS, roS, roV, asS, ifS, xpS, bin, un, unN, lstF, lsF, consF, nilF, tupF, kc, gv, gb, tst, andT, orT, notT, andV, orV, notV, ifV, callF, callN, iterF, rngF, walked, slF, noP, soP, setN, setT, setCons, setNil, wipeE, yes, forS, prS, Rz.bind_ok, q_ofO, q_ofN, q_bad, q_ex, q_exS, q_exX, q_exB, q_okB, q_nx, q_rt, q_ro, q_bk, q_ct, q_sx, q_anx, q_act, q_abk, q_art, q_bnx, q_brt, q_bro, q_bex, q_va, q_ow, q_boo, add_int, sub_int, lt_int, le_int, gt_int, ge_int, neg_int, List.map_cons, List.map_nil, List.length_cons, List.length_nil, List.nil_append, List.cons_append, List.replicate, List.getElem?_cons_zero, List.getElem?_cons_succ, env_set0, env_setS, Option.bind_some, Option.map_some, if_true, Bool.false_eq_true, if_false, Nat.reduceAdd, Nat.reduceSub, sizeLine_eq, Nat.reduceLeDiff, Nat.zero_le, ray0, ray1, F_minus_eq, d1, decide_eq_true c, alg, if_pos c, hiD]
  · simp only [F_along, g_along, bodyF, startE, seqS, stS, stO, rtS, roS, roV, asS, ifS, xpS, bin, un, unN, lstF, lsF, consF, nilF, tupF, kc, gv, gb, tst, andT, orT, notT, andV, orV, notV, ifV, callF, callN, iterF, rngF, walked, slF, noP, soP, setN, setT, setCons, setNil, wipeE, yes, forS, prS, Rz.bind_ok, q_ofO, q_ofN, q_bad, q_ex, q_exS, q_exX, q_exB, q_okB, q_nx, q_rt, q_ro, q_bk, q_ct, q_sx, q_anx, q_act, q_abk, q_art, q_bnx, q_brt, q_bro, q_bex, q_va, q_ow, q_boo, add_int, sub_int, lt_int, le_int, gt_int, ge_int, neg_int, List.map_cons, List.map_nil, List.length_cons, List.length_nil, List.nil_append, List.cons_append, List.replicate, List.getElem?_cons_zero, List.getElem?_cons_succ, env_set0, env_setS, Option.bind_some, Option.map_some, if_true, Bool.false_eq_true, if_false, Nat.reduceAdd, Nat.reduceSub, sizeLine_eq, Nat.reduceLeDiff, Nat.zero_le, ray0, ray1, F_minus_eq, d1, decide_eq_false c, alg, if_neg c, hiD, d2, r]
theorem alg_gt {s w x : P3} (b1 : BdN 500 s) (b2 : BdN 2000 w) (b3 : BdN 500 x) (hw : w ≠ (0, 0, 0)) : ∀ a, alg s w x = some a → Gt a := fun a e => by
  have p := dt_pos hw
  unfold alg at e
  split at e
  · cases e
  · cases e
    exact gt_rat (by omega) (((b3.mn b1).dt b2).mono (by decide)) ((b2.dt b2).mono (by decide))
def onL (x y : Option Fr) : Option Fr := match x, y with
  | none, none => none
  | some a, some b => lesO (some a) (some b)
  | _, _ => some (0, 1)
theorem F_on_line_eq {s w p q : P3} (b1 : BdN 500 s) (b2 : BdN 2000 w) (b3 : BdN 500 p) (b4 : BdN 500 q) (hw : w ≠ (0, 0, 0)) : F_on_line [rayD s w, en p, en q] = .ok (.va (hiD (onL (alg s w p) (alg s w q)))) := by
  have a1 := F_along_eq b1 b2 b3 hw
  have a2 := F_along_eq b1 b2 b4 hw
  have g1 := alg_gt b1 b2 b3 hw
  have g2 := alg_gt b1 b2 b4 hw
  generalize alg s w p = x at a1 g1
  generalize alg s w q = y at a2 g2
  have n0 : isND .non .non = some (.bl true) := rfl
  have n1 : ∀ x : Fr, isND (fr x) .non = some (.bl false) := fun _ => rfl
  have l := F_lesser_eq g1 g2
  cases x with
  | none =>
    cases y with
    | none => simp only [F_on_line, g_on_line, bodyF, startE, seqS, stS, stO, rtS, roS, roV, asS, ifS, xpS, bin, un, unN, lstF, lsF, consF, nilF, tupF, kc, gv, gb, tst, andT, orT, notT, andV, orV, notV, ifV, callF, callN, iterF, rngF, walked, slF, noP, soP, setN, setT, setCons, setNil, wipeE, yes, forS, prS, Rz.bind_ok, q_ofO, q_ofN, q_bad, q_ex, q_exS, q_exX, q_exB, q_okB, q_nx, q_rt, q_ro, q_bk, q_ct, q_sx, q_anx, q_act, q_abk, q_art, q_bnx, q_brt, q_bro, q_bex, q_va, q_ow, q_boo, add_int, sub_int, lt_int, le_int, gt_int, ge_int, neg_int, List.map_cons, List.map_nil, List.length_cons, List.length_nil, List.nil_append, List.cons_append, List.replicate, List.getElem?_cons_zero, List.getElem?_cons_succ, env_set0, env_setS, Option.bind_some, Option.map_some, if_true, Bool.false_eq_true, if_false, Nat.reduceAdd, Nat.reduceSub, sizeLine_eq, Nat.reduceLeDiff, Nat.zero_le, a1, a2, hiD, n0, onL]
    | some b => simp only [F_on_line, g_on_line, bodyF, startE, seqS, stS, stO, rtS, roS, roV, asS, ifS, xpS, bin, un, unN, lstF, lsF, consF, nilF, tupF, kc, gv, gb, tst, andT, orT, notT, andV, orV, notV, ifV, callF, callN, iterF, rngF, walked, slF, noP, soP, setN, setT, setCons, setNil, wipeE, yes, forS, prS, Rz.bind_ok, q_ofO, q_ofN, q_bad, q_ex, q_exS, q_exX, q_exB, q_okB, q_nx, q_rt, q_ro, q_bk, q_ct, q_sx, q_anx, q_act, q_abk, q_art, q_bnx, q_brt, q_bro, q_bex, q_va, q_ow, q_boo, add_int, sub_int, lt_int, le_int, gt_int, ge_int, neg_int, List.map_cons, List.map_nil, List.length_cons, List.length_nil, List.nil_append, List.cons_append, List.replicate, List.getElem?_cons_zero, List.getElem?_cons_succ, env_set0, env_setS, Option.bind_some, Option.map_some, if_true, Bool.false_eq_true, if_false, Nat.reduceAdd, Nat.reduceSub, sizeLine_eq, Nat.reduceLeDiff, Nat.zero_le, a1, a2, hiD, n0, n1, onL]; rfl
  | some a =>
    cases y with
    | none => simp only [F_on_line, g_on_line, bodyF, startE, seqS, stS, stO, rtS, roS, roV, asS, ifS, xpS, bin, un, unN, lstF, lsF, consF, nilF, tupF, kc, gv, gb, tst, andT, orT, notT, andV, orV, notV, ifV, callF, callN, iterF, rngF, walked, slF, noP, soP, setN, setT, setCons, setNil, wipeE, yes, forS, prS, Rz.bind_ok, q_ofO, q_ofN, q_bad, q_ex, q_exS, q_exX, q_exB, q_okB, q_nx, q_rt, q_ro, q_bk, q_ct, q_sx, q_anx, q_act, q_abk, q_art, q_bnx, q_brt, q_bro, q_bex, q_va, q_ow, q_boo, add_int, sub_int, lt_int, le_int, gt_int, ge_int, neg_int, List.map_cons, List.map_nil, List.length_cons, List.length_nil, List.nil_append, List.cons_append, List.replicate, List.getElem?_cons_zero, List.getElem?_cons_succ, env_set0, env_setS, Option.bind_some, Option.map_some, if_true, Bool.false_eq_true, if_false, Nat.reduceAdd, Nat.reduceSub, sizeLine_eq, Nat.reduceLeDiff, Nat.zero_le, a1, a2, hiD, n0, n1, onL]; rfl
    | some b =>
      have l' : F_lesser [fr a, fr b] = .ok (.va (hiD (lesO (some a) (some b)))) := l
      simp only [F_on_line, g_on_line, bodyF, startE, seqS, stS, stO, rtS, roS, roV, asS, ifS, xpS, bin, un, unN, lstF, lsF, consF, nilF, tupF, kc, gv, gb, tst, andT, orT, notT, andV, orV, notV, ifV, callF, callN, iterF, rngF, walked, slF, noP, soP, setN, setT, setCons, setNil, wipeE, yes, forS, prS, Rz.bind_ok, q_ofO, q_ofN, q_bad, q_ex, q_exS, q_exX, q_exB, q_okB, q_nx, q_rt, q_ro, q_bk, q_ct, q_sx, q_anx, q_act, q_abk, q_art, q_bnx, q_brt, q_bro, q_bex, q_va, q_ow, q_boo, add_int, sub_int, lt_int, le_int, gt_int, ge_int, neg_int, List.map_cons, List.map_nil, List.length_cons, List.length_nil, List.nil_append, List.cons_append, List.replicate, List.getElem?_cons_zero, List.getElem?_cons_succ, env_set0, env_setS, Option.bind_some, Option.map_some, if_true, Bool.false_eq_true, if_false, Nat.reduceAdd, Nat.reduceSub, sizeLine_eq, Nat.reduceLeDiff, Nat.zero_le, a1, a2, hiD, n1, onL, l']
def segR (s w p q : P3) : Option Fr :=
  if crP w (mnP q p) = (0, 0, 0) then (if crP (mnP p s) w ≠ (0, 0, 0) then none else onL (alg s w p) (alg s w q))
  else if dtP (mnP p s) (crP w (mnP q p)) ≠ 0 then none
  else if dtP (crP (mnP p s) (mnP q p)) (crP w (mnP q p)) < 0 ∨ dtP (crP (mnP p s) w) (crP w (mnP q p)) < 0 ∨ dtP (crP (mnP p s) w) (crP w (mnP q p)) > dtP (crP w (mnP q p)) (crP w (mnP q p)) then none
  else some (rat (dtP (crP (mnP p s) (mnP q p)) (crP w (mnP q p))) (dtP (crP w (mnP q p)) (crP w (mnP q p))))
theorem eqz (p : P3) : eqD (en p) (.tup [.int 0, .int 0, .int 0]) = some (.bl (decide (p = (0, 0, 0)))) := by
  rw [eqD_of (n := 1) rfl rfl (by decide), show Dt.tup [.int 0, .int 0, .int 0] = en (0, 0, 0) from rfl, eqq_en]
theorem nez (p : P3) : neD (en p) (.tup [.int 0, .int 0, .int 0]) = some (.bl (!decide (p = (0, 0, 0)))) := by
  rw [neD_of (n := 1) rfl rfl (by decide), show Dt.tup [.int 0, .int 0, .int 0] = en (0, 0, 0) from rfl, eqq_en]
theorem F_meets_segment_eq {s w p q : P3} (b1 : BdN 500 s) (b2 : BdN 2000 w) (b3 : BdN 500 p) (b4 : BdN 500 q) (hw : w ≠ (0, 0, 0)) : F_meets_segment [rayD s w, en p, en q] = .ok (.va (hiD (segR s w p q))) := by
  have ol := F_on_line_eq b1 b2 b3 b4 hw
  have bs := b4.mn b3
  have bg := b3.mn b1
  have bu := b2.cr bs
  have c1 := F_cross_eq b2 bs (by decide) (by decide) (by decide)
  have c2 := F_cross_eq bg b2 (by decide) (by decide) (by decide)
  have c3 := F_cross_eq bg bs (by decide) (by decide) (by decide)
  have d1 := F_dot_eq bg bu (by decide) (by decide) (by decide)
  have d2 := F_dot_eq bu bu (by decide) (by decide) (by decide)
  have d3 := F_dot_eq (bg.cr bs) bu (by decide) (by decide) (by decide)
  have d4 := F_dot_eq (bg.cr b2) bu (by decide) (by decide) (by decide)
  have wk : walked (rayD s w) = some [en s, en w] := rfl
  have sT : ∀ (x0 x1 x2 x3 x4 x5 x6 x7 x8 x9 x10 : Lc), setT 2 (setCons (setN 3) (setCons (setN 4) setNil)) (rayD s w) [x0, x1, x2, x3, x4, x5, x6, x7, x8, x9, x10] = some [x0, x1, x2, .d (en s), .d (en w), x5, x6, x7, x8, x9, x10] := fun _ _ _ _ _ _ _ _ _ _ _ => rfl
  refine b_rt ?_
  unfold g_meets_segment
  refine (s_as (ε' := [.d (rayD s w), .d (en p), .d (en q), .d (en s), .d (en w), .u, .u, .u, .u, .u, .u]) rfl (sT _ _ _ _ _ _ _ _ _ _ _)).trans ?_
  refine (s_st (d := en (mnP q p)) (c_1 rfl rfl (F_minus_eq _ _) rfl)).trans ?_
  refine (s_st (d := en (mnP p s)) (c_1 rfl rfl (F_minus_eq _ _) rfl)).trans ?_
  refine (s_st (d := en (crP w (mnP q p))) (c_1 rfl rfl c1 rfl)).trans ?_
  unfold segR
  by_cases hu : crP w (mnP q p) = (0, 0, 0)
  · rw [if_pos hu]
    by_cases hg : crP (mnP p s) w = (0, 0, 0)
    · rw [if_neg (fun z => z hg)]
      simp only [bodyF, startE, seqS, stS, stO, rtS, roS, roV, asS, ifS, xpS, bin, un, unN, lstF, lsF, consF, nilF, tupF, kc, gv, gb, tst, andT, orT, notT, andV, orV, notV, ifV, callF, callN, iterF, rngF, walked, slF, noP, soP, setN, setT, setCons, setNil, wipeE, yes, forS, prS, Rz.bind_ok, q_ofO, q_ofN, q_bad, q_ex, q_exS, q_exX, q_exB, q_okB, q_nx, q_rt, q_ro, q_bk, q_ct, q_sx, q_anx, q_act, q_abk, q_art, q_bnx, q_brt, q_bro, q_bex, q_va, q_ow, q_boo, add_int, sub_int, lt_int, le_int, gt_int, ge_int, neg_int, List.map_cons, List.map_nil, List.length_cons, List.length_nil, List.nil_append, List.cons_append, List.replicate, List.getElem?_cons_zero, List.getElem?_cons_succ, env_set0, env_setS, Option.bind_some, Option.map_some, if_true, Bool.false_eq_true, if_false, Nat.reduceAdd, Nat.reduceSub, sizeLine_eq, Nat.reduceLeDiff, Nat.zero_le, eqz, nez, decide_eq_true hu, c2, decide_eq_true hg, Bool.not_true, ol]
    · rw [if_pos hg]
      simp only [bodyF, startE, seqS, stS, stO, rtS, roS, roV, asS, ifS, xpS, bin, un, unN, lstF, lsF, consF, nilF, tupF, kc, gv, gb, tst, andT, orT, notT, andV, orV, notV, ifV, callF, callN, iterF, rngF, walked, slF, noP, soP, setN, setT, setCons, setNil, wipeE, yes, forS, prS, Rz.bind_ok, q_ofO, q_ofN, q_bad, q_ex, q_exS, q_exX, q_exB, q_okB, q_nx, q_rt, q_ro, q_bk, q_ct, q_sx, q_anx, q_act, q_abk, q_art, q_bnx, q_brt, q_bro, q_bex, q_va, q_ow, q_boo, add_int, sub_int, lt_int, le_int, gt_int, ge_int, neg_int, List.map_cons, List.map_nil, List.length_cons, List.length_nil, List.nil_append, List.cons_append, List.replicate, List.getElem?_cons_zero, List.getElem?_cons_succ, env_set0, env_setS, Option.bind_some, Option.map_some, if_true, Bool.false_eq_true, if_false, Nat.reduceAdd, Nat.reduceSub, sizeLine_eq, Nat.reduceLeDiff, Nat.zero_le, eqz, nez, decide_eq_true hu, c2, decide_eq_false hg, Bool.not_false, hiD]
  · rw [if_neg hu]
    have pu := dt_pos hu
    have r := F_ratio_eq (t := dtP (crP (mnP p s) (mnP q p)) (crP w (mnP q p))) (u := dtP (crP w (mnP q p)) (crP w (mnP q p))) (by omega) (bu.dt bu) (by decide)
    by_cases hd : dtP (mnP p s) (crP w (mnP q p)) = 0
    · rw [if_neg (fun z => z hd)]
      have e0 : neD (.int (dtP (mnP p s) (crP w (mnP q p)))) (.int 0) = some (.bl false) := by rw [neD_int, decide_eq_true hd]; rfl
      by_cases h1 : dtP (crP (mnP p s) (mnP q p)) (crP w (mnP q p)) < 0
      · rw [if_pos (.inl h1)]
        simp only [bodyF, startE, seqS, stS, stO, rtS, roS, roV, asS, ifS, xpS, bin, un, unN, lstF, lsF, consF, nilF, tupF, kc, gv, gb, tst, andT, orT, notT, andV, orV, notV, ifV, callF, callN, iterF, rngF, walked, slF, noP, soP, setN, setT, setCons, setNil, wipeE, yes, forS, prS, Rz.bind_ok, q_ofO, q_ofN, q_bad, q_ex, q_exS, q_exX, q_exB, q_okB, q_nx, q_rt, q_ro, q_bk, q_ct, q_sx, q_anx, q_act, q_abk, q_art, q_bnx, q_brt, q_bro, q_bex, q_va, q_ow, q_boo, add_int, sub_int, lt_int, le_int, gt_int, ge_int, neg_int, List.map_cons, List.map_nil, List.length_cons, List.length_nil, List.nil_append, List.cons_append, List.replicate, List.getElem?_cons_zero, List.getElem?_cons_succ, env_set0, env_setS, Option.bind_some, Option.map_some, if_true, Bool.false_eq_true, if_false, Nat.reduceAdd, Nat.reduceSub, sizeLine_eq, Nat.reduceLeDiff, Nat.zero_le, eqz, decide_eq_false hu, d1, e0, d2, c3, d3, c2, d4, decide_eq_true h1, hiD]
      · by_cases h2 : dtP (crP (mnP p s) w) (crP w (mnP q p)) < 0
        · rw [if_pos (.inr (.inl h2))]
          simp only [bodyF, startE, seqS, stS, stO, rtS, roS, roV, asS, ifS, xpS, bin, un, unN, lstF, lsF, consF, nilF, tupF, kc, gv, gb, tst, andT, orT, notT, andV, orV, notV, ifV, callF, callN, iterF, rngF, walked, slF, noP, soP, setN, setT, setCons, setNil, wipeE, yes, forS, prS, Rz.bind_ok, q_ofO, q_ofN, q_bad, q_ex, q_exS, q_exX, q_exB, q_okB, q_nx, q_rt, q_ro, q_bk, q_ct, q_sx, q_anx, q_act, q_abk, q_art, q_bnx, q_brt, q_bro, q_bex, q_va, q_ow, q_boo, add_int, sub_int, lt_int, le_int, gt_int, ge_int, neg_int, List.map_cons, List.map_nil, List.length_cons, List.length_nil, List.nil_append, List.cons_append, List.replicate, List.getElem?_cons_zero, List.getElem?_cons_succ, env_set0, env_setS, Option.bind_some, Option.map_some, if_true, Bool.false_eq_true, if_false, Nat.reduceAdd, Nat.reduceSub, sizeLine_eq, Nat.reduceLeDiff, Nat.zero_le, eqz, decide_eq_false hu, d1, e0, d2, c3, d3, c2, d4, decide_eq_false h1, decide_eq_true h2, hiD]
        · by_cases h3 : dtP (crP (mnP p s) w) (crP w (mnP q p)) > dtP (crP w (mnP q p)) (crP w (mnP q p))
          · rw [if_pos (.inr (.inr h3))]
            simp only [bodyF, startE, seqS, stS, stO, rtS, roS, roV, asS, ifS, xpS, bin, un, unN, lstF, lsF, consF, nilF, tupF, kc, gv, gb, tst, andT, orT, notT, andV, orV, notV, ifV, callF, callN, iterF, rngF, walked, slF, noP, soP, setN, setT, setCons, setNil, wipeE, yes, forS, prS, Rz.bind_ok, q_ofO, q_ofN, q_bad, q_ex, q_exS, q_exX, q_exB, q_okB, q_nx, q_rt, q_ro, q_bk, q_ct, q_sx, q_anx, q_act, q_abk, q_art, q_bnx, q_brt, q_bro, q_bex, q_va, q_ow, q_boo, add_int, sub_int, lt_int, le_int, gt_int, ge_int, neg_int, List.map_cons, List.map_nil, List.length_cons, List.length_nil, List.nil_append, List.cons_append, List.replicate, List.getElem?_cons_zero, List.getElem?_cons_succ, env_set0, env_setS, Option.bind_some, Option.map_some, if_true, Bool.false_eq_true, if_false, Nat.reduceAdd, Nat.reduceSub, sizeLine_eq, Nat.reduceLeDiff, Nat.zero_le, eqz, decide_eq_false hu, d1, e0, d2, c3, d3, c2, d4, decide_eq_false h1, decide_eq_false h2, decide_eq_true (show dtP (crP w (mnP q p)) (crP w (mnP q p)) < dtP (crP (mnP p s) w) (crP w (mnP q p)) from h3), hiD]
          · rw [if_neg (fun z => z.elim h1 fun z => z.elim h2 h3)]
            simp only [bodyF, startE, seqS, stS, stO, rtS, roS, roV, asS, ifS, xpS, bin, un, unN, lstF, lsF, consF, nilF, tupF, kc, gv, gb, tst, andT, orT, notT, andV, orV, notV, ifV, callF, callN, iterF, rngF, walked, slF, noP, soP, setN, setT, setCons, setNil, wipeE, yes, forS, prS, Rz.bind_ok, q_ofO, q_ofN, q_bad, q_ex, q_exS, q_exX, q_exB, q_okB, q_nx, q_rt, q_ro, q_bk, q_ct, q_sx, q_anx, q_act, q_abk, q_art, q_bnx, q_brt, q_bro, q_bex, q_va, q_ow, q_boo, add_int, sub_int, lt_int, le_int, gt_int, ge_int, neg_int, List.map_cons, List.map_nil, List.length_cons, List.length_nil, List.nil_append, List.cons_append, List.replicate, List.getElem?_cons_zero, List.getElem?_cons_succ, env_set0, env_setS, Option.bind_some, Option.map_some, if_true, Bool.false_eq_true, if_false, Nat.reduceAdd, Nat.reduceSub, sizeLine_eq, Nat.reduceLeDiff, Nat.zero_le, eqz, decide_eq_false hu, d1, e0, d2, c3, d3, c2, d4, decide_eq_false h1, decide_eq_false h2, decide_eq_false (show ¬ dtP (crP w (mnP q p)) (crP w (mnP q p)) < dtP (crP (mnP p s) w) (crP w (mnP q p)) from h3), hiD, r]
    · rw [if_pos hd]
      have e0 : neD (.int (dtP (mnP p s) (crP w (mnP q p)))) (.int 0) = some (.bl true) := by rw [neD_int, decide_eq_false hd]; rfl
      simp only [bodyF, startE, seqS, stS, stO, rtS, roS, roV, asS, ifS, xpS, bin, un, unN, lstF, lsF, consF, nilF, tupF, kc, gv, gb, tst, andT, orT, notT, andV, orV, notV, ifV, callF, callN, iterF, rngF, walked, slF, noP, soP, setN, setT, setCons, setNil, wipeE, yes, forS, prS, Rz.bind_ok, q_ofO, q_ofN, q_bad, q_ex, q_exS, q_exX, q_exB, q_okB, q_nx, q_rt, q_ro, q_bk, q_ct, q_sx, q_anx, q_act, q_abk, q_art, q_bnx, q_brt, q_bro, q_bex, q_va, q_ow, q_boo, add_int, sub_int, lt_int, le_int, gt_int, ge_int, neg_int, List.map_cons, List.map_nil, List.length_cons, List.length_nil, List.nil_append, List.cons_append, List.replicate, List.getElem?_cons_zero, List.getElem?_cons_succ, env_set0, env_setS, Option.bind_some, Option.map_some, if_true, Bool.false_eq_true, if_false, Nat.reduceAdd, Nat.reduceSub, sizeLine_eq, Nat.reduceLeDiff, Nat.zero_le, eqz, decide_eq_false hu, d1, e0, hiD]
end DL
end
section
set_option Elab.async false
set_option linter.all false
set_option maxRecDepth 100000
set_option maxHeartbeats 4000000
set_option autoImplicit false
namespace DL
variable [TbC]
open PySem
theorem mul_cancel {a b c : Int} (h : 0 < a) (e : a * b = a * c) : b = c := Int.eq_of_mul_eq_mul_left (by omega) e
/-- what stands in the line of the way -/
theorem par_way {g w : P3} (h : crP g w = (0, 0, 0)) (k : Nat) : dtP w w * co k g = dtP g w * co k w := by
  obtain ⟨a, b, c⟩ := g
  obtain ⟨d, e, f⟩ := w
  simp only [crP, Prod.mk.injEq] at h
  obtain ⟨h1, h2, h3⟩ := h
  match k with
  | 0 => simp only [dtP, co]; grind
  | 1 => simp only [dtP, co]; grind
  | k + 2 => simp only [dtP, co]; grind
theorem cr_at {s w p q : P3} {t : Fr} {α β : Int} (h : ∀ k, (α + β) * co k (atP s w t) = t.2 * (α * co k p + β * co k q)) (k : Nat) : (α + β) * (t.1 * co k w) = t.2 * ((α + β) * co k (mnP p s) + β * co k (mnP q p)) := by
  have := seg_vec h k
  rw [co_mn, co_mn] at this
  rw [co_mn, co_mn]
  grind
/-- what follows of a place on the segment, the way not in its line -/
theorem seg_out {s w p q : P3} {t : Fr} {α β : Int} (ht : 0 < t.2) (hs : 0 < α + β) (h : ∀ k, (α + β) * co k (atP s w t) = t.2 * (α * co k p + β * co k q)) :
    (∀ k, t.1 * co k (crP w (mnP q p)) = t.2 * co k (crP (mnP p s) (mnP q p))) ∧ (∀ k, (α + β) * co k (crP (mnP p s) w) = β * co k (crP w (mnP q p))) := by
  have h0 := cr_at h 0
  have h1 := cr_at h 1
  have h2 := cr_at h 2
  generalize mnP p s = g at *
  generalize mnP q p = v at *
  obtain ⟨a, b, c⟩ := g
  obtain ⟨d, e, f⟩ := w
  obtain ⟨x, y, z⟩ := v
  simp only [co] at h0 h1 h2
  constructor
  · intro k
    apply mul_cancel hs
    match k with
    | 0 => simp only [co, crP]; grind
    | 1 => simp only [co, crP]; grind
    | k + 2 => simp only [co, crP]; grind
  · intro k
    apply mul_cancel ht
    match k with
    | 0 => simp only [co, crP]; grind
    | 1 => simp only [co, crP]; grind
    | k + 2 => simp only [co, crP]; grind
theorem dt_zero_of (g w v : P3) {a b : Int} (hb : 0 < b) (h : ∀ k, a * co k (crP w v) = b * co k (crP g v)) : dtP g (crP w v) = 0 := by
  have h0 := h 0
  have h1 := h 1
  have h2 := h 2
  apply mul_cancel hb
  obtain ⟨a1, b1, c1⟩ := g
  obtain ⟨d, e, f⟩ := w
  obtain ⟨x, y, z⟩ := v
  simp only [co, crP] at h0 h1 h2
  simp only [dtP, crP]
  grind
theorem dt_scale {u v x : P3} {a b : Int} (h : ∀ k, a * co k u = b * co k v) : a * dtP u x = b * dtP v x := by
  have h0 := h 0
  have h1 := h 1
  have h2 := h 2
  rw [dt_co, dt_co]
  grind
theorem way_ne {w : P3} (hw : w ≠ (0, 0, 0)) : 0 < dtP w w := dt_pos hw
theorem segR_spec {s w p q : P3} (b1 : BdN 500 s) (b2 : BdN 2000 w) (b3 : BdN 500 p) (b4 : BdN 500 q) (hw : w ≠ (0, 0, 0)) : Fst (fun t => Seg (atP s w t) t.2 p q) (segR s w p q) := by
  have ww := dt_pos hw
  unfold segR
  by_cases hu : crP w (mnP q p) = (0, 0, 0)
  · rw [if_pos hu]
    by_cases hg : crP (mnP p s) w = (0, 0, 0)
    · rw [if_neg (fun z => z hg)]
      have hg2 : crP (mnP q s) w = (0, 0, 0) := by
        obtain ⟨s0, s1, s2⟩ := s
        obtain ⟨w0, w1, w2⟩ := w
        obtain ⟨p0, p1, p2⟩ := p
        obtain ⟨q0, q1, q2⟩ := q
        simp only [crP, mnP, Prod.mk.injEq] at *
        grind
      have P := par_way hg
      have Q := par_way hg2
      have gp := alg_gt b1 b2 b3 hw
      have gq := alg_gt b1 b2 b4 hw
      -- a time on the segment, told by shares
      have out : ∀ t : Fr, 0 < t.2 → Seg (atP s w t) t.2 p q → ∃ α β : Int, 0 ≤ α ∧ 0 ≤ β ∧ 0 < α + β ∧ (α + β) * (t.1 * dtP w w) = t.2 * (α * dtP (mnP p s) w + β * dtP (mnP q s) w) := fun t ht ⟨α, β, h1, h2, h3, h⟩ => by
        refine ⟨α, β, h1, h2, h3, ?_⟩
        have e0 := seg_vec h 0
        have e1 := seg_vec h 1
        have e2 := seg_vec h 2
        rw [dt_co w w, dt_co (mnP p s) w, dt_co (mnP q s) w]
        grind
      -- the times of the ends
      have hit : ∀ (x : P3) (f : Int), (∀ k, dtP w w * co k (mnP x s) = f * co k w) → ∀ k, co k (atP s w (rat f (dtP w w))) = (rat f (dtP w w)).2 * co k x := fun x f hx k => by
        obtain ⟨g1, g2, g3, g4⟩ := rat_g (t := f) (u := dtP w w) (by omega)
        generalize rat f (dtP w w) = r at g3 g4 ⊢
        generalize rtg f (dtP w w) = d at g1 g2 g3 g4
        have e := hx k
        rw [co_at]
        rw [co_mn] at e
        have : d * (co k s * r.2 + co k w * r.1) = d * (r.2 * co k x) := by
          rw [g3, g4] at e
          grind
        exact Int.eq_of_mul_eq_mul_left g1 this
      generalize hfp : dtP (mnP p s) w = fp at *
      generalize hfq : dtP (mnP q s) w = fq at *
      generalize hW : dtP w w = W at *
      unfold alg at gp gq ⊢
      try rw [hfp] at gp
      try rw [hfp]
      try rw [hW] at gp
      try rw [hfq] at gq
      try rw [hfq]
      try rw [hW] at gq
      try rw [hW]
      have zero : (fp < 0 ∧ 0 ≤ fq) ∨ (fq < 0 ∧ 0 ≤ fp) → Fst (fun t => Seg (atP s w t) t.2 p q) (some (0, 1)) := fun hz => by
        refine ⟨fun x e => ?_, fun x e t h1 h2 _ => by cases e; unfold gle; simp; exact h2, fun e => nomatch e⟩
        cases e
        refine ⟨gt_01, Int.le_refl _, ?_⟩
        have at0 : ∀ k, co k (atP s w (0, 1)) = co k s := fun k => by rw [co_at]; simp
        have key : ∀ k, fq * co k (mnP p s) = fp * co k (mnP q s) := fun k => by
          have e1 := P k
          have e2 := Q k
          apply mul_cancel ww
          grind
        rcases hz with ⟨z1, z2⟩ | ⟨z1, z2⟩
        · refine ⟨fq, -fp, z2, by omega, by omega, fun k => ?_⟩
          have := key k
          rw [co_mn, co_mn] at this
          rw [at0]
          grind
        · refine ⟨-fq, fp, by omega, z2, by omega, fun k => ?_⟩
          have := key k
          rw [co_mn, co_mn] at this
          rw [at0]
          grind
      by_cases c1 : fp < 0
      · rw [if_pos c1]
        by_cases c2 : fq < 0
        · rw [if_pos c2]
          refine ⟨fun _ e => (nomatch e), fun _ e => (nomatch e), fun _ t h1 h2 z => ?_⟩
          obtain ⟨α, β, a1, a2, a3, e⟩ := out t h1 z
          have l1 : α * fp + β * fq < 0 := by
            have m1 : α * fp ≤ 0 := Int.mul_nonpos_of_nonneg_of_nonpos a1 (by omega)
            have m2 : β * fq ≤ 0 := Int.mul_nonpos_of_nonneg_of_nonpos a2 (by omega)
            rcases Int.lt_or_le 0 α with q | q
            · have : α * fp < 0 := Int.mul_neg_of_pos_of_neg q c1
              omega
            · have : β * fq < 0 := Int.mul_neg_of_pos_of_neg (by omega) c2
              omega
          have l2 : t.2 * (α * fp + β * fq) < 0 := Int.mul_neg_of_pos_of_neg h1 l1
          have l3 : 0 ≤ (α + β) * (t.1 * W) := Int.mul_nonneg (by omega) (Int.mul_nonneg h2 (by omega))
          omega
        · rw [if_neg c2]
          exact zero (.inl ⟨c1, by omega⟩)
      · rw [if_neg c1]
        by_cases c2 : fq < 0
        · rw [if_pos c2]
          exact zero (.inr ⟨c2, by omega⟩)
        · rw [if_neg c2]
          rw [if_neg c1] at gp
          rw [if_neg c2] at gq
          have one : ∀ (f : Int), 0 ≤ f → 0 ≤ (rat f W).1 := fun f hf => by
            have := (gle_rat (t := f) (u := W) (by omega) (0, 1)).2
            rw [if_pos ww] at this
            have := this.mpr (by simp; exact hf)
            unfold gle at this
            simp at this
            exact this
          have leA : ∀ (f : Int) (t : Fr), gle (rat f W) t ↔ f * t.2 ≤ t.1 * W := fun f t => by
            have := (gle_rat (t := f) (u := W) (by omega) t).1
            rw [if_pos ww] at this
            exact this
          have segp : Seg (atP s w (rat fp W)) (rat fp W).2 p q := ⟨1, 0, by decide, by decide, by decide, fun k => by rw [hit p fp P k]; simp⟩
          have segq : Seg (atP s w (rat fq W)) (rat fq W).2 p q := ⟨0, 1, by decide, by decide, by decide, fun k => by rw [hit q fq Q k]; simp⟩
          have low : ∀ t : Fr, 0 < t.2 → Seg (atP s w t) t.2 p q → fp * t.2 ≤ t.1 * W ∨ fq * t.2 ≤ t.1 * W := fun t h1 z => by
            obtain ⟨α, β, a1, a2, a3, e⟩ := out t h1 z
            by_cases q1 : fp * t.2 ≤ t.1 * W
            · exact .inl q1
            · refine .inr ?_
              rcases Int.lt_or_le (t.1 * W) (fq * t.2) with q2 | q2
              · have m1 : α * (t.1 * W) ≤ α * (fp * t.2) := Int.mul_le_mul_of_nonneg_left (by omega) a1
                have m2 : β * (t.1 * W) ≤ β * (fq * t.2) := Int.mul_le_mul_of_nonneg_left (by omega) a2
                have sum : (α + β) * (t.1 * W) = α * (t.1 * W) + β * (t.1 * W) := Int.add_mul ..
                have e' : t.2 * (α * fp + β * fq) = α * (fp * t.2) + β * (fq * t.2) := by grind
                rcases Int.lt_or_le 0 α with q | q
                · have : α * (t.1 * W) < α * (fp * t.2) := Int.mul_lt_mul_of_pos_left (by omega) q
                  omega
                · have : β * (t.1 * W) < β * (fq * t.2) := Int.mul_lt_mul_of_pos_left q2 (by omega)
                  omega
              · exact q2
          show Fst _ (lesO (some (rat fp W)) (some (rat fq W)))
          unfold lesO
          have gp' := gp _ rfl
          have gq' := gq _ rfl
          by_cases c : gle (rat fp W) (rat fq W)
          · simp only [if_pos c]
            refine ⟨fun x e => by cases e; exact ⟨gp', one fp (by omega), segp⟩, fun x e t h1 h2 z => ?_, fun e => nomatch e⟩
            cases e
            rcases low t h1 z with l | l
            · exact (leA fp t).mpr l
            · exact gle_trans gp'.pos gq'.pos h1 c ((leA fq t).mpr l)
          · simp only [if_neg c]
            refine ⟨fun x e => by cases e; exact ⟨gq', one fq (by omega), segq⟩, fun x e t h1 h2 z => ?_, fun e => nomatch e⟩
            cases e
            rcases low t h1 z with l | l
            · exact gle_trans gq'.pos gp'.pos h1 (gle_of_not c) ((leA fp t).mpr l)
            · exact (leA fq t).mpr l
    · rw [if_pos hg]
      refine ⟨fun _ e => (nomatch e), fun _ e => (nomatch e), fun _ t h1 h2 z => hg ?_⟩
      obtain ⟨α, β, a1, a2, a3, h⟩ := z
      have := (seg_out h1 a3 h).2
      rw [hu] at this
      refine ext3 fun k => ?_
      have e := this k
      rw [co_zero, Int.mul_zero] at e
      rw [co_zero]
      exact mul_cancel a3 (by rw [e, Int.mul_zero])
  · rw [if_neg hu]
    have pu := dt_pos hu
    have all : ∀ t : Fr, 0 < t.2 → Seg (atP s w t) t.2 p q → dtP (mnP p s) (crP w (mnP q p)) = 0 ∧ t.1 * dtP (crP w (mnP q p)) (crP w (mnP q p)) = t.2 * dtP (crP (mnP p s) (mnP q p)) (crP w (mnP q p)) ∧ 0 ≤ dtP (crP (mnP p s) w) (crP w (mnP q p)) ∧ dtP (crP (mnP p s) w) (crP w (mnP q p)) ≤ dtP (crP w (mnP q p)) (crP w (mnP q p)) := fun t h1 ⟨α, β, a1, a2, a3, h⟩ => by
      obtain ⟨k1, k2⟩ := seg_out h1 a3 h
      have e1 := dt_scale (x := crP w (mnP q p)) k1
      have e2 := dt_scale (x := crP w (mnP q p)) k2
      refine ⟨dt_zero_of _ _ _ h1 k1, e1, ?_, ?_⟩
      · have : 0 ≤ β * dtP (crP w (mnP q p)) (crP w (mnP q p)) := Int.mul_nonneg a2 (by omega)
        rw [← e2] at this
        rcases Int.lt_or_le (dtP (crP (mnP p s) w) (crP w (mnP q p))) 0 with z | z
        · have := Int.mul_neg_of_pos_of_neg a3 z
          omega
        · exact z
      · have m : β * dtP (crP w (mnP q p)) (crP w (mnP q p)) ≤ (α + β) * dtP (crP w (mnP q p)) (crP w (mnP q p)) := Int.mul_le_mul_of_nonneg_right (by omega) (by omega)
        rw [← e2] at m
        exact Int.le_of_mul_le_mul_left m a3
    by_cases hd : dtP (mnP p s) (crP w (mnP q p)) = 0
    · rw [if_neg (fun z => z hd)]
      have sp := fun k => split3 (mnP p s) w (mnP q p) k
      generalize hU : dtP (crP w (mnP q p)) (crP w (mnP q p)) = U at *
      generalize hT : dtP (crP (mnP p s) (mnP q p)) (crP w (mnP q p)) = T at *
      generalize hV : dtP (crP (mnP p s) w) (crP w (mnP q p)) = V at *
      by_cases hb : T < 0 ∨ V < 0 ∨ V > U
      · rw [if_pos hb]
        refine ⟨fun _ e => (nomatch e), fun _ e => (nomatch e), fun _ t h1 h2 z => ?_⟩
        obtain ⟨_, q2, q3, q4⟩ := all t h1 z
        rcases hb with b | b | b
        · have m1 : t.2 * T < 0 := Int.mul_neg_of_pos_of_neg h1 b
          have m2 : 0 ≤ t.1 * U := Int.mul_nonneg h2 (by omega)
          omega
        · omega
        · omega
      · rw [if_neg hb]
        have hT0 : 0 ≤ T := by omega
        have hV0 : 0 ≤ V := by omega
        have hVU : V ≤ U := by omega
        have hU0 : U ≠ 0 := by omega
        obtain ⟨g1, g2, g3, g4⟩ := rat_g (t := T) hU0
        have gg : Gt (rat T U) := by
          refine gt_rat hU0 ?_ ?_
          · rw [← hT]; exact (((b3.mn b1).cr (b4.mn b3)).dt (b2.cr (b4.mn b3))).mono (by decide)
          · rw [← hU]; exact ((b2.cr (b4.mn b3)).dt (b2.cr (b4.mn b3))).mono (by decide)
        refine ⟨fun x e => ?_, fun x e t h1 h2 z => ?_, fun e => nomatch e⟩
        · cases e
          refine ⟨gg, ?_, U - V, V, by omega, hV0, by omega, fun k => ?_⟩
          · have := (gle_rat (t := T) hU0 (0, 1)).2
            rw [if_pos pu] at this
            have := this.mpr (by simp; exact hT0)
            unfold gle at this
            simp at this
            exact this
          · have e := sp k
            rw [hd, Int.zero_mul, Int.add_zero] at e
            generalize rat T U = r at g3 g4 gg ⊢
            generalize rtg T U = d at g1 g2 g3 g4
            rw [co_at]
            rw [co_mn, co_mn] at e
            have : d * ((U - V + V) * (co k s * r.2 + co k w * r.1)) = d * (r.2 * ((U - V) * co k p + V * co k q)) := by
              grind
            exact Int.eq_of_mul_eq_mul_left g1 this
        · cases e
          have := (gle_rat (t := T) hU0 t).1
          rw [if_pos pu] at this
          refine this.mpr ?_
          obtain ⟨_, q2, _⟩ := all t h1 z
          rw [q2, Int.mul_comm]
          exact Int.le_refl _
    · rw [if_pos hd]
      exact ⟨fun _ e => (nomatch e), fun _ e => (nomatch e), fun _ t h1 h2 z => hd (all t h1 z).1⟩
end DL
end
section
set_option Elab.async false
set_option linter.all false
set_option maxRecDepth 100000
set_option maxHeartbeats 4000000
set_option autoImplicit false
namespace DL
variable [TbC]
open PySem
/-! ### triangles: the plain law -/
def Tri (X : P3) (m : Int) (a b c : P3) : Prop := ∃ α β γ : Int, 0 ≤ α ∧ 0 ≤ β ∧ 0 ≤ γ ∧ 0 < α + β + γ ∧ ∀ k, (α + β + γ) * co k X = m * (α * co k a + β * co k b + γ * co k c)
def upP (a b c : P3) : P3 := crP (mnP b a) (mnP c a)
def scP (m : Int) (p : P3) : P3 := (p.1 * m, p.2.1 * m, p.2.2 * m)
theorem co_sc (m : Int) (p : P3) (k : Nat) : co k (scP m p) = co k p * m := by
  match k with
  | 0 => rfl
  | 1 => rfl
  | k + 2 => rfl
theorem tri_ab {X : P3} {m : Int} {a b c : P3} (h : Seg X m a b) : Tri X m a b c := by
  obtain ⟨α, β, h1, h2, h3, h⟩ := h
  exact ⟨α, β, 0, h1, h2, Int.le_refl _, by omega, fun k => by have := h k; grind⟩
theorem tri_bc {X : P3} {m : Int} {a b c : P3} (h : Seg X m b c) : Tri X m a b c := by
  obtain ⟨α, β, h1, h2, h3, h⟩ := h
  exact ⟨0, α, β, Int.le_refl _, h1, h2, by omega, fun k => by have := h k; grind⟩
theorem tri_ca {X : P3} {m : Int} {a b c : P3} (h : Seg X m c a) : Tri X m a b c := by
  obtain ⟨α, β, h1, h2, h3, h⟩ := h
  exact ⟨β, 0, α, h2, Int.le_refl _, h1, by omega, fun k => by have := h k; grind⟩
/-- three corners in one line -/
theorem tri_flat {X : P3} {m : Int} {a b c : P3} (hu : upP a b c = (0, 0, 0)) (h : Tri X m a b c) : (Seg X m a b ∨ Seg X m b c) ∨ Seg X m c a := by
  obtain ⟨α, β, γ, h1, h2, h3, h4, h⟩ := h
  by_cases hr : mnP b a = (0, 0, 0)
  · have e : ∀ k, co k b = co k a := fun k => by
      have := co_mn b a k
      rw [hr, co_zero] at this
      omega
    exact .inr ⟨γ, α + β, h3, by omega, by omega, fun k => by have := h k; rw [e k] at this; grind⟩
  · have R := dt_pos hr
    have par : ∀ k, dtP (mnP b a) (mnP b a) * (co k c - co k a) = dtP (mnP c a) (mnP b a) * (co k b - co k a) := fun k => by
      have : crP (mnP c a) (mnP b a) = (0, 0, 0) := by
        unfold upP at hu
        generalize mnP b a = x at hu
        generalize mnP c a = y at hu ⊢
        obtain ⟨x0, x1, x2⟩ := x
        obtain ⟨y0, y1, y2⟩ := y
        simp only [crP, Prod.mk.injEq] at *
        grind
      have := par_way this k
      rw [co_mn, co_mn] at this
      exact this
    generalize dtP (mnP b a) (mnP b a) = r at R par
    generalize dtP (mnP c a) (mnP b a) = P at par
    generalize hS : α + β + γ = S at h4 h
    -- along a b
    have ab : 0 ≤ β * r + γ * P → β * r + γ * P ≤ S * r → Seg X m a b := fun q1 q2 => by
      have hSr : 0 < S * r := Int.mul_pos h4 R
      refine ⟨S * r - (β * r + γ * P), β * r + γ * P, by omega, q1, by omega, fun k => ?_⟩
      have e := h k
      have e2 := par k
      have hA : α = S - β - γ := by omega
      subst hA
      grind
    have ca : ∀ σ : Int, (σ = 1 ∨ σ = -1) → 0 < σ * P → 0 ≤ σ * (β * r + γ * P) → σ * (β * r + γ * P) ≤ S * (σ * P) → Seg X m c a := fun σ hσ hP q1 q2 => by
      have hSP : 0 < S * (σ * P) := Int.mul_pos h4 hP
      refine ⟨σ * (β * r + γ * P), S * (σ * P) - σ * (β * r + γ * P), q1, by omega, by omega, fun k => ?_⟩
      have e := h k
      have e2 := par k
      have hA : α = S - β - γ := by omega
      subst hA
      grind
    have br : 0 ≤ β * r := Int.mul_nonneg h2 (by omega)
    have brS : β * r ≤ S * r := Int.mul_le_mul_of_nonneg_right (by omega) (by omega)
    rcases Int.lt_or_le P 0 with hP | hP
    · have gP : γ * P ≤ 0 := Int.mul_nonpos_of_nonneg_of_nonpos h3 (by omega)
      rcases Int.lt_or_le (β * r + γ * P) 0 with q | q
      · refine .inr (ca (-1) (.inr rfl) (by omega) (by omega) ?_)
        have : γ * (-P) ≤ S * (-P) := Int.mul_le_mul_of_nonneg_right (by omega) (by omega)
        have e1 : γ * (-P) = -(γ * P) := Int.mul_neg ..
        have e2 : S * (-1 * P) = S * (-P) := by rw [Int.neg_one_mul]
        omega
      · exact .inl (.inl (ab q (by omega)))
    · have gP : 0 ≤ γ * P := Int.mul_nonneg h3 hP
      rcases Int.lt_or_le r P with q | q
      · refine .inr (ca 1 (.inl rfl) (by omega) (by omega) ?_)
        have m1 : β * r ≤ β * P := Int.mul_le_mul_of_nonneg_left (by omega) h2
        have m2 : (β + γ) * P ≤ S * P := Int.mul_le_mul_of_nonneg_right (by omega) hP
        have e1 : (β + γ) * P = β * P + γ * P := Int.add_mul ..
        have e2 : S * (1 * P) = S * P := by rw [Int.one_mul]
        omega
      · refine .inl (.inl (ab (by omega) ?_))
        have m1 : γ * P ≤ γ * r := Int.mul_le_mul_of_nonneg_left q h3
        have m2 : (β + γ) * r ≤ S * r := Int.mul_le_mul_of_nonneg_right (by omega) (by omega)
        have e1 : (β + γ) * r = β * r + γ * r := Int.add_mul ..
        omega
/-! shares of a place in the corners' plane -/
def shL (X : P3) (m : Int) (a b c : P3) : Int := dtP (crP (mnP X (scP m a)) (mnP c a)) (upP a b c)
def shM (X : P3) (m : Int) (a b c : P3) : Int := dtP (crP (mnP b a) (mnP X (scP m a))) (upP a b c)
def shN (X : P3) (m : Int) (a b c : P3) : Int := m * dtP (upP a b c) (upP a b c) - shL X m a b c - shM X m a b c
def inPl (X : P3) (m : Int) (a b c : P3) : Prop := dtP (mnP X (scP m a)) (upP a b c) = 0
theorem tri_in {X : P3} {m : Int} {a b c : P3} (hm : 0 < m) (h : Tri X m a b c) : inPl X m a b c ∧ 0 ≤ shL X m a b c ∧ 0 ≤ shM X m a b c ∧ 0 ≤ shN X m a b c := by
  obtain ⟨α, β, γ, h1, h2, h3, h4, h⟩ := h
  have e0 := h 0
  have e1 := h 1
  have e2 := h 2
  have hA : ∃ S, α + β + γ = S := ⟨_, rfl⟩
  obtain ⟨S, hS⟩ := hA
  rw [hS] at e0 e1 e2 h4
  have sq : 0 ≤ dtP (upP a b c) (upP a b c) := by
    by_cases z : upP a b c = (0, 0, 0)
    · rw [z]; exact Int.le_refl _
    · have := dt_pos z; omega
  have hg : ∀ k, S * co k (mnP X (scP m a)) = m * (β * co k (mnP b a) + γ * co k (mnP c a)) := fun k => by
    have e := h k
    rw [hS] at e
    rw [co_mn, co_mn, co_mn, co_sc]
    have hA : α = S - β - γ := by omega
    subst hA
    clear e0 e1 e2 h hS sq
    grind
  have g0 := hg 0
  have g1 := hg 1
  have g2 := hg 2
  have vec : ∀ g r l : P3, S * g.1 = m * (β * r.1 + γ * l.1) → S * g.2.1 = m * (β * r.2.1 + γ * l.2.1) → S * g.2.2 = m * (β * r.2.2 + γ * l.2.2) →
      S * dtP g (crP r l) = 0 ∧ (∀ k, S * co k (crP g l) = (m * β) * co k (crP r l)) ∧ ∀ k, S * co k (crP r g) = (m * γ) * co k (crP r l) := fun g r l => by
    obtain ⟨g0, g1, g2⟩ := g
    obtain ⟨r0, r1, r2⟩ := r
    obtain ⟨l0, l1, l2⟩ := l
    intro q0 q1 q2
    simp only at q0 q1 q2
    refine ⟨?_, fun k => ?_, fun k => ?_⟩
    · have : S * dtP (g0, g1, g2) (crP (r0, r1, r2) (l0, l1, l2)) = (S * g0) * (r1 * l2 - r2 * l1) + (S * g1) * (r2 * l0 - r0 * l2) + (S * g2) * (r0 * l1 - r1 * l0) := by
        simp only [dtP, crP]
        clear q0 q1 q2
        grind
      rw [this, q0, q1, q2]
      clear q0 q1 q2 this
      grind
    · match k with
      | 0 =>
        have : S * (g1 * l2 - g2 * l1) = (S * g1) * l2 - (S * g2) * l1 := by grind
        show S * (g1 * l2 - g2 * l1) = m * β * (r1 * l2 - r2 * l1)
        rw [this, q1, q2]; grind
      | 1 =>
        have : S * (g2 * l0 - g0 * l2) = (S * g2) * l0 - (S * g0) * l2 := by grind
        show S * (g2 * l0 - g0 * l2) = m * β * (r2 * l0 - r0 * l2)
        rw [this, q2, q0]; grind
      | k + 2 =>
        have : S * (g0 * l1 - g1 * l0) = (S * g0) * l1 - (S * g1) * l0 := by grind
        show S * (g0 * l1 - g1 * l0) = m * β * (r0 * l1 - r1 * l0)
        rw [this, q0, q1]; grind
    · match k with
      | 0 =>
        have : S * (r1 * g2 - r2 * g1) = r1 * (S * g2) - r2 * (S * g1) := by grind
        show S * (r1 * g2 - r2 * g1) = m * γ * (r1 * l2 - r2 * l1)
        rw [this, q1, q2]; grind
      | 1 =>
        have : S * (r2 * g0 - r0 * g2) = r2 * (S * g0) - r0 * (S * g2) := by grind
        show S * (r2 * g0 - r0 * g2) = m * γ * (r2 * l0 - r0 * l2)
        rw [this, q2, q0]; grind
      | k + 2 =>
        have : S * (r0 * g1 - r1 * g0) = r0 * (S * g1) - r1 * (S * g0) := by grind
        show S * (r0 * g1 - r1 * g0) = m * γ * (r0 * l1 - r1 * l0)
        rw [this, q0, q1]; grind
  obtain ⟨kP, vL, vM⟩ := vec _ _ _ g0 g1 g2
  have kL : S * shL X m a b c = m * (β * dtP (upP a b c) (upP a b c)) := by
    have := dt_scale (x := upP a b c) vL
    rw [Int.mul_assoc] at this
    exact this
  have kM : S * shM X m a b c = m * (γ * dtP (upP a b c) (upP a b c)) := by
    have := dt_scale (x := upP a b c) vM
    rw [Int.mul_assoc] at this
    exact this
  have kN : S * shN X m a b c = m * (α * dtP (upP a b c) (upP a b c)) := by
    unfold shN
    rw [Int.mul_sub, Int.mul_sub, kL, kM]
    have hA : α = S - β - γ := by omega
    subst hA
    generalize dtP (upP a b c) (upP a b c) = U
    clear e0 e1 e2 h hS sq hg g0 g1 g2 vec kP vL vM kL kM
    grind
  have pos : ∀ x y : Int, 0 ≤ y → S * x = m * (y * dtP (upP a b c) (upP a b c)) → 0 ≤ x := fun x y hy e => by
    have := Int.mul_nonneg (show 0 ≤ m by omega) (Int.mul_nonneg hy sq)
    rw [← e] at this
    rcases Int.lt_or_le x 0 with z | z
    · have := Int.mul_neg_of_pos_of_neg h4 z
      omega
    · exact z
  refine ⟨?_, pos _ _ h2 kL, pos _ _ h3 kM, pos _ _ h1 kN⟩
  exact mul_cancel h4 (by rw [Int.mul_zero]; exact kP)
/-- a place in the plane, by its shares -/
theorem sh_co {X : P3} {m : Int} {a b c : P3} (h : inPl X m a b c) (k : Nat) : (m * dtP (upP a b c) (upP a b c)) * co k X = m * (shN X m a b c * co k a + shL X m a b c * co k b + shM X m a b c * co k c) := by
  have e := split3 (mnP X (scP m a)) (mnP b a) (mnP c a) k
  have e1 : dtP (mnP X (scP m a)) (crP (mnP b a) (mnP c a)) = 0 := h
  rw [e1, Int.zero_mul, Int.add_zero, co_mn, co_mn, co_mn, co_sc] at e
  have e2 : dtP (crP (mnP X (scP m a)) (mnP b a)) (crP (mnP b a) (mnP c a)) = - shM X m a b c := by
    unfold shM upP
    generalize mnP X (scP m a) = g
    generalize mnP b a = v
    generalize mnP c a = z
    obtain ⟨g0, g1, g2⟩ := g
    obtain ⟨v0, v1, v2⟩ := v
    obtain ⟨z0, z1, z2⟩ := z
    simp only [dtP, crP]
    grind
  have e3 : dtP (crP (mnP X (scP m a)) (mnP c a)) (crP (mnP b a) (mnP c a)) = shL X m a b c := rfl
  rw [e2, e3] at e
  have e4 : dtP (crP (mnP b a) (mnP c a)) (crP (mnP b a) (mnP c a)) = dtP (upP a b c) (upP a b c) := rfl
  rw [e4] at e
  unfold shN
  grind
theorem in_tri {X : P3} {m : Int} {a b c : P3} (hm : 0 < m) (hu : upP a b c ≠ (0, 0, 0)) (h : inPl X m a b c) (hL : 0 ≤ shL X m a b c) (hM : 0 ≤ shM X m a b c) (hN : 0 ≤ shN X m a b c) : Tri X m a b c := by
  have hs : shN X m a b c + shL X m a b c + shM X m a b c = m * dtP (upP a b c) (upP a b c) := by unfold shN; omega
  refine ⟨shN X m a b c, shL X m a b c, shM X m a b c, hN, hL, hM, ?_, fun k => ?_⟩
  · rw [hs]; exact Int.mul_pos hm (dt_pos hu)
  · rw [hs]; exact sh_co h k
/-- a share that is none: the place is on the edge -/
theorem on_edge {X : P3} {m : Int} {a b c : P3} (hm : 0 < m) (hu : upP a b c ≠ (0, 0, 0)) (h : inPl X m a b c) (hL : 0 ≤ shL X m a b c) (hM : 0 ≤ shM X m a b c) (hN : 0 ≤ shN X m a b c) (z : shN X m a b c = 0 ∨ shL X m a b c = 0 ∨ shM X m a b c = 0) : (Seg X m a b ∨ Seg X m b c) ∨ Seg X m c a := by
  have hs : shN X m a b c + shL X m a b c + shM X m a b c = m * dtP (upP a b c) (upP a b c) := by unfold shN; omega
  have hp : 0 < m * dtP (upP a b c) (upP a b c) := Int.mul_pos hm (dt_pos hu)
  have e := fun k => sh_co h k
  rw [← hs] at e hp
  generalize shN X m a b c = ν at *
  generalize shL X m a b c = μ at *
  generalize shM X m a b c = κ at *
  rcases z with z | z | z
  · exact .inl (.inr ⟨μ, κ, hL, hM, by omega, fun k => by have := e k; rw [z] at this; grind⟩)
  · exact .inr ⟨κ, ν, hM, hN, by omega, fun k => by have := e k; rw [z] at this; grind⟩
  · exact .inl (.inl ⟨ν, μ, hN, hL, by omega, fun k => by have := e k; rw [z] at this; grind⟩)
/-- of functions that run evenly: the last that comes up to nought -/
theorem last_up (f0 f1 : Nat → Int) {m x : Int} (hm : 0 < m) (hx : 0 ≤ x) : ∀ n, (∀ i, i < n → 0 ≤ m * f0 i + x * f1 i) → (∃ i, i < n ∧ f0 i < 0) → ∃ i, i < n ∧ f0 i < 0 ∧ 0 < f1 i ∧ ∀ j, j < n → 0 ≤ f1 i * f0 j - f0 i * f1 j := by
  have up : ∀ i, 0 ≤ m * f0 i + x * f1 i → f0 i < 0 → 0 < f1 i := fun i h1 h2 => by
    rcases Int.lt_or_le 0 (f1 i) with z | z
    · exact z
    · have m1 : m * f0 i < 0 := Int.mul_neg_of_pos_of_neg hm h2
      have m2 : x * f1 i ≤ 0 := Int.mul_nonpos_of_nonneg_of_nonpos hx z
      omega
  -- against one that stands not below nought at the start
  have stay : ∀ i j, 0 ≤ m * f0 i + x * f1 i → f0 i < 0 → 0 ≤ m * f0 j + x * f1 j → 0 ≤ f0 j → 0 ≤ f1 i * f0 j - f0 i * f1 j := fun i j h1 h2 h3 h4 => by
    have h5 := up i h1 h2
    rcases Int.lt_or_le (f1 j) 0 with z | z
    · refine Int.nonneg_of_mul_nonneg_right (a := m) ?_ hm
      have m1 : 0 ≤ (m * f0 j + x * f1 j) * f1 i := Int.mul_nonneg h3 (by omega)
      have m2 : 0 ≤ (m * f0 i + x * f1 i) * (-f1 j) := Int.mul_nonneg h1 (by omega)
      have e : m * (f1 i * f0 j - f0 i * f1 j) = (m * f0 j + x * f1 j) * f1 i + (m * f0 i + x * f1 i) * (-f1 j) := by grind
      omega
    · have m1 : 0 ≤ f1 i * f0 j := Int.mul_nonneg (by omega) h4
      have m2 : f0 i * f1 j ≤ 0 := Int.mul_nonpos_of_nonpos_of_nonneg (by omega) z
      omega
  intro n
  induction n with
  | zero => exact fun _ ⟨i, h, _⟩ => absurd h (Nat.not_lt_zero _)
  | succ n ih =>
    intro hall hex
    by_cases hn : ∃ i, i < n ∧ f0 i < 0
    · obtain ⟨i, i1, i2, i3, i4⟩ := ih (fun i hi => hall i (by omega)) hn
      by_cases c : 0 ≤ f1 i * f0 n - f0 i * f1 n
      · exact ⟨i, by omega, i2, i3, fun j hj => by
          rcases Nat.lt_or_eq_of_le (Nat.le_of_lt_succ hj) with z | z
          · exact i4 j z
          · rw [z]; exact c⟩
      · -- the newest comes later
        have hn0 : f0 n < 0 := by
          rcases Int.lt_or_le (f0 n) 0 with z | z
          · exact z
          · exact absurd (stay i n (hall i (by omega)) i2 (hall n (by omega)) z) c
        have hn1 := up n (hall n (by omega)) hn0
        refine ⟨n, by omega, hn0, hn1, fun j hj => ?_⟩
        rcases Nat.lt_or_eq_of_le (Nat.le_of_lt_succ hj) with z | z
        · rcases Int.lt_or_le (f0 j) 0 with q | q
          · have hj1 := up j (hall j (by omega)) q
            have k1 := i4 j z
            -- f1 i f0 j ≥ f0 i f1 j, f1 i f0 n < f0 i f1 n
            refine Int.nonneg_of_mul_nonneg_right (a := f1 i) ?_ i3
            have m1 : 0 ≤ (f1 i * f0 j - f0 i * f1 j) * f1 n := Int.mul_nonneg k1 (by omega)
            have m2 : 0 ≤ (-(f1 i * f0 n - f0 i * f1 n)) * f1 j := Int.mul_nonneg (by omega) (by omega)
            have e : f1 i * (f1 n * f0 j - f0 n * f1 j) = (f1 i * f0 j - f0 i * f1 j) * f1 n + (-(f1 i * f0 n - f0 i * f1 n)) * f1 j := by grind
            omega
          · exact stay n j (hall n (by omega)) hn0 (hall j (by omega)) q
        · rw [z, Int.mul_comm (f1 n)]; omega
    · obtain ⟨i, hi, hneg⟩ := hex
      have hin : i = n := by
        rcases Nat.lt_or_eq_of_le (Nat.le_of_lt_succ hi) with z | z
        · exact absurd ⟨i, z, hneg⟩ hn
        · exact z
      subst hin
      refine ⟨i, hi, hneg, up i (hall i hi) hneg, fun j hj => ?_⟩
      rcases Nat.lt_or_eq_of_le (Nat.le_of_lt_succ hj) with z | z
      · refine stay i j (hall i hi) hneg (hall j hj) ?_
        rcases Int.lt_or_le (f0 j) 0 with q | q
        · exact absurd ⟨j, z, q⟩ hn
        · exact q
      · rw [z, Int.mul_comm (f1 i)]; omega
end DL
end
section
set_option Elab.async false
set_option linter.all false
set_option maxRecDepth 100000
set_option maxHeartbeats 4000000
set_option autoImplicit false
namespace DL
variable [TbC]
open PySem
/-! ### triangles: what the functions compute -/
def triD (a b c : P3) : Dt := .tup [en a, en b, en c]
def flatR (s w a b c : P3) : Option Fr := lesO (lesO (segR s w a b) (segR s w b c)) (segR s w c a)
theorem F_meets_flat_eq {s w a b c : P3} (b1 : BdN 500 s) (b2 : BdN 2000 w) (b3 : BdN 500 a) (b4 : BdN 500 b) (b5 : BdN 500 c) (hw : w ≠ (0, 0, 0)) : F_meets_flat [rayD s w, triD a b c] = .ok (.va (hiD (flatR s w a b c))) := by
  have e1 := F_meets_segment_eq b1 b2 b3 b4 hw
  have e2 := F_meets_segment_eq b1 b2 b4 b5 hw
  have e3 := F_meets_segment_eq b1 b2 b5 b3 hw
  have s1 := segR_spec b1 b2 b3 b4 hw
  have s2 := segR_spec b1 b2 b4 b5 hw
  have s3 := segR_spec b1 b2 b5 b3 hw
  have l1 := F_lesser_eq (fun a e => (s1.g a e).1) (fun a e => (s2.g a e).1)
  have l2 := F_lesser_eq (fun a e => ((s1.or s2).g a e).1) (fun a e => (s3.g a e).1)
  have sT : ∀ (x0 x1 x2 x3 x4 x5 : Lc), setT 3 (setCons (setN 2) (setCons (setN 3) (setCons (setN 4) setNil))) (triD a b c) [x0, x1, x2, x3, x4, x5] = some [x0, x1, .d (en a), .d (en b), .d (en c), x5] := fun _ _ _ _ _ _ => rfl
  refine b_rt ?_
  unfold g_meets_flat
  refine (s_as (ε' := [.d (rayD s w), .d (triD a b c), .d (en a), .d (en b), .d (en c), .u]) rfl (sT _ _ _ _ _ _)).trans ?_
  simp only [bodyF, startE, seqS, stS, stO, rtS, roS, roV, asS, ifS, xpS, bin, un, unN, lstF, lsF, consF, nilF, tupF, kc, gv, gb, tst, andT, orT, notT, andV, orV, notV, ifV, callF, callN, iterF, rngF, walked, slF, noP, soP, setN, setT, setCons, setNil, wipeE, yes, forS, prS, Rz.bind_ok, q_ofO, q_ofN, q_bad, q_ex, q_exS, q_exX, q_exB, q_okB, q_nx, q_rt, q_ro, q_bk, q_ct, q_sx, q_anx, q_act, q_abk, q_art, q_bnx, q_brt, q_bro, q_bex, q_va, q_ow, q_boo, add_int, sub_int, lt_int, le_int, gt_int, ge_int, neg_int, List.map_cons, List.map_nil, List.length_cons, List.length_nil, List.nil_append, List.cons_append, List.replicate, List.getElem?_cons_zero, List.getElem?_cons_succ, env_set0, env_setS, Option.bind_some, Option.map_some, if_true, Bool.false_eq_true, if_false, Nat.reduceAdd, Nat.reduceSub, sizeLine_eq, Nat.reduceLeDiff, Nat.zero_le, e1, e2, e3, l1, l2, flatR]
theorem flat_spec {s w a b c : P3} (b1 : BdN 500 s) (b2 : BdN 2000 w) (b3 : BdN 500 a) (b4 : BdN 500 b) (b5 : BdN 500 c) (hw : w ≠ (0, 0, 0)) : Fst (fun t => (Seg (atP s w t) t.2 a b ∨ Seg (atP s w t) t.2 b c) ∨ Seg (atP s w t) t.2 c a) (flatR s w a b c) :=
  ((segR_spec b1 b2 b3 b4 hw).or (segR_spec b1 b2 b4 b5 hw)).or (segR_spec b1 b2 b5 b3 hw)
def sgn (x : Int) : Int := (if 0 < x then 1 else 0) - (if x < 0 then 1 else 0)
theorem F_sign_eq (x : Int) : F_sign [.int x] = .ok (.va (.int (sgn x))) := by
  have i1 : ∀ b : Bool, intD (.bl b) = some (.int (if b then 1 else 0)) := fun _ => rfl
  simp only [F_sign, g_sign, bodyF, startE, seqS, stS, stO, rtS, roS, roV, asS, ifS, xpS, bin, un, unN, lstF, lsF, consF, nilF, tupF, kc, gv, gb, tst, andT, orT, notT, andV, orV, notV, ifV, callF, callN, iterF, rngF, walked, slF, noP, soP, setN, setT, setCons, setNil, wipeE, yes, forS, prS, Rz.bind_ok, q_ofO, q_ofN, q_bad, q_ex, q_exS, q_exX, q_exB, q_okB, q_nx, q_rt, q_ro, q_bk, q_ct, q_sx, q_anx, q_act, q_abk, q_art, q_bnx, q_brt, q_bro, q_bex, q_va, q_ow, q_boo, add_int, sub_int, lt_int, le_int, gt_int, ge_int, neg_int, List.map_cons, List.map_nil, List.length_cons, List.length_nil, List.nil_append, List.cons_append, List.replicate, List.getElem?_cons_zero, List.getElem?_cons_succ, env_set0, env_setS, Option.bind_some, Option.map_some, if_true, Bool.false_eq_true, if_false, Nat.reduceAdd, Nat.reduceSub, sizeLine_eq, Nat.reduceLeDiff, Nat.zero_le, i1]
  unfold sgn
  by_cases h : 0 < x <;> by_cases k : x < 0 <;> simp [h, k]
def trI (a b c u : P3) : Int := dtP (crP (mnP b a) (mnP c a)) u
theorem F_turn_eq {n : Nat} {a b c u : P3} (b1 : BdN n a) (b2 : BdN n b) (b3 : BdN n c) (b4 : BdN 1100 u) (hn : n ≤ 100000) : F_turn [en a, en b, en c, en u] = .ok (.va (.int (sgn (trI a b c u)))) := by
  have c1 := F_cross_eq (b2.mn b1) (b3.mn b1) (by omega) (by omega) (by omega)
  have d1 := F_dot_eq ((b2.mn b1).cr (b3.mn b1)) b4 (by omega) (by omega) (by omega)
  simp only [F_turn, g_turn, bodyF, startE, seqS, stS, stO, rtS, roS, roV, asS, ifS, xpS, bin, un, unN, lstF, lsF, consF, nilF, tupF, kc, gv, gb, tst, andT, orT, notT, andV, orV, notV, ifV, callF, callN, iterF, rngF, walked, slF, noP, soP, setN, setT, setCons, setNil, wipeE, yes, forS, prS, Rz.bind_ok, q_ofO, q_ofN, q_bad, q_ex, q_exS, q_exX, q_exB, q_okB, q_nx, q_rt, q_ro, q_bk, q_ct, q_sx, q_anx, q_act, q_abk, q_art, q_bnx, q_brt, q_bro, q_bex, q_va, q_ow, q_boo, add_int, sub_int, lt_int, le_int, gt_int, ge_int, neg_int, List.map_cons, List.map_nil, List.length_cons, List.length_nil, List.nil_append, List.cons_append, List.replicate, List.getElem?_cons_zero, List.getElem?_cons_succ, env_set0, env_setS, Option.bind_some, Option.map_some, if_true, Bool.false_eq_true, if_false, Nat.reduceAdd, Nat.reduceSub, sizeLine_eq, Nat.reduceLeDiff, Nat.zero_le, F_minus_eq, c1, d1, F_sign_eq]
  rfl
def wiB (a b c u X : P3) (m : Int) : Bool :=
  !((sgn (trI (scP m a) (scP m b) X u) == 1 || sgn (trI (scP m b) (scP m c) X u) == 1 || sgn (trI (scP m c) (scP m a) X u) == 1) && (sgn (trI (scP m a) (scP m b) X u) == -1 || sgn (trI (scP m b) (scP m c) X u) == -1 || sgn (trI (scP m c) (scP m a) X u) == -1))
theorem BdN.sc {n k : Nat} {p : P3} {m : Int} (h : BdN n p) (hm : Bd k m) : BdN (n + k) (scP m p) := ⟨h.1.mul hm, h.2.1.mul hm, h.2.2.mul hm⟩
theorem F_is_within_eq {a b c u X : P3} {m : Int} (b3 : BdN 500 a) (b4 : BdN 500 b) (b5 : BdN 500 c) (bu : BdN 1100 u) (bX : BdN 5000 X) (bm : Bd 4500 m) : F_is_within [triD a b c, en u, .tup [en X, .int m]] = .ok (.va (.bl (wiB a b c u X m))) := by
  have t1 := F_turn_eq (b3.sc bm) (b4.sc bm) bX bu (by decide)
  have t2 := F_turn_eq (b4.sc bm) (b5.sc bm) bX bu (by decide)
  have t3 := F_turn_eq (b5.sc bm) (b3.sc bm) bX bu (by decide)
  have sT : ∀ (x0 x1 x2 x3 x4 x5 x6 x7 x8 x9 : Lc), setT 2 (setCons (setN 3) (setCons (setN 4) setNil)) (.tup [en X, .int m]) [x0, x1, x2, x3, x4, x5, x6, x7, x8, x9] = some [x0, x1, x2, .d (en X), .d (.int m), x5, x6, x7, x8, x9] := fun _ _ _ _ _ _ _ _ _ _ => rfl
  have sT2 : ∀ (x0 x1 x2 x3 x4 x5 x6 x7 x8 x9 : Lc) (p q r : P3), setT 3 (setCons (setN 5) (setCons (setN 6) (setCons (setN 7) setNil))) (.lst [en p, en q, en r]) [x0, x1, x2, x3, x4, x5, x6, x7, x8, x9] = some [x0, x1, x2, x3, x4, .d (en p), .d (en q), .d (en r), x8, x9] := fun _ _ _ _ _ _ _ _ _ _ _ _ _ => rfl
  have sc : ∀ p : P3, BdN 500 p → mulD (.int p.1) (.int m) = some (.int (p.1 * m)) ∧ mulD (.int p.2.1) (.int m) = some (.int (p.2.1 * m)) ∧ mulD (.int p.2.2) (.int m) = some (.int (p.2.2 * m)) := fun p h =>
    ⟨mul_bd h.1 bm (by decide) (by decide) (by decide), mul_bd h.2.1 bm (by decide) (by decide) (by decide), mul_bd h.2.2 bm (by decide) (by decide) (by decide)⟩
  have lc : lcF (iterF (gb 0)) [8] (setN 8) yes (tupF (consF (bin mulD (bin ixD (gb 8) (kc (.int 0))) (gb 4)) (consF (bin mulD (bin ixD (gb 8) (kc (.int 1))) (gb 4)) (consF (bin mulD (bin ixD (gb 8) (kc (.int 2))) (gb 4)) nilF)))) [.d (triD a b c), .d (en u), .d (.tup [en X, .int m]), .d (en X), .d (.int m), .u, .u, .u, .u, .u] = .ok [en (scP m a), en (scP m b), en (scP m c)] := by
    refine (lcF_map (l := [a, b, c]) (en := en) (f := fun p => en (scP m p)) rfl (by show 3 < 16777216; decide) fun p hp => ?_).trans rfl
    have bp : BdN 500 p := by
      rcases List.mem_cons.mp hp with rfl | hp
      · exact b3
      rcases List.mem_cons.mp hp with rfl | hp
      · exact b4
      rcases List.mem_cons.mp hp with rfl | hp
      · exact b5
      · cases hp
    obtain ⟨m0, m1, m2⟩ := sc p bp
    simp only [bodyF, startE, seqS, stS, stO, rtS, roS, roV, asS, ifS, xpS, bin, un, unN, lstF, lsF, consF, nilF, tupF, kc, gv, gb, tst, andT, orT, notT, andV, orV, notV, ifV, callF, callN, iterF, rngF, walked, slF, noP, soP, setN, setT, setCons, setNil, wipeE, yes, forS, prS, Rz.bind_ok, q_ofO, q_ofN, q_bad, q_ex, q_exS, q_exX, q_exB, q_okB, q_nx, q_rt, q_ro, q_bk, q_ct, q_sx, q_anx, q_act, q_abk, q_art, q_bnx, q_brt, q_bro, q_bex, q_va, q_ow, q_boo, add_int, sub_int, lt_int, le_int, gt_int, ge_int, neg_int, List.map_cons, List.map_nil, List.length_cons, List.length_nil, List.nil_append, List.cons_append, List.replicate, List.getElem?_cons_zero, List.getElem?_cons_succ, env_set0, env_setS, Option.bind_some, Option.map_some, if_true, Bool.false_eq_true, if_false, Nat.reduceAdd, Nat.reduceSub, sizeLine_eq, Nat.reduceLeDiff, Nat.zero_le, List.foldl, en0, en1, en2, m0, m1, m2]
    rfl
  have i1 : ∀ x y z : Int, inD (.int 1) (.lst [.int x, .int y, .int z]) = some (.bl (x == 1 || (y == 1 || (z == 1 || false)))) := fun _ _ _ => rfl
  have i2 : ∀ x y z : Int, inD (.int (-1)) (.lst [.int x, .int y, .int z]) = some (.bl (x == -1 || (y == -1 || (z == -1 || false)))) := fun _ _ _ => rfl
  refine b_rt ?_
  unfold g_is_within
  refine (s_as (ε' := [.d (triD a b c), .d (en u), .d (.tup [en X, .int m]), .d (en X), .d (.int m), .u, .u, .u, .u, .u]) rfl (sT _ _ _ _ _ _ _ _ _ _)).trans ?_
  refine (s_as (ε' := [.d (triD a b c), .d (en u), .d (.tup [en X, .int m]), .d (en X), .d (.int m), .d (en (scP m a)), .d (en (scP m b)), .d (en (scP m c)), .u, .u]) (e_lst lc) (sT2 _ _ _ _ _ _ _ _ _ _ _ _ _)).trans ?_
  simp only [bodyF, startE, seqS, stS, stO, rtS, roS, roV, asS, ifS, xpS, bin, un, unN, lstF, lsF, consF, nilF, tupF, kc, gv, gb, tst, andT, orT, notT, andV, orV, notV, ifV, callF, callN, iterF, rngF, walked, slF, noP, soP, setN, setT, setCons, setNil, wipeE, yes, forS, prS, Rz.bind_ok, q_ofO, q_ofN, q_bad, q_ex, q_exS, q_exX, q_exB, q_okB, q_nx, q_rt, q_ro, q_bk, q_ct, q_sx, q_anx, q_act, q_abk, q_art, q_bnx, q_brt, q_bro, q_bex, q_va, q_ow, q_boo, add_int, sub_int, lt_int, le_int, gt_int, ge_int, neg_int, List.map_cons, List.map_nil, List.length_cons, List.length_nil, List.nil_append, List.cons_append, List.replicate, List.getElem?_cons_zero, List.getElem?_cons_succ, env_set0, env_setS, Option.bind_some, Option.map_some, if_true, Bool.false_eq_true, if_false, Nat.reduceAdd, Nat.reduceSub, sizeLine_eq, Nat.reduceLeDiff, Nat.zero_le, lsF, t1, t2, t3]
  generalize hx : sgn (trI (scP m a) (scP m b) X u) = x
  generalize hy : sgn (trI (scP m b) (scP m c) X u) = y
  generalize hz : sgn (trI (scP m c) (scP m a) X u) = z
  have fin : wiB a b c u X m = !((x == 1 || (y == 1 || (z == 1 || false))) && (x == -1 || (y == -1 || (z == -1 || false)))) := by
    unfold wiB
    rw [hx, hy, hz]
    simp only [Bool.or_false, Bool.or_assoc]
  rw [fin]
  cases hq : (x == 1 || (y == 1 || (z == 1 || false))) with
  | false => simp only [bodyF, startE, seqS, stS, stO, rtS, roS, roV, asS, ifS, xpS, bin, un, unN, lstF, lsF, consF, nilF, tupF, kc, gv, gb, tst, andT, orT, notT, andV, orV, notV, ifV, callF, callN, iterF, rngF, walked, slF, noP, soP, setN, setT, setCons, setNil, wipeE, yes, forS, prS, Rz.bind_ok, q_ofO, q_ofN, q_bad, q_ex, q_exS, q_exX, q_exB, q_okB, q_nx, q_rt, q_ro, q_bk, q_ct, q_sx, q_anx, q_act, q_abk, q_art, q_bnx, q_brt, q_bro, q_bex, q_va, q_ow, q_boo, add_int, sub_int, lt_int, le_int, gt_int, ge_int, neg_int, List.map_cons, List.map_nil, List.length_cons, List.length_nil, List.nil_append, List.cons_append, List.replicate, List.getElem?_cons_zero, List.getElem?_cons_succ, env_set0, env_setS, Option.bind_some, Option.map_some, if_true, Bool.false_eq_true, if_false, Nat.reduceAdd, Nat.reduceSub, sizeLine_eq, Nat.reduceLeDiff, Nat.zero_le, i1, hq, Bool.false_and, Bool.not_false]
  | true => simp only [bodyF, startE, seqS, stS, stO, rtS, roS, roV, asS, ifS, xpS, bin, un, unN, lstF, lsF, consF, nilF, tupF, kc, gv, gb, tst, andT, orT, notT, andV, orV, notV, ifV, callF, callN, iterF, rngF, walked, slF, noP, soP, setN, setT, setCons, setNil, wipeE, yes, forS, prS, Rz.bind_ok, q_ofO, q_ofN, q_bad, q_ex, q_exS, q_exX, q_exB, q_okB, q_nx, q_rt, q_ro, q_bk, q_ct, q_sx, q_anx, q_act, q_abk, q_art, q_bnx, q_brt, q_bro, q_bex, q_va, q_ow, q_boo, add_int, sub_int, lt_int, le_int, gt_int, ge_int, neg_int, List.map_cons, List.map_nil, List.length_cons, List.length_nil, List.nil_append, List.cons_append, List.replicate, List.getElem?_cons_zero, List.getElem?_cons_succ, env_set0, env_setS, Option.bind_some, Option.map_some, if_true, Bool.false_eq_true, if_false, Nat.reduceAdd, Nat.reduceSub, sizeLine_eq, Nat.reduceLeDiff, Nat.zero_le, i1, i2, hq, Bool.true_and]
/-! ### meets_triangle -/
def triR (s w a b c : P3) : Option Fr :=
  if upP a b c = (0, 0, 0) then flatR s w a b c
  else if dtP (upP a b c) w = 0 then (if dtP (upP a b c) (mnP a s) ≠ 0 then none else if wiB a b c (upP a b c) s 1 = true then some (0, 1) else flatR s w a b c)
  else if ¬ gle (0, 1) (rat (dtP (upP a b c) (mnP a s)) (dtP (upP a b c) w)) then none
  else if wiB a b c (upP a b c) (atP s w (rat (dtP (upP a b c) (mnP a s)) (dtP (upP a b c) w))) (rat (dtP (upP a b c) (mnP a s)) (dtP (upP a b c) w)).2 = true then some (rat (dtP (upP a b c) (mnP a s)) (dtP (upP a b c) w)) else none
theorem co_bd {n : Nat} {p : P3} (h : BdN n p) (k : Nat) : Bd n (co k p) := by
  match k with
  | 0 => exact h.1
  | 1 => exact h.2.1
  | k + 2 => exact h.2.2
theorem F_meets_triangle_eq {s w a b c : P3} (b1 : BdN 500 s) (b2 : BdN 2000 w) (b3 : BdN 500 a) (b4 : BdN 500 b) (b5 : BdN 500 c) (hw : w ≠ (0, 0, 0)) : F_meets_triangle [rayD s w, triD a b c] = .ok (.va (hiD (triR s w a b c))) := by
  have fl := F_meets_flat_eq b1 b2 b3 b4 b5 hw
  have bu : BdN 1003 (upP a b c) := (b4.mn b3).cr (b5.mn b3)
  have c1 := F_cross_eq (b4.mn b3) (b5.mn b3) (by decide) (by decide) (by decide)
  have d1 := F_dot_eq bu b2 (by decide) (by decide) (by decide)
  have d2 := F_dot_eq bu (b3.mn b1) (by decide) (by decide) (by decide)
  have sT : ∀ (x0 x1 x2 x3 x4 x5 x6 x7 x8 x9 x10 x11 x12 : Lc), setT 2 (setCons (setN 2) (setCons (setN 3) setNil)) (rayD s w) [x0, x1, x2, x3, x4, x5, x6, x7, x8, x9, x10, x11, x12] = some [x0, x1, .d (en s), .d (en w), x4, x5, x6, x7, x8, x9, x10, x11, x12] := fun _ _ _ _ _ _ _ _ _ _ _ _ _ => rfl
  have sT2 : ∀ (x0 x1 x2 x3 x4 x5 x6 x7 x8 x9 x10 x11 x12 : Lc), setT 3 (setCons (setN 4) (setCons (setN 5) (setCons (setN 6) setNil))) (triD a b c) [x0, x1, x2, x3, x4, x5, x6, x7, x8, x9, x10, x11, x12] = some [x0, x1, x2, x3, .d (en a), .d (en b), .d (en c), x7, x8, x9, x10, x11, x12] := fun _ _ _ _ _ _ _ _ _ _ _ _ _ => rfl
  refine b_rt ?_
  unfold g_meets_triangle
  refine (s_as (ε' := [.d (rayD s w), .d (triD a b c), .d (en s), .d (en w), .u, .u, .u, .u, .u, .u, .u, .u, .u]) rfl (sT _ _ _ _ _ _ _ _ _ _ _ _ _)).trans ?_
  refine (s_as (ε' := [.d (rayD s w), .d (triD a b c), .d (en s), .d (en w), .d (en a), .d (en b), .d (en c), .u, .u, .u, .u, .u, .u]) rfl (sT2 _ _ _ _ _ _ _ _ _ _ _ _ _)).trans ?_
  have cc : F_cross [en (mnP b a), en (mnP c a)] = .ok (.va (en (upP a b c))) := c1
  refine (s_st (d := en (upP a b c)) (by simp only [bodyF, startE, seqS, stS, stO, rtS, roS, roV, asS, ifS, xpS, bin, un, unN, lstF, lsF, consF, nilF, tupF, kc, gv, gb, tst, andT, orT, notT, andV, orV, notV, ifV, callF, callN, iterF, rngF, walked, slF, noP, soP, setN, setT, setCons, setNil, wipeE, yes, forS, prS, Rz.bind_ok, q_ofO, q_ofN, q_bad, q_ex, q_exS, q_exX, q_exB, q_okB, q_nx, q_rt, q_ro, q_bk, q_ct, q_sx, q_anx, q_act, q_abk, q_art, q_bnx, q_brt, q_bro, q_bex, q_va, q_ow, q_boo, add_int, sub_int, lt_int, le_int, gt_int, ge_int, neg_int, List.map_cons, List.map_nil, List.length_cons, List.length_nil, List.nil_append, List.cons_append, List.replicate, List.getElem?_cons_zero, List.getElem?_cons_succ, env_set0, env_setS, Option.bind_some, Option.map_some, if_true, Bool.false_eq_true, if_false, Nat.reduceAdd, Nat.reduceSub, sizeLine_eq, Nat.reduceLeDiff, Nat.zero_le, F_minus_eq, cc])).trans ?_
  unfold triR
  by_cases hu : upP a b c = (0, 0, 0)
  · rw [if_pos hu]
    simp only [bodyF, startE, seqS, stS, stO, rtS, roS, roV, asS, ifS, xpS, bin, un, unN, lstF, lsF, consF, nilF, tupF, kc, gv, gb, tst, andT, orT, notT, andV, orV, notV, ifV, callF, callN, iterF, rngF, walked, slF, noP, soP, setN, setT, setCons, setNil, wipeE, yes, forS, prS, Rz.bind_ok, q_ofO, q_ofN, q_bad, q_ex, q_exS, q_exX, q_exB, q_okB, q_nx, q_rt, q_ro, q_bk, q_ct, q_sx, q_anx, q_act, q_abk, q_art, q_bnx, q_brt, q_bro, q_bex, q_va, q_ow, q_boo, add_int, sub_int, lt_int, le_int, gt_int, ge_int, neg_int, List.map_cons, List.map_nil, List.length_cons, List.length_nil, List.nil_append, List.cons_append, List.replicate, List.getElem?_cons_zero, List.getElem?_cons_succ, env_set0, env_setS, Option.bind_some, Option.map_some, if_true, Bool.false_eq_true, if_false, Nat.reduceAdd, Nat.reduceSub, sizeLine_eq, Nat.reduceLeDiff, Nat.zero_le, eqz, decide_eq_true hu, fl]
  · rw [if_neg hu]
    refine (s_ifF (by simp only [bodyF, startE, seqS, stS, stO, rtS, roS, roV, asS, ifS, xpS, bin, un, unN, lstF, lsF, consF, nilF, tupF, kc, gv, gb, tst, andT, orT, notT, andV, orV, notV, ifV, callF, callN, iterF, rngF, walked, slF, noP, soP, setN, setT, setCons, setNil, wipeE, yes, forS, prS, Rz.bind_ok, q_ofO, q_ofN, q_bad, q_ex, q_exS, q_exX, q_exB, q_okB, q_nx, q_rt, q_ro, q_bk, q_ct, q_sx, q_anx, q_act, q_abk, q_art, q_bnx, q_brt, q_bro, q_bex, q_va, q_ow, q_boo, add_int, sub_int, lt_int, le_int, gt_int, ge_int, neg_int, List.map_cons, List.map_nil, List.length_cons, List.length_nil, List.nil_append, List.cons_append, List.replicate, List.getElem?_cons_zero, List.getElem?_cons_succ, env_set0, env_setS, Option.bind_some, Option.map_some, if_true, Bool.false_eq_true, if_false, Nat.reduceAdd, Nat.reduceSub, sizeLine_eq, Nat.reduceLeDiff, Nat.zero_le, eqz, decide_eq_false hu])).trans ?_
    refine (s_st (d := .int (dtP (upP a b c) w)) (c_1 (n := 2) rfl rfl d1 rfl)).trans ?_
    refine (s_st (d := .int (dtP (upP a b c) (mnP a s))) (by simp only [bodyF, startE, seqS, stS, stO, rtS, roS, roV, asS, ifS, xpS, bin, un, unN, lstF, lsF, consF, nilF, tupF, kc, gv, gb, tst, andT, orT, notT, andV, orV, notV, ifV, callF, callN, iterF, rngF, walked, slF, noP, soP, setN, setT, setCons, setNil, wipeE, yes, forS, prS, Rz.bind_ok, q_ofO, q_ofN, q_bad, q_ex, q_exS, q_exX, q_exB, q_okB, q_nx, q_rt, q_ro, q_bk, q_ct, q_sx, q_anx, q_act, q_abk, q_art, q_bnx, q_brt, q_bro, q_bex, q_va, q_ow, q_boo, add_int, sub_int, lt_int, le_int, gt_int, ge_int, neg_int, List.map_cons, List.map_nil, List.length_cons, List.length_nil, List.nil_append, List.cons_append, List.replicate, List.getElem?_cons_zero, List.getElem?_cons_succ, env_set0, env_setS, Option.bind_some, Option.map_some, if_true, Bool.false_eq_true, if_false, Nat.reduceAdd, Nat.reduceSub, sizeLine_eq, Nat.reduceLeDiff, Nat.zero_le, F_minus_eq, d2])).trans ?_
    by_cases h0 : dtP (upP a b c) w = 0
    · rw [if_pos h0]
      refine (s_ifT (by simp only [bodyF, startE, seqS, stS, stO, rtS, roS, roV, asS, ifS, xpS, bin, un, unN, lstF, lsF, consF, nilF, tupF, kc, gv, gb, tst, andT, orT, notT, andV, orV, notV, ifV, callF, callN, iterF, rngF, walked, slF, noP, soP, setN, setT, setCons, setNil, wipeE, yes, forS, prS, Rz.bind_ok, q_ofO, q_ofN, q_bad, q_ex, q_exS, q_exX, q_exB, q_okB, q_nx, q_rt, q_ro, q_bk, q_ct, q_sx, q_anx, q_act, q_abk, q_art, q_bnx, q_brt, q_bro, q_bex, q_va, q_ow, q_boo, add_int, sub_int, lt_int, le_int, gt_int, ge_int, neg_int, List.map_cons, List.map_nil, List.length_cons, List.length_nil, List.nil_append, List.cons_append, List.replicate, List.getElem?_cons_zero, List.getElem?_cons_succ, env_set0, env_setS, Option.bind_some, Option.map_some, if_true, Bool.false_eq_true, if_false, Nat.reduceAdd, Nat.reduceSub, sizeLine_eq, Nat.reduceLeDiff, Nat.zero_le, eqD_int, decide_eq_true h0])).trans ?_
      by_cases ht : dtP (upP a b c) (mnP a s) = 0
      · rw [if_neg (fun z => z ht)]
        have e0 : neD (.int (dtP (upP a b c) (mnP a s))) (.int 0) = some (.bl false) := by rw [neD_int, decide_eq_true ht]; rfl
        have wi := F_is_within_eq (X := s) (m := 1) b3 b4 b5 (bu.mono (by decide)) (b1.mono (by decide)) (Bd.mono (n := 1) (show (1 : Int).natAbs < 2 ^ 1 by decide) (by decide))
        by_cases hwi : wiB a b c (upP a b c) s 1 = true
        · rw [if_pos hwi]
          rw [hwi] at wi
          simp only [bodyF, startE, seqS, stS, stO, rtS, roS, roV, asS, ifS, xpS, bin, un, unN, lstF, lsF, consF, nilF, tupF, kc, gv, gb, tst, andT, orT, notT, andV, orV, notV, ifV, callF, callN, iterF, rngF, walked, slF, noP, soP, setN, setT, setCons, setNil, wipeE, yes, forS, prS, Rz.bind_ok, q_ofO, q_ofN, q_bad, q_ex, q_exS, q_exX, q_exB, q_okB, q_nx, q_rt, q_ro, q_bk, q_ct, q_sx, q_anx, q_act, q_abk, q_art, q_bnx, q_brt, q_bro, q_bex, q_va, q_ow, q_boo, add_int, sub_int, lt_int, le_int, gt_int, ge_int, neg_int, List.map_cons, List.map_nil, List.length_cons, List.length_nil, List.nil_append, List.cons_append, List.replicate, List.getElem?_cons_zero, List.getElem?_cons_succ, env_set0, env_setS, Option.bind_some, Option.map_some, if_true, Bool.false_eq_true, if_false, Nat.reduceAdd, Nat.reduceSub, sizeLine_eq, Nat.reduceLeDiff, Nat.zero_le, e0, wi]
          rfl
        · rw [if_neg hwi]
          rw [Bool.not_eq_true] at hwi
          rw [hwi] at wi
          simp only [bodyF, startE, seqS, stS, stO, rtS, roS, roV, asS, ifS, xpS, bin, un, unN, lstF, lsF, consF, nilF, tupF, kc, gv, gb, tst, andT, orT, notT, andV, orV, notV, ifV, callF, callN, iterF, rngF, walked, slF, noP, soP, setN, setT, setCons, setNil, wipeE, yes, forS, prS, Rz.bind_ok, q_ofO, q_ofN, q_bad, q_ex, q_exS, q_exX, q_exB, q_okB, q_nx, q_rt, q_ro, q_bk, q_ct, q_sx, q_anx, q_act, q_abk, q_art, q_bnx, q_brt, q_bro, q_bex, q_va, q_ow, q_boo, add_int, sub_int, lt_int, le_int, gt_int, ge_int, neg_int, List.map_cons, List.map_nil, List.length_cons, List.length_nil, List.nil_append, List.cons_append, List.replicate, List.getElem?_cons_zero, List.getElem?_cons_succ, env_set0, env_setS, Option.bind_some, Option.map_some, if_true, Bool.false_eq_true, if_false, Nat.reduceAdd, Nat.reduceSub, sizeLine_eq, Nat.reduceLeDiff, Nat.zero_le, e0, wi, fl]
      · rw [if_pos ht]
        have e0 : neD (.int (dtP (upP a b c) (mnP a s))) (.int 0) = some (.bl true) := by rw [neD_int, decide_eq_false ht]; rfl
        simp only [bodyF, startE, seqS, stS, stO, rtS, roS, roV, asS, ifS, xpS, bin, un, unN, lstF, lsF, consF, nilF, tupF, kc, gv, gb, tst, andT, orT, notT, andV, orV, notV, ifV, callF, callN, iterF, rngF, walked, slF, noP, soP, setN, setT, setCons, setNil, wipeE, yes, forS, prS, Rz.bind_ok, q_ofO, q_ofN, q_bad, q_ex, q_exS, q_exX, q_exB, q_okB, q_nx, q_rt, q_ro, q_bk, q_ct, q_sx, q_anx, q_act, q_abk, q_art, q_bnx, q_brt, q_bro, q_bex, q_va, q_ow, q_boo, add_int, sub_int, lt_int, le_int, gt_int, ge_int, neg_int, List.map_cons, List.map_nil, List.length_cons, List.length_nil, List.nil_append, List.cons_append, List.replicate, List.getElem?_cons_zero, List.getElem?_cons_succ, env_set0, env_setS, Option.bind_some, Option.map_some, if_true, Bool.false_eq_true, if_false, Nat.reduceAdd, Nat.reduceSub, sizeLine_eq, Nat.reduceLeDiff, Nat.zero_le, e0, hiD]
    · rw [if_neg h0]
      refine (s_ifF (by simp only [bodyF, startE, seqS, stS, stO, rtS, roS, roV, asS, ifS, xpS, bin, un, unN, lstF, lsF, consF, nilF, tupF, kc, gv, gb, tst, andT, orT, notT, andV, orV, notV, ifV, callF, callN, iterF, rngF, walked, slF, noP, soP, setN, setT, setCons, setNil, wipeE, yes, forS, prS, Rz.bind_ok, q_ofO, q_ofN, q_bad, q_ex, q_exS, q_exX, q_exB, q_okB, q_nx, q_rt, q_ro, q_bk, q_ct, q_sx, q_anx, q_act, q_abk, q_art, q_bnx, q_brt, q_bro, q_bex, q_va, q_ow, q_boo, add_int, sub_int, lt_int, le_int, gt_int, ge_int, neg_int, List.map_cons, List.map_nil, List.length_cons, List.length_nil, List.nil_append, List.cons_append, List.replicate, List.getElem?_cons_zero, List.getElem?_cons_succ, env_set0, env_setS, Option.bind_some, Option.map_some, if_true, Bool.false_eq_true, if_false, Nat.reduceAdd, Nat.reduceSub, sizeLine_eq, Nat.reduceLeDiff, Nat.zero_le, eqD_int, decide_eq_false h0])).trans ?_
      have bt : Bd 1506 (dtP (upP a b c) (mnP a s)) := bu.dt (b3.mn b1)
      have bn : Bd 3005 (dtP (upP a b c) w) := bu.dt b2
      have r := F_ratio_eq (t := dtP (upP a b c) (mnP a s)) (u := dtP (upP a b c) w) h0 bn (by decide)
      have rb1 : Bd 1506 (rat (dtP (upP a b c) (mnP a s)) (dtP (upP a b c) w)).1 := by
        obtain ⟨g1, g2, g3, g4⟩ := rat_g (t := dtP (upP a b c) (mnP a s)) h0
        have e1 : (dtP (upP a b c) (mnP a s)).natAbs = (rtg (dtP (upP a b c) (mnP a s)) (dtP (upP a b c) w)).natAbs * (rat (dtP (upP a b c) (mnP a s)) (dtP (upP a b c) w)).1.natAbs := by rw [← Int.natAbs_mul, ← g3]
        unfold Bd at bt ⊢
        exact Nat.lt_of_le_of_lt (by rw [e1]; exact Nat.le_mul_of_pos_left _ (by omega)) bt
      have rb2 : Bd 3005 (rat (dtP (upP a b c) (mnP a s)) (dtP (upP a b c) w)).2 := by
        obtain ⟨g1, g2, g3, g4⟩ := rat_g (t := dtP (upP a b c) (mnP a s)) h0
        have e1 : (dtP (upP a b c) w).natAbs = (rtg (dtP (upP a b c) (mnP a s)) (dtP (upP a b c) w)).natAbs * (rat (dtP (upP a b c) (mnP a s)) (dtP (upP a b c) w)).2.natAbs := by rw [← Int.natAbs_mul, ← g4]
        unfold Bd at bn ⊢
        exact Nat.lt_of_le_of_lt (by rw [e1]; exact Nat.le_mul_of_pos_left _ (by omega)) bn
      refine (s_st (d := fr (rat (dtP (upP a b c) (mnP a s)) (dtP (upP a b c) w))) (c_1 (n := 2) rfl rfl r rfl)).trans ?_
      generalize rat (dtP (upP a b c) (mnP a s)) (dtP (upP a b c) w) = x at rb1 rb2 ⊢
      have l := F_is_less_eq (x := x) (y := (0, 1)) (n := 9000) (rb1.mono (by decide)) (rb2.mono (by decide)) gt_01.b1 gt_01.b2 (by decide) (by decide)
      have l' : F_is_less [fr x, .tup [.int 0, .int 1]] = .ok (.va (.bl (!decide (gle (0, 1) x)))) := l
      by_cases hg : gle (0, 1) x
      · rw [if_neg (fun z => z hg)]
        refine (s_ifF (by simp only [bodyF, startE, seqS, stS, stO, rtS, roS, roV, asS, ifS, xpS, bin, un, unN, lstF, lsF, consF, nilF, tupF, kc, gv, gb, tst, andT, orT, notT, andV, orV, notV, ifV, callF, callN, iterF, rngF, walked, slF, noP, soP, setN, setT, setCons, setNil, wipeE, yes, forS, prS, Rz.bind_ok, q_ofO, q_ofN, q_bad, q_ex, q_exS, q_exX, q_exB, q_okB, q_nx, q_rt, q_ro, q_bk, q_ct, q_sx, q_anx, q_act, q_abk, q_art, q_bnx, q_brt, q_bro, q_bex, q_va, q_ow, q_boo, add_int, sub_int, lt_int, le_int, gt_int, ge_int, neg_int, List.map_cons, List.map_nil, List.length_cons, List.length_nil, List.nil_append, List.cons_append, List.replicate, List.getElem?_cons_zero, List.getElem?_cons_succ, env_set0, env_setS, Option.bind_some, Option.map_some, if_true, Bool.false_eq_true, if_false, Nat.reduceAdd, Nat.reduceSub, sizeLine_eq, Nat.reduceLeDiff, Nat.zero_le, l', decide_eq_true hg, Bool.not_true])).trans ?_
        have f0 : ixD (fr x) (.int 0) = some (.int x.1) := rfl
        have f1 : ixD (fr x) (.int 1) = some (.int x.2) := rfl
        have lc : lcF (rngF (kc (.int 3))) [12] (setN 12) yes (bin addD (bin mulD (bin ixD (gb 2) (gb 12)) (bin ixD (gb 10) (kc (.int 1)))) (bin mulD (bin ixD (gb 3) (gb 12)) (bin ixD (gb 10) (kc (.int 0))))) [.d (rayD s w), .d (triD a b c), .d (en s), .d (en w), .d (en a), .d (en b), .d (en c), .d (en (upP a b c)), .d (.int (dtP (upP a b c) w)), .d (.int (dtP (upP a b c) (mnP a s))), .d (fr x), .u, .u] = .ok [.int (atP s w x).1, .int (atP s w x).2.1, .int (atP s w x).2.2] := by
          refine (lcF_rng (n := 3) (f := fun j => .int (co j s * x.2 + co j w * x.1)) rfl (by decide) fun j hj => ?_).trans rfl
          have m1 := mul_bd (co_bd b1 j) rb2 (by decide) (by decide) (by decide)
          have m2 := mul_bd (co_bd b2 j) rb1 (by decide) (by decide) (by decide)
          simp only [bodyF, startE, seqS, stS, stO, rtS, roS, roV, asS, ifS, xpS, bin, un, unN, lstF, lsF, consF, nilF, tupF, kc, gv, gb, tst, andT, orT, notT, andV, orV, notV, ifV, callF, callN, iterF, rngF, walked, slF, noP, soP, setN, setT, setCons, setNil, wipeE, yes, forS, prS, Rz.bind_ok, q_ofO, q_ofN, q_bad, q_ex, q_exS, q_exX, q_exB, q_okB, q_nx, q_rt, q_ro, q_bk, q_ct, q_sx, q_anx, q_act, q_abk, q_art, q_bnx, q_brt, q_bro, q_bex, q_va, q_ow, q_boo, add_int, sub_int, lt_int, le_int, gt_int, ge_int, neg_int, List.map_cons, List.map_nil, List.length_cons, List.length_nil, List.nil_append, List.cons_append, List.replicate, List.getElem?_cons_zero, List.getElem?_cons_succ, env_set0, env_setS, Option.bind_some, Option.map_some, if_true, Bool.false_eq_true, if_false, Nat.reduceAdd, Nat.reduceSub, sizeLine_eq, Nat.reduceLeDiff, Nat.zero_le, List.foldl, en_ix _ j hj, f0, f1, m1, m2]
        refine (s_st (d := en (atP s w x)) (e_un (e_lst lc) rfl)).trans ?_
        have bX : BdN 5000 (atP s w x) := by
          have z : ∀ k, Bd 5000 (co k (atP s w x)) := fun k => by
            rw [co_at]
            exact ((((co_bd b1 k).mul rb2).mono (m := 3506) (by decide)).add ((co_bd b2 k).mul rb1)).mono (by decide)
          exact ⟨z 0, z 1, z 2⟩
        have wi := F_is_within_eq (X := atP s w x) (m := x.2) b3 b4 b5 (bu.mono (by decide)) bX (rb2.mono (by decide))
        by_cases hwi : wiB a b c (upP a b c) (atP s w x) x.2 = true
        · rw [if_pos hwi]
          rw [hwi] at wi
          simp only [bodyF, startE, seqS, stS, stO, rtS, roS, roV, asS, ifS, xpS, bin, un, unN, lstF, lsF, consF, nilF, tupF, kc, gv, gb, tst, andT, orT, notT, andV, orV, notV, ifV, callF, callN, iterF, rngF, walked, slF, noP, soP, setN, setT, setCons, setNil, wipeE, yes, forS, prS, Rz.bind_ok, q_ofO, q_ofN, q_bad, q_ex, q_exS, q_exX, q_exB, q_okB, q_nx, q_rt, q_ro, q_bk, q_ct, q_sx, q_anx, q_act, q_abk, q_art, q_bnx, q_brt, q_bro, q_bex, q_va, q_ow, q_boo, add_int, sub_int, lt_int, le_int, gt_int, ge_int, neg_int, List.map_cons, List.map_nil, List.length_cons, List.length_nil, List.nil_append, List.cons_append, List.replicate, List.getElem?_cons_zero, List.getElem?_cons_succ, env_set0, env_setS, Option.bind_some, Option.map_some, if_true, Bool.false_eq_true, if_false, Nat.reduceAdd, Nat.reduceSub, sizeLine_eq, Nat.reduceLeDiff, Nat.zero_le, f1, wi, hiD]
        · rw [if_neg hwi]
          rw [Bool.not_eq_true] at hwi
          rw [hwi] at wi
          simp only [bodyF, startE, seqS, stS, stO, rtS, roS, roV, asS, ifS, xpS, bin, un, unN, lstF, lsF, consF, nilF, tupF, kc, gv, gb, tst, andT, orT, notT, andV, orV, notV, ifV, callF, callN, iterF, rngF, walked, slF, noP, soP, setN, setT, setCons, setNil, wipeE, yes, forS, prS, Rz.bind_ok, q_ofO, q_ofN, q_bad, q_ex, q_exS, q_exX, q_exB, q_okB, q_nx, q_rt, q_ro, q_bk, q_ct, q_sx, q_anx, q_act, q_abk, q_art, q_bnx, q_brt, q_bro, q_bex, q_va, q_ow, q_boo, add_int, sub_int, lt_int, le_int, gt_int, ge_int, neg_int, List.map_cons, List.map_nil, List.length_cons, List.length_nil, List.nil_append, List.cons_append, List.replicate, List.getElem?_cons_zero, List.getElem?_cons_succ, env_set0, env_setS, Option.bind_some, Option.map_some, if_true, Bool.false_eq_true, if_false, Nat.reduceAdd, Nat.reduceSub, sizeLine_eq, Nat.reduceLeDiff, Nat.zero_le, f1, wi, hiD]
      · rw [if_pos hg]
        simp only [bodyF, startE, seqS, stS, stO, rtS, roS, roV, asS, ifS, xpS, bin, un, unN, lstF, lsF, consF, nilF, tupF, kc, gv, gb, tst, andT, orT, notT, andV, orV, notV, ifV, callF, callN, iterF, rngF, walked, slF, noP, soP, setN, setT, setCons, setNil, wipeE, yes, forS, prS, Rz.bind_ok, q_ofO, q_ofN, q_bad, q_ex, q_exS, q_exX, q_exB, q_okB, q_nx, q_rt, q_ro, q_bk, q_ct, q_sx, q_anx, q_act, q_abk, q_art, q_bnx, q_brt, q_bro, q_bex, q_va, q_ow, q_boo, add_int, sub_int, lt_int, le_int, gt_int, ge_int, neg_int, List.map_cons, List.map_nil, List.length_cons, List.length_nil, List.nil_append, List.cons_append, List.replicate, List.getElem?_cons_zero, List.getElem?_cons_succ, env_set0, env_setS, Option.bind_some, Option.map_some, if_true, Bool.false_eq_true, if_false, Nat.reduceAdd, Nat.reduceSub, sizeLine_eq, Nat.reduceLeDiff, Nat.zero_le, l', decide_eq_false hg, Bool.not_false, hiD]
end DL
end
section
set_option Elab.async false
set_option linter.all false
set_option maxRecDepth 100000
set_option maxHeartbeats 4000000
set_option autoImplicit false
namespace DL
variable [TbC]
open PySem
theorem turns {a b c u X : P3} {m : Int} : trI (scP m a) (scP m b) X u = m * dtP (crP (mnP b a) (mnP X (scP m a))) u ∧ trI (scP m c) (scP m a) X u = m * dtP (crP (mnP X (scP m a)) (mnP c a)) u ∧
    trI (scP m b) (scP m c) X u = m * (m * dtP (crP (mnP b a) (mnP c a)) u - dtP (crP (mnP X (scP m a)) (mnP c a)) u - dtP (crP (mnP b a) (mnP X (scP m a))) u) := by
  obtain ⟨a0, a1, a2⟩ := a
  obtain ⟨b0, b1, b2⟩ := b
  obtain ⟨c0, c1, c2⟩ := c
  obtain ⟨u0, u1, u2⟩ := u
  obtain ⟨x0, x1, x2⟩ := X
  refine ⟨?_, ?_, ?_⟩
  · simp only [trI, dtP, crP, mnP, scP]; grind
  · simp only [trI, dtP, crP, mnP, scP]; grind
  · simp only [trI, dtP, crP, mnP, scP]; grind
theorem sgn_1 {m x : Int} (hm : 0 < m) : (sgn (m * x) == 1) = decide (0 < x) := by
  unfold sgn
  rcases Int.lt_trichotomy x 0 with h | h | h
  · have := Int.mul_neg_of_pos_of_neg hm h
    rw [if_neg (by omega), if_pos this, decide_eq_false (by omega)]; rfl
  · subst h; rw [Int.mul_zero]; rfl
  · have := Int.mul_pos hm h
    rw [if_pos this, if_neg (by omega), decide_eq_true h]; rfl
theorem sgn_m {m x : Int} (hm : 0 < m) : (sgn (m * x) == -1) = decide (x < 0) := by
  unfold sgn
  rcases Int.lt_trichotomy x 0 with h | h | h
  · have := Int.mul_neg_of_pos_of_neg hm h
    rw [if_neg (by omega), if_pos this, decide_eq_true h]; rfl
  · subst h; rw [Int.mul_zero]; rfl
  · have := Int.mul_pos hm h
    rw [if_pos this, if_neg (by omega), decide_eq_false (by omega)]; rfl
theorem wiB_iff {a b c X : P3} {m : Int} (hm : 0 < m) (hu : upP a b c ≠ (0, 0, 0)) : wiB a b c (upP a b c) X m = true ↔ 0 ≤ shL X m a b c ∧ 0 ≤ shM X m a b c ∧ 0 ≤ shN X m a b c := by
  obtain ⟨t1, t2, t3⟩ := turns (a := a) (b := b) (c := c) (u := upP a b c) (X := X) (m := m)
  have e3 : m * dtP (crP (mnP b a) (mnP c a)) (upP a b c) - dtP (crP (mnP X (scP m a)) (mnP c a)) (upP a b c) - dtP (crP (mnP b a) (mnP X (scP m a))) (upP a b c) = shN X m a b c := rfl
  have e1 : dtP (crP (mnP b a) (mnP X (scP m a))) (upP a b c) = shM X m a b c := rfl
  have e2 : dtP (crP (mnP X (scP m a)) (mnP c a)) (upP a b c) = shL X m a b c := rfl
  rw [e3] at t3
  rw [e1] at t1
  rw [e2] at t2
  have hs : shN X m a b c + shL X m a b c + shM X m a b c = m * dtP (upP a b c) (upP a b c) := by unfold shN; omega
  have hp : 0 < m * dtP (upP a b c) (upP a b c) := Int.mul_pos hm (dt_pos hu)
  unfold wiB
  rw [t1, t2, t3, sgn_1 hm, sgn_1 hm, sgn_1 hm, sgn_m hm, sgn_m hm, sgn_m hm]
  rw [← hs] at hp
  generalize shN X m a b c = x at *
  generalize shL X m a b c = y at *
  generalize shM X m a b c = z at *
  simp only [Bool.not_eq_true', Bool.and_eq_false_iff, Bool.or_eq_false_iff, decide_eq_false_iff_not]
  omega
theorem tri_same {s w a b c : P3} {t x : Fr} (ht : 0 < t.2) (hx : 0 < x.2) (e : t.1 * x.2 = x.1 * t.2) (h : Tri (atP s w t) t.2 a b c) : Tri (atP s w x) x.2 a b c := by
  obtain ⟨α, β, γ, h1, h2, h3, h4, h⟩ := h
  refine ⟨α, β, γ, h1, h2, h3, h4, fun k => ?_⟩
  have q := h k
  rw [co_at] at q ⊢
  apply mul_cancel ht
  generalize α + β + γ = S at *
  generalize α * co k a + β * co k b + γ * co k c = V at *
  have : t.2 * (S * (co k s * x.2 + co k w * x.1)) = x.2 * (S * (co k s * t.2 + co k w * t.1)) := by grind
  rw [this, q]
  grind
theorem pl_at {s w a b c : P3} {t : Fr} : dtP (mnP (atP s w t) (scP t.2 a)) (upP a b c) = t.1 * dtP (upP a b c) w - t.2 * dtP (upP a b c) (mnP a s) := by
  generalize upP a b c = u
  obtain ⟨a0, a1, a2⟩ := a
  obtain ⟨s0, s1, s2⟩ := s
  obtain ⟨w0, w1, w2⟩ := w
  obtain ⟨u0, u1, u2⟩ := u
  simp only [dtP, mnP, atP, scP]
  grind
theorem shL_at {s w a b c : P3} {t : Fr} : shL (atP s w t) t.2 a b c = t.2 * shL s 1 a b c + t.1 * dtP (crP w (mnP c a)) (upP a b c) := by
  unfold shL
  generalize upP a b c = u
  generalize mnP c a = l
  obtain ⟨a0, a1, a2⟩ := a
  obtain ⟨s0, s1, s2⟩ := s
  obtain ⟨w0, w1, w2⟩ := w
  obtain ⟨u0, u1, u2⟩ := u
  obtain ⟨l0, l1, l2⟩ := l
  simp only [dtP, mnP, atP, scP, crP]
  grind
theorem shM_at {s w a b c : P3} {t : Fr} : shM (atP s w t) t.2 a b c = t.2 * shM s 1 a b c + t.1 * dtP (crP (mnP b a) w) (upP a b c) := by
  unfold shM
  generalize upP a b c = u
  generalize mnP b a = l
  obtain ⟨a0, a1, a2⟩ := a
  obtain ⟨s0, s1, s2⟩ := s
  obtain ⟨w0, w1, w2⟩ := w
  obtain ⟨u0, u1, u2⟩ := u
  obtain ⟨l0, l1, l2⟩ := l
  simp only [dtP, mnP, atP, scP, crP]
  grind
theorem shN_at {s w a b c : P3} {t : Fr} : shN (atP s w t) t.2 a b c = t.2 * shN s 1 a b c + t.1 * (- dtP (crP w (mnP c a)) (upP a b c) - dtP (crP (mnP b a) w) (upP a b c)) := by
  unfold shN
  rw [shL_at, shM_at]
  generalize shL s 1 a b c = x
  generalize shM s 1 a b c = y
  generalize dtP (upP a b c) (upP a b c) = z
  generalize dtP (crP w (mnP c a)) (upP a b c) = v
  generalize dtP (crP (mnP b a) w) (upP a b c) = q
  grind
theorem at_01 (s w : P3) : atP s w (0, 1) = s := ext3 fun k => by rw [co_at]; simp
theorem triR_spec {s w a b c : P3} (b1 : BdN 500 s) (b2 : BdN 2000 w) (b3 : BdN 500 a) (b4 : BdN 500 b) (b5 : BdN 500 c) (hw : w ≠ (0, 0, 0)) : Fst (fun t => Tri (atP s w t) t.2 a b c) (triR s w a b c) := by
  have fs := flat_spec b1 b2 b3 b4 b5 hw
  have sub : ∀ {X : P3} {m : Int}, ((Seg X m a b ∨ Seg X m b c) ∨ Seg X m c a) → Tri X m a b c := fun h => h.elim (fun h => h.elim tri_ab tri_bc) tri_ca
  unfold triR
  by_cases hu : upP a b c = (0, 0, 0)
  · rw [if_pos hu]
    exact fs.cong fun t _ _ => ⟨sub, tri_flat hu⟩
  · rw [if_neg hu]
    have inp : ∀ t : Fr, 0 < t.2 → Tri (atP s w t) t.2 a b c → t.1 * dtP (upP a b c) w = t.2 * dtP (upP a b c) (mnP a s) := fun t ht z => by
      have := (tri_in ht z).1
      unfold inPl at this
      rw [pl_at] at this
      omega
    by_cases h0 : dtP (upP a b c) w = 0
    · rw [if_pos h0]
      by_cases htp : dtP (upP a b c) (mnP a s) = 0
      · rw [if_neg (fun z => z htp)]
        have pl : ∀ t : Fr, inPl (atP s w t) t.2 a b c := fun t => by
          unfold inPl
          rw [pl_at, h0, htp, Int.mul_zero, Int.mul_zero]; rfl
        by_cases hwi : wiB a b c (upP a b c) s 1 = true
        · rw [if_pos hwi]
          refine ⟨fun x e => ?_, fun x e t h1 h2 _ => by cases e; unfold gle; simp; exact h2, fun e => (nomatch e)⟩
          cases e
          refine ⟨gt_01, Int.le_refl _, ?_⟩
          obtain ⟨q1, q2, q3⟩ := (wiB_iff (by decide) hu).mp hwi
          have p := pl (0, 1)
          show Tri (atP s w (0, 1)) 1 a b c
          rw [at_01] at p ⊢
          exact in_tri (by decide) hu p q1 q2 q3
        · rw [if_neg hwi]
          have back : ∀ t : Fr, 0 < t.2 → 0 ≤ t.1 → Tri (atP s w t) t.2 a b c → ∃ x : Fr, 0 < x.2 ∧ 0 ≤ x.1 ∧ gle x t ∧ ((Seg (atP s w x) x.2 a b ∨ Seg (atP s w x) x.2 b c) ∨ Seg (atP s w x) x.2 c a) := fun t h1 h2 z => by
            obtain ⟨_, y1, y2, y3⟩ := tri_in h1 z
            rw [shL_at] at y1
            rw [shM_at] at y2
            rw [shN_at] at y3
            have neg : shL s 1 a b c < 0 ∨ shM s 1 a b c < 0 ∨ shN s 1 a b c < 0 := by
              have : ¬ (0 ≤ shL s 1 a b c ∧ 0 ≤ shM s 1 a b c ∧ 0 ≤ shN s 1 a b c) := fun q => hwi ((wiB_iff (by decide) hu).mpr q)
              omega
            obtain ⟨i, hi, i1, i2, i3⟩ := last_up (fun i => if i = 0 then shL s 1 a b c else if i = 1 then shM s 1 a b c else shN s 1 a b c)
              (fun i => if i = 0 then dtP (crP w (mnP c a)) (upP a b c) else if i = 1 then dtP (crP (mnP b a) w) (upP a b c) else - dtP (crP w (mnP c a)) (upP a b c) - dtP (crP (mnP b a) w) (upP a b c)) h1 h2 3
              (fun i hi => by
                match i, hi with
                | 0, _ => exact y1
                | 1, _ => exact y2
                | 2, _ => exact y3)
              (by
                rcases neg with n | n | n
                · exact ⟨0, by decide, n⟩
                · exact ⟨1, by decide, n⟩
                · exact ⟨2, by decide, n⟩)
            have j0 := i3 0 (by decide)
            have j1 := i3 1 (by decide)
            have j2 := i3 2 (by decide)
            have fin : ∀ f g : Int, f < 0 → 0 < g → 0 ≤ t.2 * f + t.1 * g → 0 ≤ g * shL s 1 a b c - f * dtP (crP w (mnP c a)) (upP a b c) → 0 ≤ g * shM s 1 a b c - f * dtP (crP (mnP b a) w) (upP a b c) → 0 ≤ g * shN s 1 a b c - f * (- dtP (crP w (mnP c a)) (upP a b c) - dtP (crP (mnP b a) w) (upP a b c)) →
                (g * shN s 1 a b c - f * (- dtP (crP w (mnP c a)) (upP a b c) - dtP (crP (mnP b a) w) (upP a b c)) = 0 ∨ g * shL s 1 a b c - f * dtP (crP w (mnP c a)) (upP a b c) = 0 ∨ g * shM s 1 a b c - f * dtP (crP (mnP b a) w) (upP a b c) = 0) →
                ∃ x : Fr, 0 < x.2 ∧ 0 ≤ x.1 ∧ gle x t ∧ ((Seg (atP s w x) x.2 a b ∨ Seg (atP s w x) x.2 b c) ∨ Seg (atP s w x) x.2 c a) := fun f g hf hg h3 k1 k2 k3 k4 => by
              have s1 : shL (atP s w (-f, g)) g a b c = g * shL s 1 a b c - f * dtP (crP w (mnP c a)) (upP a b c) := by
                have := shL_at (s := s) (w := w) (a := a) (b := b) (c := c) (t := (-f, g))
                rw [this, Int.neg_mul]; rfl
              have s2 : shM (atP s w (-f, g)) g a b c = g * shM s 1 a b c - f * dtP (crP (mnP b a) w) (upP a b c) := by
                have := shM_at (s := s) (w := w) (a := a) (b := b) (c := c) (t := (-f, g))
                rw [this, Int.neg_mul]; rfl
              have s3 : shN (atP s w (-f, g)) g a b c = g * shN s 1 a b c - f * (- dtP (crP w (mnP c a)) (upP a b c) - dtP (crP (mnP b a) w) (upP a b c)) := by
                have := shN_at (s := s) (w := w) (a := a) (b := b) (c := c) (t := (-f, g))
                rw [this, Int.neg_mul]; rfl
              refine ⟨(-f, g), hg, by show 0 ≤ -f; omega, ?_, on_edge hg hu (pl (-f, g)) (by rw [s1]; exact k1) (by rw [s2]; exact k2) (by rw [s3]; exact k3) (by rw [s1, s2, s3]; exact k4)⟩
              show -f * t.2 ≤ t.1 * g
              rw [Int.neg_mul, Int.mul_comm f]
              omega
            match i, hi with
            | 0, _ => exact fin _ _ i1 i2 y1 j0 j1 j2 (.inr (.inl (by rw [Int.mul_comm]; exact Int.sub_self _)))
            | 1, _ => exact fin _ _ i1 i2 y2 j0 j1 j2 (.inr (.inr (by rw [Int.mul_comm]; exact Int.sub_self _)))
            | 2, _ => exact fin _ _ i1 i2 y3 j0 j1 j2 (.inl (by rw [Int.mul_comm]; exact Int.sub_self _))
          refine ⟨fun x e => ⟨(fs.g x e).1, (fs.g x e).2.1, sub (fs.g x e).2.2⟩, fun x e t h1 h2 z => ?_, fun e t h1 h2 z => ?_⟩
          · obtain ⟨y, y1, y2, y3, y4⟩ := back t h1 h2 z
            exact gle_trans (fs.g x e).1.pos y1 h1 (fs.least x e y y1 y2 y4) y3
          · obtain ⟨y, y1, y2, y3, y4⟩ := back t h1 h2 z
            exact fs.no e y y1 y2 y4
      · rw [if_pos htp]
        refine ⟨fun _ e => (nomatch e), fun _ e => (nomatch e), fun _ t h1 h2 z => ?_⟩
        have := inp t h1 z
        rw [h0, Int.mul_zero] at this
        rcases Int.mul_eq_zero.mp this.symm with q | q
        · omega
        · exact htp q
    · rw [if_neg h0]
      have bu : BdN 1003 (upP a b c) := (b4.mn b3).cr (b5.mn b3)
      have gx : Gt (rat (dtP (upP a b c) (mnP a s)) (dtP (upP a b c) w)) := gt_rat h0 ((bu.dt (b3.mn b1)).mono (by decide)) ((bu.dt b2).mono (by decide))
      obtain ⟨g1, g2, g3, g4⟩ := rat_g (t := dtP (upP a b c) (mnP a s)) h0
      have eqv : ∀ t : Fr, 0 < t.2 → Tri (atP s w t) t.2 a b c → t.1 * (rat (dtP (upP a b c) (mnP a s)) (dtP (upP a b c) w)).2 = (rat (dtP (upP a b c) (mnP a s)) (dtP (upP a b c) w)).1 * t.2 := fun t ht z => by
        have e := inp t ht z
        generalize rat (dtP (upP a b c) (mnP a s)) (dtP (upP a b c) w) = r at g3 g4 ⊢
        generalize rtg (dtP (upP a b c) (mnP a s)) (dtP (upP a b c) w) = d at g1 g2 g3 g4
        rw [g3, g4] at e
        have : d * (t.1 * r.2) = d * (r.1 * t.2) := by grind
        exact Int.eq_of_mul_eq_mul_left g1 this
      have plx : inPl (atP s w (rat (dtP (upP a b c) (mnP a s)) (dtP (upP a b c) w))) (rat (dtP (upP a b c) (mnP a s)) (dtP (upP a b c) w)).2 a b c := by
        unfold inPl
        rw [pl_at]
        generalize rat (dtP (upP a b c) (mnP a s)) (dtP (upP a b c) w) = r at g3 g4 ⊢
        generalize rtg (dtP (upP a b c) (mnP a s)) (dtP (upP a b c) w) = d at g1 g2 g3 g4
        rw [g3, g4]
        grind
      generalize rat (dtP (upP a b c) (mnP a s)) (dtP (upP a b c) w) = x at gx eqv plx ⊢
      have ge : gle (0, 1) x ↔ 0 ≤ x.1 := by unfold gle; simp
      by_cases hg : gle (0, 1) x
      · rw [if_neg (fun z => z hg)]
        by_cases hwi : wiB a b c (upP a b c) (atP s w x) x.2 = true
        · rw [if_pos hwi]
          refine ⟨fun y e => ?_, fun y e t h1 h2 z => ?_, fun e => (nomatch e)⟩
          · cases e
            obtain ⟨q1, q2, q3⟩ := (wiB_iff gx.pos hu).mp hwi
            exact ⟨gx, ge.mp hg, in_tri gx.pos hu plx q1 q2 q3⟩
          · cases e
            have := eqv t h1 z
            unfold gle
            omega
        · rw [if_neg hwi]
          refine ⟨fun _ e => (nomatch e), fun _ e => (nomatch e), fun _ t h1 h2 z => hwi ?_⟩
          have tx := tri_same h1 gx.pos (eqv t h1 z) z
          exact (wiB_iff gx.pos hu).mpr (tri_in gx.pos tx).2
      · rw [if_pos hg]
        refine ⟨fun _ e => (nomatch e), fun _ e => (nomatch e), fun _ t h1 h2 z => hg (ge.mpr ?_)⟩
        have e := eqv t h1 z
        rcases Int.lt_or_le x.1 0 with q | q
        · have m1 : x.1 * t.2 < 0 := Int.mul_neg_of_neg_of_pos q h1
          have m2 : 0 ≤ t.1 * x.2 := Int.mul_nonneg h2 (Int.le_of_lt gx.pos)
          omega
        · exact q
end DL
end
section
set_option Elab.async false
set_option linter.all false
set_option maxRecDepth 100000
set_option maxHeartbeats 4000000
set_option autoImplicit false
namespace DL
variable [TbC]
open PySem
/-! ### comprehensions and loops over what is written -/
theorem lc_f (it : Fs) (own : List Nat) (set : Sf) (t : Tf) (k : Fn) (ε : Ev) : lcF it own set t k ε = (it ε).bind fun xs => if xs.length < 16777216 then .ofO (lcGo set t k (wipeE ε own) xs) else .bad := by
  unfold lcF
  rw [sizeLine_eq]
theorem lc_nil (set : Sf) (t : Tf) (k : Fn) (ε : Ev) : lcGo set t k ε [] = some [] := rfl
theorem lc_cons (set : Sf) (t : Tf) (k : Fn) (ε : Ev) (x : Dt) (xs : List Dt) : lcGo set t k ε (x :: xs) = (set x ε).bind fun ε1 => (t ε1).val.bind fun b => if b = true then (k ε1).val.bind fun y => (lcGo set t k ε xs).map (y :: ·) else lcGo set t k ε xs := rfl
theorem lc_val {α : Type} (a : α) : (Rz.ok a : Rz Str α).val = some a := rfl
theorem lc_ok {α : Type} (b : Bool) (x y : α) : (if (if b = true then true else false) = true then x else y) = if b = true then x else y := by cases b <;> rfl
theorem rg3 : rngD (.int 3) = some [.int 0, .int 1, .int 2] := rfl
theorem gon_nil (set : Sf) (b : Sg) (ε : Ev) : forGo set b [] ε = .ok (.nx ε) := rfl
theorem gon_cons (set : Sf) (b : Sg) (x : Dt) (xs : List Dt) (ε : Ev) : forGo set b (x :: xs) ε = match set x ε with
    | none => .bad
    | some ε1 => afterB (b ε1) (forGo set b xs) := rfl
theorem en_def (a b c : Int) : Dt.tup [.int a, .int b, .int c] = en (a, b, c) := rfl
end DL
end
section
set_option Elab.async false
set_option linter.all false
set_option maxRecDepth 100000
set_option maxHeartbeats 4000000
set_option autoImplicit false
namespace DL
variable [TbC]
open PySem
theorem for_ind {ds : List Dt} {set : Sf} {body : Sg} {I : Nat → Ev → Prop} {O : Rs → Prop} (hstep : ∀ i d ε, ds[i]? = some d → I i ε → ∃ ε1, set d ε = some ε1 ∧ ((∃ ε2, (body ε1 = .ok (.nx ε2) ∨ body ε1 = .ok (.ct ε2)) ∧ I (i + 1) ε2) ∨ (∃ r, body ε1 = .ok (.rt r) ∧ O (.ok (.rt r)))))
    {ε : Ev} (h0 : I 0 ε) (hend : ∀ ε, I ds.length ε → O (.ok (.nx ε))) : O (forGo set body ds ε) := by
  have key : ∀ (n i : Nat) (ε : Ev), ds.length - i = n → i ≤ ds.length → I i ε → O (forGo set body (ds.drop i) ε) := by
    intro n
    induction n with
    | zero =>
      intro i ε h1 h2 h3
      have : i = ds.length := by omega
      subst this
      rw [List.drop_length]
      exact hend ε h3
    | succ n ih =>
      intro i ε h1 h2 h3
      have hlt : i < ds.length := by omega
      rw [List.drop_eq_getElem_cons hlt]
      obtain ⟨ε1, e1, h⟩ := hstep i ds[i] ε (List.getElem?_eq_getElem hlt) h3
      unfold forGo
      rw [e1]
      rcases h with ⟨ε2, h | h, h5⟩ | ⟨r, h, h5⟩
      · show O (afterB (body ε1) _)
        rw [h]
        exact ih (i + 1) ε2 (by omega) (by omega) h5
      · show O (afterB (body ε1) _)
        rw [h]
        exact ih (i + 1) ε2 (by omega) (by omega) h5
      · show O (afterB (body ε1) _)
        rw [h]
        exact h5
  have := key ds.length 0 ε (by omega) (Nat.zero_le _) h0
  rw [List.drop_zero] at this
  exact this
theorem rgN (n : Nat) : (List.range n).map (fun k : Nat => Dt.int k) = upTo 0 n := by
  unfold upTo
  refine List.map_congr_left fun k _ => ?_
  rw [Int.zero_add]
theorem rng3 (ε : Ev) : rngF (kc (.int 3)) ε = .ok ((List.range 3).map fun k : Nat => Dt.int k) := rfl
theorem q_app {i : Nat} {f : Fn} {ε : Ev} {ds : List Dt} {d : Dt} (h : ε[i]? = some (.o ds)) (hf : f ε = .ok d) (hl : ds.length < 16777216) : appS i f ε = .ok (.nx (ε.set i (.o (ds ++ [d])))) := by
  unfold appS chS
  rw [h]
  show (exS ε (consF f nilF ε)).bind _ = _
  rw [e_cons hf rfl, q_exS, q_okB]
  show (match appK ds [d] with | some es => _ | none => _) = _
  have : appK ds [d] = some (ds ++ [d]) := if_pos (by rw [sizeLine_eq]; exact hl)
  rw [this]
theorem q_ins {i : Nat} {f g : Fn} {ε : Ev} {ds : List Dt} {d : Dt} {n : Nat} (h : ε[i]? = some (.o ds)) (hf : f ε = .ok (.int n)) (hg : g ε = .ok d) (hl : ds.length < 16777216) (hn : n ≤ ds.length) : insS i f g ε = .ok (.nx (ε.set i (.o (ds.take n ++ [d] ++ ds.drop n)))) := by
  unfold insS chS
  rw [h]
  show (exS ε (consF f (consF g nilF) ε)).bind _ = _
  rw [e_cons hf (e_cons hg rfl), q_exS, q_okB]
  show (match insK ds [.int n, d] with | some es => _ | none => _) = _
  have : insK ds [.int (n : Int), d] = some (ds.take n ++ [d] ++ ds.drop n) := if_pos ⟨by rw [sizeLine_eq]; exact hl, by omega, by omega⟩
  rw [this]
theorem rounds_ok {ns : List Int} {n : Nat} (hn : 1 ≤ n) (h62 : n < 1000) (ε : Ev) (h0 : ε[0]? = some (.d (.frl (ns.map .int)))) : ∃ m : Nat, m ≤ n ∧ rngF (bin max2D (kc (.int 1)) (bin min2D (kc (.int n)) (un lenD (gb 0)))) ε = .ok ((List.range m).map fun k : Nat => Dt.int k) := by
  have lb : lenD (.frl (ns.map .int)) = some (.int ns.length) := by
    show some (Dt.int (ns.map Dt.int).length) = _
    rw [List.length_map]
  have fin : ∀ m : Nat, m ≤ n → rngD (.int m) = some ((List.range m).map fun k : Nat => Dt.int k) := fun m hm => by
    rw [rng_ok (by omega) (by omega), rgN]; rfl
  have e : ∀ d : Dt, bin max2D (kc (.int 1)) (bin min2D (kc (.int n)) (un lenD (gb 0))) ε = .ok d → rngF (bin max2D (kc (.int 1)) (bin min2D (kc (.int n)) (un lenD (gb 0)))) ε = .ofO (rngD d) := fun d h => by
    unfold rngF
    rw [h]; rfl
  have e1 : un lenD (gb 0) ε = .ok (.int ns.length) := e_un (q_gb h0) lb
  by_cases h : (ns.length : Int) < n
  · have e2 : bin min2D (kc (.int n)) (un lenD (gb 0)) ε = .ok (.int ns.length) := e_bin rfl e1 (by show some (Dt.int (if (ns.length : Int) < n then _ else _)) = _; rw [if_pos h])
    by_cases h2 : (ns.length : Int) > 1
    · refine ⟨ns.length, by omega, ?_⟩
      rw [e (.int ns.length) (e_bin rfl e2 (by show some (Dt.int (if (ns.length : Int) > 1 then _ else _)) = _; rw [if_pos h2])), fin _ (by omega)]
      rfl
    · refine ⟨1, by omega, ?_⟩
      rw [e (.int 1) (e_bin rfl e2 (by show some (Dt.int (if (ns.length : Int) > 1 then _ else _)) = _; rw [if_neg h2]))]
      exact congrArg Rz.ofO (fin 1 hn)
  · have e2 : bin min2D (kc (.int n)) (un lenD (gb 0)) ε = .ok (.int n) := e_bin rfl e1 (by show some (Dt.int (if (ns.length : Int) < n then _ else _)) = _; rw [if_neg h])
    by_cases h2 : (n : Int) > 1
    · refine ⟨n, by omega, ?_⟩
      rw [e (.int n) (e_bin rfl e2 (by show some (Dt.int (if (n : Int) > 1 then _ else _)) = _; rw [if_pos h2])), fin _ (by omega)]
      rfl
    · refine ⟨1, by omega, ?_⟩
      rw [e (.int 1) (e_bin rfl e2 (by show some (Dt.int (if (n : Int) > 1 then _ else _)) = _; rw [if_neg h2]))]
      exact congrArg Rz.ofO (fin 1 hn)
end DL
end
section
set_option Elab.async false
set_option linter.all false
set_option maxRecDepth 100000
set_option maxHeartbeats 4000000
set_option autoImplicit false
namespace DL
variable [TbC]
open PySem
/-! ### triangles and their edges; whether a skin is closed -/
abbrev E2 := P3 × P3
abbrev T3 := P3 × P3 × P3
def enE (e : E2) : Dt := .tup [en e.1, en e.2]
def enT (t : T3) : Dt := .tup [en t.1, en t.2.1, en t.2.2]
def edg (t : T3) : List E2 := [(t.1, t.2.1), (t.2.1, t.2.2), (t.2.2, t.1)]
def edgs (ts : List T3) : List E2 := ts.flatMap edg
def swE (e : E2) : E2 := (e.2, e.1)
theorem F_edges_eq (t : T3) : F_edges [enT t] = .ok (.va (.lst ((edg t).map enE))) := by kernel_rfl
def nkP (p : P3) : NestedKey := .tup [.num p.1, .num p.2.1, .num p.2.2]
def nkE (e : E2) : NestedKey := .tup [nkP e.1, nkP e.2]
theorem nk_enP (p : P3) : nk (en p) = some (nkP p) := by
  simp only [en, nk, nks, Option.bind_some, Option.map_some, nkP]
theorem nk_enE (e : E2) : nk (enE e) = some (nkE e) := by
  simp only [enE, nk, nks, nk_enP, Option.bind_some, Option.map_some, nkE]
theorem nkE_inj {e e' : E2} (h : nkE e = nkE e') : e = e' := by
  obtain ⟨⟨a, b, c⟩, ⟨d, f, g⟩⟩ := e
  obtain ⟨⟨a', b', c'⟩, ⟨d', f', g'⟩⟩ := e'
  simp only [nkE, nkP, NestedKey.tup.injEq, List.cons.injEq, NestedKey.num.injEq, and_true] at h
  obtain ⟨⟨h1, h2, h3⟩, h4, h5, h6⟩ := h
  subst h1 h2 h3 h4 h5 h6
  rfl
theorem depE (e : E2) : (nkE e).depth ≤ 8 := by
  simp [nkE, nkP, NestedKey.depth, NestedKey.depthAll]
theorem okK_enE (e : E2) : okK (enE e) = some (nkE e) := by
  have h := nk_enE e
  unfold enE at h ⊢
  show (nk (.tup [en e.1, en e.2])).bind (fun k => if k.depth ≤ 8 then some k else none) = _
  rw [h, Option.bind_some, if_pos (depE e)]
/-- the dict of what was counted -/
def dx (ks es : List E2) : List (Dt × Int) := ks.map fun e => (enE e, (es.count e : Int))
theorem dx_deep (ks es : List E2) : deepOk (dx ks es) = true := by
  unfold deepOk dx
  rw [List.all_map]
  exact List.all_eq_true.mpr fun e _ => by
    show (okK (enE e)).isSome = true
    rw [okK_enE]; rfl
theorem dx_get (ks es : List E2) (e : E2) : dcGet (dx ks es) (nkE e) = if e ∈ ks then some (es.count e : Int) else none := by
  unfold dcGet dx
  induction ks with
  | nil => rfl
  | cons a l ih =>
    rw [List.map_cons, List.find?_cons]
    by_cases h : a = e
    · subst h
      have : decide (nk (enE a) = some (nkE a)) = true := decide_eq_true (nk_enE a)
      simp only [this, if_pos List.mem_cons_self]
      rfl
    · have : decide (nk (enE a) = some (nkE e)) = false := decide_eq_false fun z => h (nkE_inj (by rw [nk_enE] at z; exact Option.some.inj z))
      simp only [this]
      rw [ih]
      have m : e ∈ a :: l ↔ e ∈ l := by
        constructor
        · intro z
          rcases List.mem_cons.mp z with z | z
          · exact absurd z.symm h
          · exact z
        · exact List.mem_cons_of_mem _
      simp only [m]
theorem dx_put (ks es : List E2) (e : E2) (hm : ∀ x, x ∈ ks ↔ x ∈ es) : dcPut (dx ks es) (enE e) (nkE e) ((es.count e : Int) + 1) = dx (if e ∈ ks then ks else ks ++ [e]) (es ++ [e]) := by
  have cn : ∀ x : E2, ((es ++ [e]).count x : Int) = if x = e then (es.count x : Int) + 1 else (es.count x : Int) := fun x => by
    rw [List.count_append, List.count_singleton]
    by_cases h : x = e
    · subst h; simp
    · have : (e == x) = false := beq_eq_false_iff_ne.mpr fun z => h z.symm
      rw [this, if_neg h]; simp
  unfold dcPut
  rw [dx_get]
  by_cases h : e ∈ ks
  · rw [if_pos h, if_pos h]
    simp only [Option.isSome_some, if_true]
    unfold dx
    rw [List.map_map]
    refine List.map_congr_left fun x _ => ?_
    show (if nk (enE x) = some (nkE e) then (enE x, (es.count e : Int) + 1) else (enE x, (es.count x : Int))) = (enE x, ((es ++ [e]).count x : Int))
    rw [cn x]
    by_cases z : x = e
    · subst z
      rw [if_pos (nk_enE x), if_pos rfl]
    · rw [if_neg (fun y => z (nkE_inj (by rw [nk_enE] at y; exact Option.some.inj y))), if_neg z]
  · rw [if_neg h, if_neg h]
    simp only [Option.isSome_none, Bool.false_eq_true, if_false]
    unfold dx
    rw [List.map_append]
    congr 1
    · refine List.map_congr_left fun x hx => ?_
      rw [cn x, if_neg (fun z : x = e => h (by rw [← z]; exact hx))]
    · rw [List.map_cons, List.map_nil, cn e, if_pos rfl]
/-- one edge more is counted -/
theorem cl_step {T : List Dt} {t : Dt} {x y : Lc} {ks es : List E2} {e : E2} (hx : x = .d (en e.1)) (hy : y = .d (en e.2)) (hm : ∀ x, x ∈ ks ↔ x ∈ es) (hl : ks.length ≤ es.length) (hs : es.length < 16777216) :
    ∃ ks', (∀ x, x ∈ ks' ↔ x ∈ es ++ [e]) ∧ ks'.length ≤ (es ++ [e]).length ∧
      dputS 1 (tupF (consF (gv 3) (consF (gv 4) nilF))) (bin addD (dgetF 1 (tupF (consF (gv 3) (consF (gv 4) nilF))) (kc (.int 0))) (kc (.int 1))) [.d (.lst T), .m (dx ks es), .d t, x, y] = .ok (.nx [.d (.lst T), .m (dx ks' (es ++ [e])), .d t, x, y]) := by
  subst hx hy
  refine ⟨if e ∈ ks then ks else ks ++ [e], fun x => ?_, ?_, ?_⟩
  · by_cases h : e ∈ ks
    · rw [if_pos h, List.mem_append, List.mem_singleton, hm]
      exact ⟨.inl, fun z => z.elim id fun w => by rw [w]; exact (hm e).mp h⟩
    · rw [if_neg h, List.mem_append, List.mem_append, hm]
  · by_cases h : e ∈ ks
    · rw [if_pos h, List.length_append]; omega
    · rw [if_neg h, List.length_append, List.length_append]; omega
  · have kf : ∀ D : Lc, tupF (consF (gv 3) (consF (gv 4) nilF)) [.d (.lst T), D, .d t, .d (en e.1), .d (en e.2)] = .ok (enE e) := fun D => by
      simp only [bodyF, startE, seqS, stS, stO, rtS, roS, roV, asS, ifS, xpS, bin, un, unN, lstF, lsF, consF, nilF, tupF, kc, gv, gb, tst, andT, orT, notT, andV, orV, notV, ifV, callF, callN, iterF, rngF, walked, slF, noP, soP, setN, setT, setCons, setNil, wipeE, yes, forS, prS, Rz.bind_ok, q_ofO, q_ofN, q_bad, q_ex, q_exS, q_exX, q_exB, q_okB, q_nx, q_rt, q_ro, q_bk, q_ct, q_sx, q_anx, q_act, q_abk, q_art, q_bnx, q_brt, q_bro, q_bex, q_va, q_ow, q_boo, add_int, sub_int, lt_int, le_int, gt_int, ge_int, neg_int, List.map_cons, List.map_nil, List.length_cons, List.length_nil, List.nil_append, List.cons_append, List.replicate, List.getElem?_cons_zero, List.getElem?_cons_succ, env_set0, env_setS, Option.bind_some, Option.map_some, if_true, Bool.false_eq_true, if_false, Nat.reduceAdd, Nat.reduceSub, sizeLine_eq, Nat.reduceLeDiff, Nat.zero_le]
      rfl
    have dg : dgetF 1 (tupF (consF (gv 3) (consF (gv 4) nilF))) (kc (.int 0)) [.d (.lst T), .m (dx ks es), .d t, .d (en e.1), .d (en e.2)] = .ok (.int (es.count e : Int)) := by
      have da : dictAt [.d (.lst T), .m (dx ks es), .d t, .d (en e.1), .d (en e.2)] 1 = some (dx ks es) := if_pos (dx_deep ks es)
      unfold dgetF
      rw [da]
      show ((tupF (consF (gv 3) (consF (gv 4) nilF)) _).bind fun kd => _) = _
      rw [kf, Rz.bind_ok]
      show (match okK (enE e), Dt.int 0 with | some k, .int n => Rz.ok (Dt.int ((dcGet (dx ks es) k).getD n)) | _, _ => .bad) = _
      rw [okK_enE]
      show Rz.ok (Dt.int ((dcGet (dx ks es) (nkE e)).getD 0)) = _
      rw [dx_get]
      by_cases h : e ∈ ks
      · rw [if_pos h]; rfl
      · rw [if_neg h]
        have : es.count e = 0 := List.count_eq_zero.mpr fun z => h ((hm e).mpr z)
        rw [this]; rfl
    unfold dputS
    rw [e_bin (z := .int ((es.count e : Int) + 1)) dg rfl rfl, q_exS, q_okB]
    unfold dputV
    show ((exS _ (tupF (consF (gv 3) (consF (gv 4) nilF)) _)).bind fun kd => _) = _
    rw [kf, q_exS, q_okB]
    unfold dputR
    rw [okK_enE]
    have hc : deepOk (dx ks es) = true ∧ (dx ks es).length < sizeLine := ⟨dx_deep ks es, by rw [dx, List.length_map, sizeLine_eq]; omega⟩
    show (if deepOk (dx ks es) = true ∧ (dx ks es).length < sizeLine then _ else _) = _
    rw [if_pos hc, dx_put ks es e hm]
    rfl
theorem allD_bls {α : Type} (l : List α) (f : α → Bool) : allD (.lst (l.map fun a => .bl (f a))) = some (.bl (l.all f)) := by
  have : asB (l.map fun a => Dt.bl (f a)) = some (l.map f) := by
    induction l with
    | nil => rfl
    | cons a l ih => rw [List.map_cons, asB, ih]; rfl
  show (asB _).bind _ = _
  rw [this, Option.bind_some, List.all_map]
  rfl
def closedB (es : List E2) : Bool := es.all fun e => decide (es.count (swE e) = es.count e)
theorem edgs_len (ts : List T3) : (edgs ts).length = 3 * ts.length := by
  unfold edgs
  induction ts with
  | nil => rfl
  | cons a l ih => rw [List.flatMap_cons, List.length_append, ih, List.length_cons]; show 3 + _ = _; omega
theorem edgs_take (ts : List T3) (i : Nat) (t : T3) (h : ts[i]? = some t) : edgs (ts.take (i + 1)) = edgs (ts.take i) ++ edg t := by
  obtain ⟨h1, h2⟩ := List.getElem?_eq_some_iff.mp h
  rw [List.take_succ, h]
  unfold edgs
  rw [List.flatMap_append]
  simp
theorem edgs_take_len (ts : List T3) (i : Nat) : (edgs (ts.take i)).length ≤ 3 * ts.length := by
  rw [edgs_len, List.length_take]
  omega
theorem F_is_closed_eq {ts : List T3} (hn : ts.length < 1000000) : F_is_closed [.lst (ts.map enT)] = .ok (.va (.bl (closedB (edgs ts)))) := by
  have inner : ∀ (L : List E2) (es : List E2) (ks : List E2) (t : Dt) (x y : Lc), (∀ x, x ∈ ks ↔ x ∈ es) → ks.length ≤ es.length → es.length + L.length < 16777216 →
      ∃ ks' x' y', (∀ x, x ∈ ks' ↔ x ∈ es ++ L) ∧ ks'.length ≤ (es ++ L).length ∧ forGo (setT 2 (setCons (setN 3) (setCons (setN 4) setNil))) (dputS 1 (tupF (consF (gv 3) (consF (gv 4) nilF))) (bin addD (dgetF 1 (tupF (consF (gv 3) (consF (gv 4) nilF))) (kc (.int 0))) (kc (.int 1)))) (L.map enE)
        [.d (.lst (ts.map enT)), .m (dx ks es), .d t, x, y] = .ok (.nx [.d (.lst (ts.map enT)), .m (dx ks' (es ++ L)), .d t, x', y']) := by
    intro L
    induction L with
    | nil => exact fun es ks t x y h1 h2 _ => ⟨ks, x, y, by rw [List.append_nil]; exact h1, by rw [List.append_nil]; exact h2, by rw [List.append_nil]; rfl⟩
    | cons e L ih =>
      intro es ks t x y h1 h2 h3
      obtain ⟨ks1, g1, g2, g3⟩ := cl_step (T := ts.map enT) (t := t) (e := e) rfl rfl h1 h2 (by rw [List.length_cons] at h3; omega)
      obtain ⟨ks2, x2, y2, k1, k2, k3⟩ := ih (es ++ [e]) ks1 t (.d (en e.1)) (.d (en e.2)) g1 g2 (by rw [List.length_append]; rw [List.length_cons] at h3; show es.length + 1 + _ < _; omega)
      rw [List.append_assoc] at k1 k2 k3
      refine ⟨ks2, x2, y2, k1, k2, ?_⟩
      rw [List.map_cons, gon_cons]
      show afterB (dputS 1 _ _ [.d (.lst (ts.map enT)), .m (dx ks es), .d t, .d (en e.1), .d (en e.2)]) _ = _
      rw [g3, q_anx]
      exact k3
  have main : ∃ ks, (∀ x, x ∈ ks ↔ x ∈ edgs ts) ∧ ks.length ≤ (edgs ts).length ∧ ∃ x y z, forGo (setN 2) (forS (iterF (callF 1 F_edges (consF (gv 2) nilF))) (setT 2 (setCons (setN 3) (setCons (setN 4) setNil))) (dputS 1 (tupF (consF (gv 3) (consF (gv 4) nilF))) (bin addD (dgetF 1 (tupF (consF (gv 3) (consF (gv 4) nilF))) (kc (.int 0))) (kc (.int 1))))) (ts.map enT)
        [.d (.lst (ts.map enT)), .m [], .u, .u, .u] = .ok (.nx [.d (.lst (ts.map enT)), .m (dx ks (edgs ts)), x, y, z]) := by
    refine for_ind (I := fun i ε => ∃ ks, (∀ x, x ∈ ks ↔ x ∈ edgs (ts.take i)) ∧ ks.length ≤ (edgs (ts.take i)).length ∧ ∃ x y z, ε = [.d (.lst (ts.map enT)), .m (dx ks (edgs (ts.take i))), x, y, z])
      (O := fun r => ∃ ks, (∀ x, x ∈ ks ↔ x ∈ edgs ts) ∧ ks.length ≤ (edgs ts).length ∧ ∃ x y z, r = .ok (.nx [.d (.lst (ts.map enT)), .m (dx ks (edgs ts)), x, y, z])) ?_ ⟨[], fun x => Iff.rfl, Nat.le_refl _, _, _, _, rfl⟩ ?_
    · rintro i d ε hd ⟨ks, h1, h2, x, y, z, rfl⟩
      rw [List.getElem?_map] at hd
      obtain ⟨t, ht, rfl⟩ := Option.map_eq_some_iff.mp hd
      have hlt := edgs_take_len ts i
      obtain ⟨ks', x', y', g1, g2, g3⟩ := inner (edg t) (edgs (ts.take i)) ks (enT t) y z h1 h2 (by show _ + 3 < _; omega)
      rw [← edgs_take ts i t ht] at g1 g2 g3
      refine ⟨_, rfl, .inl ⟨[.d (.lst (ts.map enT)), .m (dx ks' (edgs (ts.take (i + 1)))), .d (enT t), x', y'], .inl ?_, ks', g1, g2, _, _, _, rfl⟩⟩
      have e1 : iterF (callF 1 F_edges (consF (gv 2) nilF)) [.d (.lst (ts.map enT)), .m (dx ks (edgs (ts.take i))), .d (enT t), y, z] = .ok ((edg t).map enE) := by
        simp only [bodyF, startE, seqS, stS, stO, rtS, roS, roV, asS, ifS, xpS, bin, un, unN, lstF, lsF, consF, nilF, tupF, kc, gv, gb, tst, andT, orT, notT, andV, orV, notV, ifV, callF, callN, iterF, rngF, walked, slF, noP, soP, setN, setT, setCons, setNil, wipeE, yes, forS, prS, Rz.bind_ok, q_ofO, q_ofN, q_bad, q_ex, q_exS, q_exX, q_exB, q_okB, q_nx, q_rt, q_ro, q_bk, q_ct, q_sx, q_anx, q_act, q_abk, q_art, q_bnx, q_brt, q_bro, q_bex, q_va, q_ow, q_boo, add_int, sub_int, lt_int, le_int, gt_int, ge_int, neg_int, List.map_cons, List.map_nil, List.length_cons, List.length_nil, List.nil_append, List.cons_append, List.replicate, List.getElem?_cons_zero, List.getElem?_cons_succ, env_set0, env_setS, Option.bind_some, Option.map_some, if_true, Bool.false_eq_true, if_false, Nat.reduceAdd, Nat.reduceSub, sizeLine_eq, Nat.reduceLeDiff, Nat.zero_le, F_edges_eq]
      show (exS _ (iterF (callF 1 F_edges (consF (gv 2) nilF)) [.d (.lst (ts.map enT)), .m (dx ks (edgs (ts.take i))), .d (enT t), y, z])).bind _ = _
      rw [e1, q_exS, q_okB]
      exact g3
    · rintro ε ⟨ks, h1, h2, x, y, z, rfl⟩
      rw [List.length_map, List.take_length] at *
      exact ⟨ks, h1, h2, x, y, z, rfl⟩
  obtain ⟨ks, hm, hl, x, y, z, hf⟩ := main
  have hlen := edgs_len ts
  -- what is asked in the end
  have fin : un allD (lstF (lockN 1 (lcF (itM 1) [3, 4] (setT 2 (setCons (setN 3) (setCons (setN 4) setNil))) yes (bin eqD (dgetF 1 (tupF (consF (gv 4) (consF (gv 3) nilF))) (kc (.int 0))) (dixF 1 (tupF (consF (gv 3) (consF (gv 4) nilF)))))))) [.d (.lst (ts.map enT)), .m (dx ks (edgs ts)), x, y, z] = .ok (.bl (closedB (edgs ts))) := by
    have lc : lcF (itM 1) [3, 4] (setT 2 (setCons (setN 3) (setCons (setN 4) setNil))) yes (bin eqD (dgetF 1 (tupF (consF (gv 4) (consF (gv 3) nilF))) (kc (.int 0))) (dixF 1 (tupF (consF (gv 3) (consF (gv 4) nilF))))) [.d (.lst (ts.map enT)), .mf (dx ks (edgs ts)), x.see, y.see, z.see]
        = .ok (ks.map fun e => .bl (decide ((edgs ts).count (swE e) = (edgs ts).count e))) := by
      have it : itM 1 [.d (.lst (ts.map enT)), .mf (dx ks (edgs ts)), x.see, y.see, z.see] = .ok (ks.map enE) := by
        show Rz.ok ((dx ks (edgs ts)).map (·.1)) = _
        unfold dx
        rw [List.map_map]
        rfl
      rw [lc_f, it, Rz.bind_ok, if_pos (by rw [List.length_map]; omega)]
      have go : lcGo (setT 2 (setCons (setN 3) (setCons (setN 4) setNil))) yes (bin eqD (dgetF 1 (tupF (consF (gv 4) (consF (gv 3) nilF))) (kc (.int 0))) (dixF 1 (tupF (consF (gv 3) (consF (gv 4) nilF))))) (wipeE [.d (.lst (ts.map enT)), .mf (dx ks (edgs ts)), x.see, y.see, z.see] [3, 4]) (ks.map enE)
          = some (ks.map fun e => .bl (decide ((edgs ts).count (swE e) = (edgs ts).count e))) := by
        refine lcGo_map fun e he => ⟨[.d (.lst (ts.map enT)), .mf (dx ks (edgs ts)), x.see, .d (en e.1), .d (en e.2)], rfl, rfl, ?_⟩
        have da : dictAt [.d (.lst (ts.map enT)), .mf (dx ks (edgs ts)), x.see, .d (en e.1), .d (en e.2)] 1 = some (dx ks (edgs ts)) := if_pos (dx_deep _ _)
        have k1 : tupF (consF (gv 4) (consF (gv 3) nilF)) [.d (.lst (ts.map enT)), .mf (dx ks (edgs ts)), x.see, .d (en e.1), .d (en e.2)] = .ok (enE (swE e)) := by
          simp only [bodyF, startE, seqS, stS, stO, rtS, roS, roV, asS, ifS, xpS, bin, un, unN, lstF, lsF, consF, nilF, tupF, kc, gv, gb, tst, andT, orT, notT, andV, orV, notV, ifV, callF, callN, iterF, rngF, walked, slF, noP, soP, setN, setT, setCons, setNil, wipeE, yes, forS, prS, Rz.bind_ok, q_ofO, q_ofN, q_bad, q_ex, q_exS, q_exX, q_exB, q_okB, q_nx, q_rt, q_ro, q_bk, q_ct, q_sx, q_anx, q_act, q_abk, q_art, q_bnx, q_brt, q_bro, q_bex, q_va, q_ow, q_boo, add_int, sub_int, lt_int, le_int, gt_int, ge_int, neg_int, List.map_cons, List.map_nil, List.length_cons, List.length_nil, List.nil_append, List.cons_append, List.replicate, List.getElem?_cons_zero, List.getElem?_cons_succ, env_set0, env_setS, Option.bind_some, Option.map_some, if_true, Bool.false_eq_true, if_false, Nat.reduceAdd, Nat.reduceSub, sizeLine_eq, Nat.reduceLeDiff, Nat.zero_le]
          rfl
        have k2 : tupF (consF (gv 3) (consF (gv 4) nilF)) [.d (.lst (ts.map enT)), .mf (dx ks (edgs ts)), x.see, .d (en e.1), .d (en e.2)] = .ok (enE e) := by
          simp only [bodyF, startE, seqS, stS, stO, rtS, roS, roV, asS, ifS, xpS, bin, un, unN, lstF, lsF, consF, nilF, tupF, kc, gv, gb, tst, andT, orT, notT, andV, orV, notV, ifV, callF, callN, iterF, rngF, walked, slF, noP, soP, setN, setT, setCons, setNil, wipeE, yes, forS, prS, Rz.bind_ok, q_ofO, q_ofN, q_bad, q_ex, q_exS, q_exX, q_exB, q_okB, q_nx, q_rt, q_ro, q_bk, q_ct, q_sx, q_anx, q_act, q_abk, q_art, q_bnx, q_brt, q_bro, q_bex, q_va, q_ow, q_boo, add_int, sub_int, lt_int, le_int, gt_int, ge_int, neg_int, List.map_cons, List.map_nil, List.length_cons, List.length_nil, List.nil_append, List.cons_append, List.replicate, List.getElem?_cons_zero, List.getElem?_cons_succ, env_set0, env_setS, Option.bind_some, Option.map_some, if_true, Bool.false_eq_true, if_false, Nat.reduceAdd, Nat.reduceSub, sizeLine_eq, Nat.reduceLeDiff, Nat.zero_le]
          rfl
        refine e_bin (x := .int ((edgs ts).count (swE e) : Int)) (y := .int ((edgs ts).count e : Int)) ?_ ?_ ?_
        · unfold dgetF
          rw [da]
          show ((tupF (consF (gv 4) (consF (gv 3) nilF)) _).bind fun kd => _) = _
          rw [k1, Rz.bind_ok]
          show (match okK (enE (swE e)), Dt.int 0 with | some k, .int n => Rz.ok (Dt.int ((dcGet (dx ks (edgs ts)) k).getD n)) | _, _ => .bad) = _
          rw [okK_enE]
          show Rz.ok (Dt.int ((dcGet (dx ks (edgs ts)) (nkE (swE e))).getD 0)) = _
          rw [dx_get]
          by_cases h : swE e ∈ ks
          · rw [if_pos h]; rfl
          · rw [if_neg h]
            have : (edgs ts).count (swE e) = 0 := List.count_eq_zero.mpr fun z => h ((hm _).mpr z)
            rw [this]; rfl
        · unfold dixF
          rw [da]
          show ((tupF (consF (gv 3) (consF (gv 4) nilF)) _).bind fun kd => _) = _
          rw [k2, Rz.bind_ok, okK_enE, Option.bind_some, dx_get, if_pos he]
          rfl
        · rw [eqD_int]
          exact congrArg (fun b => some (Dt.bl b)) (decide_eq_decide.mpr Int.ofNat_inj)
      rw [go]
      rfl
    have lk : lockN 1 (lcF (itM 1) [3, 4] (setT 2 (setCons (setN 3) (setCons (setN 4) setNil))) yes (bin eqD (dgetF 1 (tupF (consF (gv 4) (consF (gv 3) nilF))) (kc (.int 0))) (dixF 1 (tupF (consF (gv 3) (consF (gv 4) nilF)))))) [.d (.lst (ts.map enT)), .m (dx ks (edgs ts)), x, y, z]
        = .ok (ks.map fun e => .bl (decide ((edgs ts).count (swE e) = (edgs ts).count e))) := by
      unfold lockN
      show (match lcF (itM 1) [3, 4] _ yes _ [.d (.lst (ts.map enT)), .mf (dx ks (edgs ts)), x.see, y.see, z.see] with | .ok ds => Rz.ok ds | _ => .bad) = _
      rw [lc]
    refine e_un (e_lst lk) ?_
    rw [allD_bls]
    refine congrArg (fun b => some (Dt.bl b)) ?_
    unfold closedB
    rw [Bool.eq_iff_iff, List.all_eq_true, List.all_eq_true]
    exact ⟨fun h e he => h e ((hm e).mpr he), fun h e he => h e ((hm e).mp he)⟩
  unfold F_is_closed
  refine b_rt ?_
  unfold g_is_closed
  show seqR (forS (iterF (gv 0)) (setN 2) _ [.d (.lst (ts.map enT)), .m [], .u, .u, .u]) _ = _
  have it0 : iterF (gv 0) [.d (.lst (ts.map enT)), .m [], .u, .u, .u] = .ok (ts.map enT) := rfl
  unfold forS
  rw [it0, q_exS, q_okB]
  rw [show (forGo (setN 2) (fun ε => (exS ε (iterF (callF 1 F_edges (consF (gv 2) nilF)) ε)).bind fun xs => forGo (setT 2 (setCons (setN 3) (setCons (setN 4) setNil))) (dputS 1 (tupF (consF (gv 3) (consF (gv 4) nilF))) (bin addD (dgetF 1 (tupF (consF (gv 3) (consF (gv 4) nilF))) (kc (.int 0))) (kc (.int 1)))) xs ε) (ts.map enT) [.d (.lst (ts.map enT)), .m [], .u, .u, .u]) = _ from hf, q_nx]
  exact s_rt fin
end DL
end
section
set_option Elab.async false
set_option linter.all false
set_option maxRecDepth 100000
set_option maxHeartbeats 4000000
set_option autoImplicit false
namespace DL
variable [TbC]
open PySem
/-! ### determinants, volumes -/
def detP (a b c : P3) : Int := dtP a (crP b c)
def BdT (n : Nat) (t : T3) : Prop := BdN n t.1 ∧ BdN n t.2.1 ∧ BdN n t.2.2
def dT (t : T3) : Int := detP t.1 t.2.1 t.2.2
theorem sumD_ints {α : Type} (l : List α) (f : α → Int) : sumD (.lst (l.map fun a => .int (f a))) = some (.int (l.map f).sum) := by
  have : asI (l.map fun a => Dt.int (f a)) = some (l.map f) := by
    induction l with
    | nil => rfl
    | cons a l ih => rw [List.map_cons, asI, ih]; rfl
  show (asI _).bind _ = _
  rw [this]; rfl
theorem enT_ix0 (t : T3) : ixD (enT t) (.int 0) = some (en t.1) := rfl
theorem enT_ix1 (t : T3) : ixD (enT t) (.int 1) = some (en t.2.1) := rfl
theorem enT_ix2 (t : T3) : ixD (enT t) (.int 2) = some (en t.2.2) := rfl
def vol (ts : List T3) : Int := (ts.map dT).sum
/-! ### all moved alike -/
def adP (p q : P3) : P3 := (p.1 + q.1, p.2.1 + q.2.1, p.2.2 + q.2.2)
def mvT (f : P3) (t : T3) : T3 := (adP t.1 f, adP t.2.1 f, adP t.2.2 f)
/-! closed skins -/
theorem swE_inj {e e' : E2} (h : swE e = swE e') : e = e' := by
  obtain ⟨a, b⟩ := e
  obtain ⟨c, d⟩ := e'
  simp only [swE, Prod.mk.injEq] at h
  rw [h.1, h.2]
def Shut (ts : List T3) : Prop := ((edgs ts).map swE).Perm (edgs ts)
theorem count_map_sw (l : List E2) (e : E2) : (l.map swE).count (swE e) = l.count e := by
  induction l with
  | nil => rfl
  | cons a l ih =>
    rw [List.map_cons, List.count_cons, List.count_cons, ih]
    congr 1
    by_cases h : a = e
    · subst h; simp
    · rw [if_neg (by simpa using fun z => h (swE_inj z)), if_neg (by simpa using h)]
theorem shut_closed {ts : List T3} (h : Shut ts) : closedB (edgs ts) = true := List.all_eq_true.mpr fun e _ => decide_eq_true (by rw [← h.count_eq (swE e), count_map_sw])
theorem shut_app {ts us : List T3} (h : Shut ts) (k : Shut us) : Shut (ts ++ us) := by
  unfold Shut edgs at *
  rw [List.flatMap_append, List.map_append]
  exact h.append k
theorem shut_ix {α : Type} (f : α → P3) (ix : List (α × α × α)) (h : ((ix.flatMap fun t => [(t.1, t.2.1), (t.2.1, t.2.2), (t.2.2, t.1)]).map fun e => (e.2, e.1)).Perm (ix.flatMap fun t => [(t.1, t.2.1), (t.2.1, t.2.2), (t.2.2, t.1)])) :
    Shut (ix.map fun t => (f t.1, f t.2.1, f t.2.2)) := by
  have e : edgs (ix.map fun t => (f t.1, f t.2.1, f t.2.2)) = (ix.flatMap fun t => [(t.1, t.2.1), (t.2.1, t.2.2), (t.2.2, t.1)]).map fun e => (f e.1, f e.2) := by
    unfold edgs
    rw [List.flatMap_map, List.map_flatMap]
    rfl
  unfold Shut
  rw [e, List.map_map]
  have := h.map fun e : α × α => (f e.1, f e.2)
  rw [List.map_map] at this
  exact this
def sumE (g : E2 → Int) (l : List E2) : Int := (l.map g).sum
theorem sum_perm {l m : List Int} (h : l.Perm m) : l.sum = m.sum := by
  induction h with
  | nil => rfl
  | cons x _ ih => rw [List.sum_cons, List.sum_cons, ih]
  | swap x y l => rw [List.sum_cons, List.sum_cons, List.sum_cons, List.sum_cons]; omega
  | trans _ _ a b => exact a.trans b
theorem det_moved (f a b c : P3) : detP (adP a f) (adP b f) (adP c f) = detP a b c + (dtP f (crP a b) + (dtP f (crP b c) + dtP f (crP c a))) := by
  obtain ⟨a1, a2, a3⟩ := a
  obtain ⟨b1, b2, b3⟩ := b
  obtain ⟨c1, c2, c3⟩ := c
  obtain ⟨f1, f2, f3⟩ := f
  simp only [detP, dtP, crP, adP]
  grind
theorem cr_anti (f a b : P3) : dtP f (crP b a) = - dtP f (crP a b) := by
  obtain ⟨a1, a2, a3⟩ := a
  obtain ⟨b1, b2, b3⟩ := b
  obtain ⟨f1, f2, f3⟩ := f
  simp only [dtP, crP]
  grind
theorem vol_moved {ts : List T3} (h : Shut ts) (f : P3) : vol (ts.map (mvT f)) = vol ts := by
  have e1 : ∀ us : List T3, vol (us.map (mvT f)) = vol us + ((edgs us).map fun e => dtP f (crP e.1 e.2)).sum := by
    intro us
    induction us with
    | nil => rfl
    | cons t l ih =>
      have e2 : edgs (t :: l) = edg t ++ edgs l := rfl
      have e3 : vol ((t :: l).map (mvT f)) = dT (mvT f t) + vol (l.map (mvT f)) := List.sum_cons
      have e4 : vol (t :: l) = dT t + vol l := List.sum_cons
      rw [e2, e3, e4, ih, List.map_append, List.sum_append]
      have e5 : ((edg t).map fun e => dtP f (crP e.1 e.2)).sum = dtP f (crP t.1 t.2.1) + (dtP f (crP t.2.1 t.2.2) + dtP f (crP t.2.2 t.1)) := by
        simp [edg]
      rw [e5]
      have e6 := det_moved f t.1 t.2.1 t.2.2
      have e7 : dT (mvT f t) = _ := e6
      rw [e7]
      unfold dT
      omega
  have z : ((edgs ts).map fun e => dtP f (crP e.1 e.2)).sum = - ((edgs ts).map fun e => dtP f (crP e.1 e.2)).sum := by
    have p := sum_perm (h.map fun e : E2 => dtP f (crP e.1 e.2))
    rw [List.map_map] at p
    have n : ∀ l : List E2, (l.map ((fun e : E2 => dtP f (crP e.1 e.2)) ∘ swE)).sum = - (l.map fun e : E2 => dtP f (crP e.1 e.2)).sum := by
      intro l
      induction l with
      | nil => rfl
      | cons e l ih =>
        rw [List.map_cons, List.map_cons, List.sum_cons, List.sum_cons, ih]
        have := cr_anti f e.1 e.2
        show dtP f (crP e.2 e.1) + _ = _
        omega
    rw [n] at p
    omega
  rw [e1]
  omega
end DL
end
section
set_option Elab.async false
set_option linter.all false
set_option maxRecDepth 100000
set_option maxHeartbeats 4000000
set_option autoImplicit false
namespace DL
variable [TbC]
open PySem
/-! ### spots, put elsewhere -/
def spotP (m : Int) : P3 := (m % 9 - 4, m / 9 % 9 - 4, m / 81 % 9 - 4)
theorem F_l_spot_eq (m : Int) : F_l_spot [.int m] = .ok (.va (en (spotP m))) := by
  have m9 : ∀ x : Int, modD (.int x) (.int 9) = some (.int (x % 9)) := fun x => mod_pos (by decide)
  have d9 : ∀ x : Int, divD (.int x) (.int 9) = some (.int (x / 9)) := fun x => div_sm (by decide)
  have d81 : ∀ x : Int, divD (.int x) (.int 81) = some (.int (x / 81)) := fun x => div_sm (by decide)
  simp only [F_l_spot, g_l_spot, bodyF, startE, seqS, stS, stO, rtS, roS, roV, asS, ifS, xpS, bin, un, unN, lstF, lsF, consF, nilF, tupF, kc, gv, gb, tst, andT, orT, notT, andV, orV, notV, ifV, callF, callN, iterF, rngF, walked, slF, noP, soP, setN, setT, setCons, setNil, wipeE, yes, forS, prS, Rz.bind_ok, q_ofO, q_ofN, q_bad, q_ex, q_exS, q_exX, q_exB, q_okB, q_nx, q_rt, q_ro, q_bk, q_ct, q_sx, q_anx, q_act, q_abk, q_art, q_bnx, q_brt, q_bro, q_bex, q_va, q_ow, q_boo, add_int, sub_int, lt_int, le_int, gt_int, ge_int, neg_int, List.map_cons, List.map_nil, List.length_cons, List.length_nil, List.nil_append, List.cons_append, List.replicate, List.getElem?_cons_zero, List.getElem?_cons_succ, env_set0, env_setS, Option.bind_some, Option.map_some, if_true, Bool.false_eq_true, if_false, Nat.reduceAdd, Nat.reduceSub, sizeLine_eq, Nat.reduceLeDiff, Nat.zero_le, m9, d9, d81]
  rfl
theorem spot_bd (m : Int) : BdN 3 (spotP m) := by
  have one : ∀ x : Int, Bd 3 (x % 9 - 4) := fun x => by unfold Bd; omega
  exact ⟨one _, one _, one _⟩
def putP (p : P3) (c : Int) : P3 := if c % 3 = 0 then p else (p.1 * (1 + c % 1125899906842624) + c % 1000003, p.2.1 * (1 + c % 1125899906842624) - c % 997, p.2.2 * (1 + c % 1125899906842624) + 5)
theorem F_l_put_eq {n : Nat} {p : P3} (b : BdN n p) (h0 : 0 < n) (hn : n ≤ 1000) (c : Int) : F_l_put [en p, .int c] = .ok (.va (en (putP p c))) := by
  have m3 : modD (.int c) (.int 3) = some (.int (c % 3)) := mod_pos (by decide)
  by_cases h : c % 3 = 0
  · simp only [F_l_put, g_l_put, bodyF, startE, seqS, stS, stO, rtS, roS, roV, asS, ifS, xpS, bin, un, unN, lstF, lsF, consF, nilF, tupF, kc, gv, gb, tst, andT, orT, notT, andV, orV, notV, ifV, callF, callN, iterF, rngF, walked, slF, noP, soP, setN, setT, setCons, setNil, wipeE, yes, forS, prS, Rz.bind_ok, q_ofO, q_ofN, q_bad, q_ex, q_exS, q_exX, q_exB, q_okB, q_nx, q_rt, q_ro, q_bk, q_ct, q_sx, q_anx, q_act, q_abk, q_art, q_bnx, q_brt, q_bro, q_bex, q_va, q_ow, q_boo, add_int, sub_int, lt_int, le_int, gt_int, ge_int, neg_int, List.map_cons, List.map_nil, List.length_cons, List.length_nil, List.nil_append, List.cons_append, List.replicate, List.getElem?_cons_zero, List.getElem?_cons_succ, env_set0, env_setS, Option.bind_some, Option.map_some, if_true, Bool.false_eq_true, if_false, Nat.reduceAdd, Nat.reduceSub, sizeLine_eq, Nat.reduceLeDiff, Nat.zero_le, m3, eqD_int, decide_eq_true h, putP, if_pos h]
  · have sh : shlD (.int 1) (.int 50) = some (.int 1125899906842624) := rfl
    have m5 : modD (.int c) (.int 1125899906842624) = some (.int (c % 1125899906842624)) := mod_pos (by decide)
    have m6 : modD (.int c) (.int 1000003) = some (.int (c % 1000003)) := mod_pos (by decide)
    have m7 : modD (.int c) (.int 997) = some (.int (c % 997)) := mod_pos (by decide)
    have bs : Bd 51 (1 + c % 1125899906842624) := by unfold Bd; omega
    have e0 := mul_bd b.1 bs h0 (by decide) (by omega)
    have e1 := mul_bd b.2.1 bs h0 (by decide) (by omega)
    have e2 := mul_bd b.2.2 bs h0 (by decide) (by omega)
    simp only [F_l_put, g_l_put, bodyF, startE, seqS, stS, stO, rtS, roS, roV, asS, ifS, xpS, bin, un, unN, lstF, lsF, consF, nilF, tupF, kc, gv, gb, tst, andT, orT, notT, andV, orV, notV, ifV, callF, callN, iterF, rngF, walked, slF, noP, soP, setN, setT, setCons, setNil, wipeE, yes, forS, prS, Rz.bind_ok, q_ofO, q_ofN, q_bad, q_ex, q_exS, q_exX, q_exB, q_okB, q_nx, q_rt, q_ro, q_bk, q_ct, q_sx, q_anx, q_act, q_abk, q_art, q_bnx, q_brt, q_bro, q_bex, q_va, q_ow, q_boo, add_int, sub_int, lt_int, le_int, gt_int, ge_int, neg_int, List.map_cons, List.map_nil, List.length_cons, List.length_nil, List.nil_append, List.cons_append, List.replicate, List.getElem?_cons_zero, List.getElem?_cons_succ, env_set0, env_setS, Option.bind_some, Option.map_some, if_true, Bool.false_eq_true, if_false, Nat.reduceAdd, Nat.reduceSub, sizeLine_eq, Nat.reduceLeDiff, Nat.zero_le, m3, eqD_int, decide_eq_false h, putP, if_neg h, sh, m5, m6, m7, en0, en1, en2, e0, e1, e2]
    rfl
theorem put_bd {n : Nat} {p : P3} (b : BdN n p) (c : Int) (hn : 3 ≤ n) : BdN (n + 52) (putP p c) := by
  unfold putP
  split
  · exact b.mono (by omega)
  · have bs : Bd 51 (1 + c % 1125899906842624) := by unfold Bd; omega
    have up : ∀ {x : Int}, Bd 51 x → Bd (n + 51) x := fun h => h.mono (by omega)
    exact ⟨(b.1.mul bs).add (up (by unfold Bd; omega)), (b.2.1.mul bs).sub (up (by unfold Bd; omega)), (b.2.2.mul bs).add (up (show (5 : Int).natAbs < 2 ^ 51 by decide))⟩
theorem P3.ext {p q : P3} (h1 : p.1 = q.1) (h2 : p.2.1 = q.2.1) (h3 : p.2.2 = q.2.2) : p = q := by
  obtain ⟨a, b, c⟩ := p
  obtain ⟨d, e, f⟩ := q
  simp only at h1 h2 h3
  rw [h1, h2, h3]
theorem ad_mn (p q : P3) : adP (mnP p q) q = p := P3.ext (by show p.1 - q.1 + q.1 = _; omega) (by show p.2.1 - q.2.1 + q.2.1 = _; omega) (by show p.2.2 - q.2.2 + q.2.2 = _; omega)
end DL
end
section
set_option Elab.async false
set_option linter.all false
set_option maxRecDepth 100000
set_option maxHeartbeats 4000000
set_option autoImplicit false
namespace DL
variable [TbC]
open PySem
/-! the skin of a box -/
abbrev C8 := Bool × Bool × Bool
def corB (l h : P3) (i : C8) : P3 := (if i.1 then h.1 else l.1, if i.2.1 then h.2.1 else l.2.1, if i.2.2 then h.2.2 else l.2.2)
def skinI : Bool → List (C8 × C8 × C8)
  | true => [((false, false, false), (false, true, false), (false, true, true)), ((false, false, false), (false, true, true), (false, false, true)), ((true, false, false), (true, true, true), (true, true, false)), ((true, false, false), (true, false, true), (true, true, true)), ((false, false, false), (false, false, true), (true, false, true)), ((false, false, false), (true, false, true), (true, false, false)), ((false, true, false), (true, true, true), (false, true, true)), ((false, true, false), (true, true, false), (true, true, true)), ((false, false, false), (true, false, false), (true, true, false)), ((false, false, false), (true, true, false), (false, true, false)), ((false, false, true), (true, true, true), (true, false, true)), ((false, false, true), (false, true, true), (true, true, true))]
  | false => [((false, false, false), (false, true, true), (false, true, false)), ((false, false, false), (false, false, true), (false, true, true)), ((true, false, false), (true, true, false), (true, true, true)), ((true, false, false), (true, true, true), (true, false, true)), ((false, false, false), (true, false, true), (false, false, true)), ((false, false, false), (true, false, false), (true, false, true)), ((false, true, false), (false, true, true), (true, true, true)), ((false, true, false), (true, true, true), (true, true, false)), ((false, false, false), (true, true, false), (true, false, false)), ((false, false, false), (false, true, false), (true, true, false)), ((false, false, true), (true, false, true), (true, true, true)), ((false, false, true), (true, true, true), (false, true, true))]
def skinT (ab : Bool) (l h : P3) : List T3 := (skinI ab).map fun t => (corB l h t.1, corB l h t.2.1, corB l h t.2.2)
theorem F_l_skin_eq (ab : Bool) (l h : P3) : F_l_skin [.tup [en l, en h], .bl ab] = .ok (.ow ((skinT ab l h).map enT)) := by
  cases ab
  · kernel_rfl
  · kernel_rfl
theorem skin_shut (ab : Bool) (l h : P3) : Shut (skinT ab l h) := by
  cases ab
  · exact shut_ix (corB l h) (skinI false) (by decide +kernel)
  · exact shut_ix (corB l h) (skinI true) (by decide +kernel)
theorem cor_mv (l s : P3) (i : C8) : adP (corB (0, 0, 0) s i) l = corB l (adP l s) i := by
  obtain ⟨a, b, c⟩ := i
  refine P3.ext ?_ ?_ ?_
  · cases a
    · show 0 + l.1 = l.1; omega
    · show s.1 + l.1 = l.1 + s.1; omega
  · cases b
    · show 0 + l.2.1 = l.2.1; omega
    · show s.2.1 + l.2.1 = l.2.1 + s.2.1; omega
  · cases c
    · show 0 + l.2.2 = l.2.2; omega
    · show s.2.2 + l.2.2 = l.2.2 + s.2.2; omega
theorem skin_vol (ab : Bool) (l s : P3) : vol (skinT ab l (adP l s)) = 6 * s.1 * s.2.1 * s.2.2 * (1 - 2 * (if ab then 1 else 0)) := by
  have e : skinT ab l (adP l s) = (skinT ab (0, 0, 0) s).map (mvT l) := by
    unfold skinT
    rw [List.map_map]
    refine List.map_congr_left fun t _ => ?_
    show _ = (adP _ _, adP _ _, adP _ _)
    rw [cor_mv, cor_mv, cor_mv]
  rw [e, vol_moved (skin_shut _ _ _)]
  obtain ⟨x, y, z⟩ := s
  cases ab
  · simp only [vol, skinT, skinI, List.map_cons, List.map_nil, List.sum_cons, List.sum_nil, dT, detP, dtP, crP, corB, if_true, Bool.false_eq_true, if_false]
    grind
  · simp only [vol, skinT, skinI, List.map_cons, List.map_nil, List.sum_cons, List.sum_nil, dT, detP, dtP, crP, corB, if_true, Bool.false_eq_true, if_false]
    grind
theorem vol_app (ts us : List T3) : vol (ts ++ us) = vol ts + vol us := by
  unfold vol
  rw [List.map_append, List.sum_append]
theorem cor_bd {n : Nat} {l h : P3} (b1 : BdN n l) (b2 : BdN n h) (i : C8) : BdN n (corB l h i) := by
  obtain ⟨a, b, c⟩ := i
  refine ⟨?_, ?_, ?_⟩
  · cases a
    · exact b1.1
    · exact b2.1
  · cases b
    · exact b1.2.1
    · exact b2.2.1
  · cases c
    · exact b1.2.2
    · exact b2.2.2
theorem skin_bd {n : Nat} {l h : P3} (b1 : BdN n l) (b2 : BdN n h) (ab : Bool) : ∀ t ∈ skinT ab l h, BdT n t := by
  intro t ht
  obtain ⟨i, _, rfl⟩ := List.mem_map.mp ht
  exact ⟨cor_bd b1 b2 _, cor_bd b1 b2 _, cor_bd b1 b2 _⟩
end DL
end
section
set_option Elab.async false
set_option linter.all false
set_option maxRecDepth 100000
set_option maxHeartbeats 4000000
set_option autoImplicit false
namespace DL
variable [TbC]
open PySem
/-! ### a skin that was edited -/
theorem map_erase {α β : Type} (f : α → β) : ∀ (l : List α) (n : Nat), (l.map f).eraseIdx n = (l.eraseIdx n).map f
  | [], n => by simp
  | a :: l, 0 => rfl
  | a :: l, n + 1 => by rw [List.map_cons, List.eraseIdx_cons_succ, List.eraseIdx_cons_succ, List.map_cons, map_erase f l n]
theorem q_pop {i : Nat} {f : Fn} {ε : Ev} {ds : List Dt} {n : Nat} (h : ε[i]? = some (.o ds)) (hf : f ε = .ok (.int n)) (hn : n < ds.length) (hl : ds.length < 16777216) : popS i f ε = .ok (.nx (ε.set i (.o (ds.eraseIdx n)))) := by
  unfold popS chS
  rw [h]
  show (exS ε (consF f nilF ε)).bind _ = _
  rw [e_cons hf rfl, q_exS, q_okB]
  show (match popK ds [.int n] with | some es => _ | none => _) = _
  have : popK ds [.int (n : Int)] = some (ds.eraseIdx n) := if_pos ⟨by omega, by omega, by omega⟩
  rw [this]
theorem q_itm {i : Nat} {ix f : Fn} {ε : Ev} {ds : List Dt} {d : Dt} {n : Nat} (h : ε[i]? = some (.o ds)) (hx : ix ε = .ok (.int n)) (hf : f ε = .ok d) (hn : n < ds.length) : itmS i ix f ε = .ok (.nx (ε.set i (.o (ds.set n d)))) := by
  unfold itmS
  rw [hf, q_exS, q_okB, h]
  show (exS ε (ix ε)).bind _ = _
  rw [hx, q_exS, q_okB]
  have : L2.ixN ds.length (n : Int) = some n := by
    simp [L2.ixN]; omega
  show (match L2.ixN ds.length (n : Int) with | some j => _ | none => _) = _
  rw [this]
theorem q_rev {i : Nat} {ε : Ev} {ds : List Dt} (h : ε[i]? = some (.o ds)) : revS i ε = .ok (.nx (ε.set i (.o ds.reverse))) := by
  unfold revS chS
  rw [h]
  rfl
theorem q_cat {i : Nat} {f g : Fn} {ε : Ev} {xs ys : List Dt} (hf : f ε = .ok (.lst xs)) (hg : g ε = .ok (.lst ys)) (hl : xs.length + ys.length ≤ 16777216) : stO i (binN catD f g) ε = .ok (.nx (ε.set i (.o (xs ++ ys)))) := by
  unfold stO binN
  rw [hf, Rz.bind_ok, hg, Rz.bind_ok]
  have : catD (.lst xs) (.lst ys) = some (xs ++ ys) := if_pos (by rw [sizeLine_eq]; exact hl)
  rw [this]
  rfl
theorem F_l_edited_eq {n : Nat} {ts : List T3} (hb : ∀ t ∈ ts, BdT n t) (h1 : 0 < ts.length) (hl : ts.length < 1000) {m : Int} : ∃ us : List T3, F_l_edited [.lst (ts.map enT), .int m] = .ok (.ow (us.map enT)) ∧ us.length ≤ ts.length + 2 ∧ ∀ t ∈ us, BdT n t := by
  have m5 : modD (.int m) (.int 5) = some (.int (m % 5)) := mod_pos (by decide)
  have d5 : divD (.int m) (.int 5) = some (.int (m / 5)) := div_sm (by decide)
  have d500 : divD (.int m) (.int 500) = some (.int (m / 500)) := div_sm (by decide)
  have ll : lenD (.lst (ts.map enT)) = some (.int ts.length) := by
    show some (Dt.int (ts.map enT).length) = _
    rw [List.length_map]
  have idx : ∀ x : Int, ∃ k : Nat, k < ts.length ∧ modD (.int x) (.int ts.length) = some (.int (k : Int)) := fun x => by
    have p : (0 : Int) < ts.length := by omega
    have a1 := Int.emod_nonneg x (show (ts.length : Int) ≠ 0 by omega)
    have a2 := Int.emod_lt_of_pos x p
    refine ⟨(x % ts.length).toNat, by omega, ?_⟩
    rw [mod_pos p, Int.toNat_of_nonneg a1]
  obtain ⟨at_, ha, ea⟩ := idx (m / 5)
  obtain ⟨j, hj, ej⟩ := idx (m / 500)
  obtain ⟨t, ht⟩ : ∃ t, t = ts[at_] := ⟨_, rfl⟩
  have tin : t ∈ ts := ht ▸ List.getElem_mem ha
  have ix : ixD (.lst (ts.map enT)) (.int (at_ : Int)) = some (enT t) := L2.atI_nat (by rw [List.getElem?_map, List.getElem?_eq_getElem ha, ← ht]; rfl)
  obtain ⟨b1, b2, b3⟩ := hb t tin
  have lm : (ts.map enT).length = ts.length := List.length_map _
  -- what is left to do, once the list is what it is
  have tail : ∀ (us : List T3) (x y z : Lc), (seqS (revS 2) (roV 2)) [.d (.lst (ts.map enT)), .d (.int m), .o (us.map enT), .d (.int at_), x, y, z] = .ok (.ro (us.reverse.map enT)) := fun us x y z => by
    unfold seqS
    rw [q_rev rfl, q_nx, List.map_reverse]
    rfl
  have head : ∀ g : Sg, seqS (stO 2 (unN listD (gb 0))) (seqS (stS 3 (bin modD (bin divD (gb 1) (kc (.int 5))) (un lenD (gb 2)))) (seqS (asS (bin ixD (gb 2) (gb 3)) (setT 3 (setCons (setN 4) (setCons (setN 5) (setCons (setN 6) setNil))))) g)) [.d (.lst (ts.map enT)), .d (.int m), .u, .u, .u, .u, .u]
      = g [.d (.lst (ts.map enT)), .d (.int m), .o (ts.map enT), .d (.int at_), .d (en t.1), .d (en t.2.1), .d (en t.2.2)] := fun g => by
    refine (s_sto (ds := ts.map enT) rfl).trans ?_
    refine (s_st (d := .int at_) (e_bin (e_bin rfl rfl d5) (e_un (q_gbo rfl) ll) ea)).trans ?_
    exact s_as (d := enT t) (e_bin (q_gbo rfl) rfl ix) rfl
  have ne : ∀ r k : Int, m % 5 = r → r ≠ k → ∀ (x y z : Lc) (ds : List Dt) (a b : Sg), ifS (tst (bin eqD (bin modD (gb 1) (kc (.int 5))) (kc (.int k)))) a b [.d (.lst (ts.map enT)), .d (.int m), .o ds, .d (.int at_), x, y, z] = b [.d (.lst (ts.map enT)), .d (.int m), .o ds, .d (.int at_), x, y, z] := fun r k h1 h2 x y z ds a b =>
    i_F (e_tst (e_bin (e_bin rfl rfl m5) rfl (by rw [eqD_int, h1, decide_eq_false h2])))
  have eq : ∀ r : Int, m % 5 = r → ∀ (x y z : Lc) (ds : List Dt) (a b : Sg), ifS (tst (bin eqD (bin modD (gb 1) (kc (.int 5))) (kc (.int r)))) a b [.d (.lst (ts.map enT)), .d (.int m), .o ds, .d (.int at_), x, y, z] = a [.d (.lst (ts.map enT)), .d (.int m), .o ds, .d (.int at_), x, y, z] := fun r h1 x y z ds a b =>
    i_T (e_tst (e_bin (e_bin rfl rfl m5) rfl (by rw [eqD_int, h1, decide_eq_true rfl])))
  have skip : ∀ (k : Int), m % 5 ≠ k → ∀ (x y z : Lc) (ds : List Dt) (a g : Sg), seqS (ifS (tst (bin eqD (bin modD (gb 1) (kc (.int 5))) (kc (.int k)))) a (fun ε => .ok (.nx ε))) g [.d (.lst (ts.map enT)), .d (.int m), .o ds, .d (.int at_), x, y, z] = g [.d (.lst (ts.map enT)), .d (.int m), .o ds, .d (.int at_), x, y, z] := fun k h x y z ds a g => by
    unfold seqS
    rw [ne _ k rfl h]; rfl
  have take : ∀ (k : Int), m % 5 = k → ∀ (x y z : Lc) (ds es : List Dt) (a g : Sg), a [.d (.lst (ts.map enT)), .d (.int m), .o ds, .d (.int at_), x, y, z] = .ok (.nx [.d (.lst (ts.map enT)), .d (.int m), .o es, .d (.int at_), x, y, z]) →
      seqS (ifS (tst (bin eqD (bin modD (gb 1) (kc (.int 5))) (kc (.int k)))) a (fun ε => .ok (.nx ε))) g [.d (.lst (ts.map enT)), .d (.int m), .o ds, .d (.int at_), x, y, z] = g [.d (.lst (ts.map enT)), .d (.int m), .o es, .d (.int at_), x, y, z] := fun k h x y z ds es a g ha => by
    unfold seqS
    rw [eq _ h, ha]; rfl
  have tp : ∀ (p q r : P3), enT (p, q, r) = .tup [en p, en q, en r] := fun _ _ _ => rfl
  have fin : ∀ us : List T3, us.length ≤ ts.length + 2 → (∀ t ∈ us, BdT n t) → (∀ o : Rs, o = .ok (.ro (us.reverse.map enT)) → ∃ us : List T3, bodyR o = .ok (.ow (us.map enT)) ∧ us.length ≤ ts.length + 2 ∧ ∀ t ∈ us, BdT n t) := fun us l b o ho => by
    subst ho
    exact ⟨us.reverse, rfl, by rw [List.length_reverse]; exact l, fun t ht => b t (List.mem_reverse.mp ht)⟩
  unfold F_l_edited bodyF g_l_edited
  show ∃ us, bodyR (seqS _ _ [.d (.lst (ts.map enT)), .d (.int m), .u, .u, .u, .u, .u]) = _ ∧ _
  rw [head]
  have lo : 0 ≤ m % 5 := Int.emod_nonneg m (by decide)
  have hi : m % 5 < 5 := Int.emod_lt_of_pos m (by decide)
  rcases (show m % 5 = 0 ∨ m % 5 = 1 ∨ m % 5 = 2 ∨ m % 5 = 3 ∨ m % 5 = 4 by omega) with h | h | h | h | h
  · refine fin (ts.eraseIdx at_) (by have := List.length_eraseIdx_le ts at_; omega) (fun t ht => hb t (List.mem_of_mem_eraseIdx ht)) _ ?_
    rw [take 0 h _ _ _ _ ((ts.eraseIdx at_).map enT), skip 1 (by omega), skip 2 (by omega), skip 3 (by omega), skip 4 (by omega)]
    · exact tail _ _ _ _
    · rw [q_pop (ds := ts.map enT) (n := at_) rfl rfl (by omega) (by omega)]
      rw [map_erase]
      rfl
  · refine fin (ts.set at_ (t.1, t.2.2, t.2.1)) (by rw [List.length_set]; omega) (fun u hu => ?_) _ ?_
    · rcases List.mem_or_eq_of_mem_set hu with z | z
      · exact hb u z
      · rw [z]; exact ⟨b1, b3, b2⟩
    rw [skip 0 (by omega), take 1 h _ _ _ _ ((ts.set at_ (t.1, t.2.2, t.2.1)).map enT), skip 2 (by omega), skip 3 (by omega), skip 4 (by omega)]
    · exact tail _ _ _ _
    · rw [q_itm (ds := ts.map enT) (n := at_) (d := enT (t.1, t.2.2, t.2.1)) rfl rfl rfl (by omega)]
      rw [List.map_set]
      rfl
  · refine fin (ts.set at_ (t.2.1, t.2.2, t.1)) (by rw [List.length_set]; omega) (fun u hu => ?_) _ ?_
    · rcases List.mem_or_eq_of_mem_set hu with z | z
      · exact hb u z
      · rw [z]; exact ⟨b2, b3, b1⟩
    rw [skip 0 (by omega), skip 1 (by omega), take 2 h _ _ _ _ ((ts.set at_ (t.2.1, t.2.2, t.1)).map enT), skip 3 (by omega), skip 4 (by omega)]
    · exact tail _ _ _ _
    · rw [q_itm (ds := ts.map enT) (n := at_) (d := enT (t.2.1, t.2.2, t.1)) rfl rfl rfl (by omega)]
      rw [List.map_set]
      rfl
  · refine fin (ts.take j ++ [(t.1, t.2.1, t.2.2)] ++ ts.drop j) (by rw [List.length_append, List.length_append, List.length_take, List.length_drop]; show min _ _ + 1 + _ ≤ _; omega) (fun u hu => ?_) _ ?_
    · rcases List.mem_append.mp hu with hu | hu
      · rcases List.mem_append.mp hu with hu | hu
        · exact hb u (List.mem_of_mem_take hu)
        · rw [List.mem_singleton.mp hu]; exact ⟨b1, b2, b3⟩
      · exact hb u (List.mem_of_mem_drop hu)
    rw [skip 0 (by omega), skip 1 (by omega), skip 2 (by omega), take 3 h _ _ _ _ ((ts.take j ++ [(t.1, t.2.1, t.2.2)] ++ ts.drop j).map enT), skip 4 (by omega)]
    · exact tail _ _ _ _
    · rw [q_ins (ds := ts.map enT) (n := j) (d := enT (t.1, t.2.1, t.2.2)) rfl (e_bin (e_bin rfl rfl d500) (e_un (q_gbo rfl) ll) ej) rfl (by omega) (by omega)]
      rw [List.map_append, List.map_append, List.map_take, List.map_drop]
      rfl
  · refine fin (ts ++ [(t.1, t.2.2, t.2.1), (t.1, t.2.1, t.2.2)]) (by rw [List.length_append]; show _ + 2 ≤ _; omega) (fun u hu => ?_) _ ?_
    · rcases List.mem_append.mp hu with hu | hu
      · exact hb u hu
      · simp only [List.mem_cons, List.not_mem_nil, or_false] at hu
        rcases hu with rfl | rfl
        · exact ⟨b1, b3, b2⟩
        · exact ⟨b1, b2, b3⟩
    rw [skip 0 (by omega), skip 1 (by omega), skip 2 (by omega), skip 3 (by omega), take 4 h _ _ _ _ ((ts ++ [(t.1, t.2.2, t.2.1), (t.1, t.2.1, t.2.2)]).map enT)]
    · exact tail _ _ _ _
    · rw [q_cat (xs := ts.map enT) (ys := [enT (t.1, t.2.2, t.2.1), enT (t.1, t.2.1, t.2.2)]) (q_gbo rfl) rfl (by show _ + 2 ≤ _; omega)]
      rw [List.map_append]
      rfl
end DL
end
section
set_option Elab.async false
set_option linter.all false
set_option maxRecDepth 100000
set_option maxHeartbeats 4000000
set_option autoImplicit false
namespace DL
variable [TbC]
open PySem
/-! ### signs, and which faces of four corners a way goes through -/
inductive S3 where
  | m | z | p
def S3.neg : S3 → S3
  | .m => .p
  | .z => .z
  | .p => .m
def S3.mul : S3 → S3 → S3
  | .p, x => x
  | .z, _ => .z
  | .m, x => x.neg
def S3.isP : S3 → Bool
  | .p => true
  | _ => false
def S3.isM : S3 → Bool
  | .m => true
  | _ => false
def S3.isZ : S3 → Bool
  | .z => true
  | _ => false
/-- three whose sum is nothing -/
def ok3 (x y z : S3) : Bool := (x.isZ && y.isZ && z.isZ) || ((x.isP || y.isP || z.isP) && (x.isM || y.isM || z.isM))
def pas (d x y z : S3) : Int := if d.isP && x.isP && y.isP && z.isP then 1 else if d.isM && x.isM && y.isM && z.isM then -1 else 0
def all3s (f : S3 → Bool) : Bool := f .m && f .z && f .p
theorem all3s_of {f : S3 → Bool} (h : all3s f = true) (x : S3) : f x = true := by
  unfold all3s at h
  simp only [Bool.and_eq_true] at h
  cases x
  · exact h.1.1
  · exact h.1.2
  · exact h.2
/-- not some nothing and the others all on one side -/
def outF (a b c d : S3) : Bool := !((a.isZ || b.isZ || c.isZ || d.isZ) && !(a.isZ && b.isZ && c.isZ && d.isZ) && ((!a.isM && !b.isM && !c.isM && !d.isM) || (!a.isP && !b.isP && !c.isP && !d.isP)))
def dueF (a b c d : S3) : Int := if a.isP && b.isP && c.isP && d.isP then 1 else if a.isM && b.isM && c.isM && d.isM then -1 else 0
/-- where a pair's sign is nothing, the two corners lie on one line with the point: no face that has both is askew -/
def flatF (x d e : S3) : Bool := !x.isZ || (d.isZ && e.isZ)
def signsAt (e0 e1 e2 e3 ab ac ad bc bd cd : S3) : Bool :=
  !(outF e0 e1 e2 e3 && flatF ab e2 e3 && flatF ac e1 e3 && flatF ad e1 e2 && flatF bc e0 e3 && flatF bd e0 e2 && flatF cd e0 e1 &&
    ok3 (e1.mul ab.neg) (e2.mul ac.neg) (e3.mul ad.neg) && ok3 (e0.mul ab) (e2.mul bc.neg) (e3.mul bd.neg) && ok3 (e0.mul ac) (e1.mul bc) (e3.mul cd.neg) && ok3 (e0.mul ad) (e1.mul bd) (e2.mul cd)) ||
  decide (pas e0 bc cd bd.neg + pas e1 ad cd.neg ac.neg + pas e2 ab bd ad.neg + pas e3 ac bc.neg ab.neg = dueF e0 e1 e2 e3)
theorem signs_all : (all3s fun e0 => all3s fun e1 => all3s fun e2 => all3s fun e3 => all3s fun ab => all3s fun ac => all3s fun ad => all3s fun bc => all3s fun bd => all3s fun cd => signsAt e0 e1 e2 e3 ab ac ad bc bd cd) = true := by decide +kernel
def sg (x : Int) : S3 := if 0 < x then .p else if x = 0 then .z else .m
theorem sg_neg (x : Int) : sg (-x) = (sg x).neg := by
  unfold sg
  rcases Int.lt_trichotomy x 0 with h | h | h
  · rw [if_pos (show 0 < -x by omega), if_neg (show ¬ 0 < x by omega), if_neg (show ¬ x = 0 by omega)]; rfl
  · subst h; rfl
  · rw [if_neg (show ¬ 0 < -x by omega), if_neg (show ¬ -x = 0 by omega), if_pos h]; rfl
theorem sg_mul (x y : Int) : sg (x * y) = (sg x).mul (sg y) := by
  have pp : ∀ {x : Int}, 0 < x → sg x = .p := fun h => if_pos h
  have mm : ∀ {x : Int}, x < 0 → sg x = .m := fun h => by unfold sg; rw [if_neg (by omega), if_neg (by omega)]
  have zz : sg 0 = .z := rfl
  rcases Int.lt_trichotomy x 0 with h | h | h
  · rcases Int.lt_trichotomy y 0 with k | k | k
    · rw [mm h, mm k, pp (Int.mul_pos_of_neg_of_neg h k)]; rfl
    · subst k; rw [Int.mul_zero, mm h, zz]; rfl
    · rw [mm h, pp k, mm (Int.mul_neg_of_neg_of_pos h k)]; rfl
  · subst h; rw [Int.zero_mul, zz]; rfl
  · rcases Int.lt_trichotomy y 0 with k | k | k
    · rw [pp h, mm k, mm (Int.mul_neg_of_pos_of_neg h k)]; rfl
    · subst k; rw [Int.mul_zero, pp h, zz]; rfl
    · rw [pp h, pp k, pp (Int.mul_pos h k)]; rfl
theorem sg_isP (x : Int) : (sg x).isP = decide (0 < x) := by
  unfold sg
  by_cases h : 0 < x
  · rw [if_pos h, decide_eq_true h]; rfl
  · rw [if_neg h, decide_eq_false h]
    split <;> rfl
theorem sg_isM (x : Int) : (sg x).isM = decide (x < 0) := by
  unfold sg
  by_cases h : 0 < x
  · rw [if_pos h, decide_eq_false (by omega)]; rfl
  · rw [if_neg h]
    by_cases k : x = 0
    · rw [if_pos k, decide_eq_false (by omega)]; rfl
    · rw [if_neg k, decide_eq_true (by omega)]; rfl
theorem sg_isZ (x : Int) : (sg x).isZ = decide (x = 0) := by
  unfold sg
  by_cases h : 0 < x
  · rw [if_pos h, decide_eq_false (by omega)]; rfl
  · rw [if_neg h]
    by_cases k : x = 0
    · rw [if_pos k, decide_eq_true k]; rfl
    · rw [if_neg k, decide_eq_false k]; rfl
theorem ok3_sum {x y z : Int} (h : x + y + z = 0) : ok3 (sg x) (sg y) (sg z) = true := by
  unfold ok3
  simp only [sg_isP, sg_isM, sg_isZ, Bool.or_eq_true, Bool.and_eq_true, decide_eq_true_eq]
  omega
/-- the same, of whole numbers -/
def pasI (d x y z : Int) : Int := if 0 < d ∧ 0 < x ∧ 0 < y ∧ 0 < z then 1 else if d < 0 ∧ x < 0 ∧ y < 0 ∧ z < 0 then -1 else 0
def dueI (a b c d : Int) : Int := if 0 < a ∧ 0 < b ∧ 0 < c ∧ 0 < d then 1 else if a < 0 ∧ b < 0 ∧ c < 0 ∧ d < 0 then -1 else 0
theorem pas_sg (d x y z : Int) : pas (sg d) (sg x) (sg y) (sg z) = pasI d x y z := by
  unfold pas pasI
  simp only [sg_isP, sg_isM, Bool.and_eq_true, decide_eq_true_eq, and_assoc]
theorem due_sg (d x y z : Int) : dueF (sg d) (sg x) (sg y) (sg z) = dueI d x y z := by
  unfold dueF dueI
  simp only [sg_isP, sg_isM, Bool.and_eq_true, decide_eq_true_eq, and_assoc]
theorem wound_signs {e0 e1 e2 e3 ab ac ad bc bd cd : Int} (out : ¬ ((e0 = 0 ∨ e1 = 0 ∨ e2 = 0 ∨ e3 = 0) ∧ ¬ (e0 = 0 ∧ e1 = 0 ∧ e2 = 0 ∧ e3 = 0) ∧ ((0 ≤ e0 ∧ 0 ≤ e1 ∧ 0 ≤ e2 ∧ 0 ≤ e3) ∨ (e0 ≤ 0 ∧ e1 ≤ 0 ∧ e2 ≤ 0 ∧ e3 ≤ 0))))
    (f1 : ab = 0 → e2 = 0 ∧ e3 = 0) (f2 : ac = 0 → e1 = 0 ∧ e3 = 0) (f3 : ad = 0 → e1 = 0 ∧ e2 = 0) (f4 : bc = 0 → e0 = 0 ∧ e3 = 0) (f5 : bd = 0 → e0 = 0 ∧ e2 = 0) (f6 : cd = 0 → e0 = 0 ∧ e1 = 0)
    (r1 : e1 * -ab + e2 * -ac + e3 * -ad = 0) (r2 : e0 * ab + e2 * -bc + e3 * -bd = 0) (r3 : e0 * ac + e1 * bc + e3 * -cd = 0) (r4 : e0 * ad + e1 * bd + e2 * cd = 0) :
    pasI e0 bc cd (-bd) + pasI e1 ad (-cd) (-ac) + pasI e2 ab bd (-ad) + pasI e3 ac (-bc) (-ab) = dueI e0 e1 e2 e3 := by
  have k := all3s_of (all3s_of (all3s_of (all3s_of (all3s_of (all3s_of (all3s_of (all3s_of (all3s_of (all3s_of signs_all (sg e0)) (sg e1)) (sg e2)) (sg e3)) (sg ab)) (sg ac)) (sg ad)) (sg bc)) (sg bd)) (sg cd)
  unfold signsAt at k
  have o1 := ok3_sum r1
  have o2 := ok3_sum r2
  have o3 := ok3_sum r3
  have o4 := ok3_sum r4
  simp only [sg_mul, sg_neg] at o1 o2 o3 o4
  have fl : ∀ {x d e : Int}, (x = 0 → d = 0 ∧ e = 0) → flatF (sg x) (sg d) (sg e) = true := fun {x d e} h => by
    unfold flatF
    simp only [sg_isZ, Bool.or_eq_true, Bool.not_eq_true', Bool.and_eq_true, decide_eq_true_eq, decide_eq_false_iff_not]
    by_cases hx : x = 0
    · exact .inr (h hx)
    · exact .inl hx
  have ou : outF (sg e0) (sg e1) (sg e2) (sg e3) = true := by
    unfold outF
    simp only [sg_isZ, sg_isM, sg_isP]
    rw [Bool.not_eq_true']
    refine Bool.eq_false_iff.mpr fun h => out ?_
    simp only [Bool.and_eq_true, Bool.or_eq_true, Bool.not_eq_true', Bool.and_eq_false_iff, decide_eq_true_eq, decide_eq_false_iff_not] at h
    omega
  rw [o1, o2, o3, o4, fl f1, fl f2, fl f3, fl f4, fl f5, fl f6, ou] at k
  simp only [Bool.and_true, Bool.not_true, Bool.false_or, decide_eq_true_eq] at k
  simp only [← sg_neg, pas_sg, due_sg] at k
  exact k
end DL
end
section
set_option Elab.async false
set_option linter.all false
set_option maxRecDepth 100000
set_option maxHeartbeats 4000000
set_option autoImplicit false
namespace DL
variable [TbC]
open PySem
/-! ### what a face adds, and the four faces of four corners -/
def Dw (w x y : P3) : Int := dtP w (crP x y)
def ctr (p w : P3) (t : T3) : Int := if triR p w t.1 t.2.1 t.2.2 = none then 0 else sgn (dtP (upP t.1 t.2.1 t.2.2) w)
/-- no pair of the corners lies in one plane with the way, but on one line with the point -/
def Gen (p w : P3) (L : List P3) : Prop := ∀ x ∈ L, ∀ y ∈ L, Dw w (mnP x p) (mnP y p) = 0 → crP (mnP x p) (mnP y p) = (0, 0, 0)
theorem sgn_pos {x : Int} (h : 0 < x) : sgn x = 1 := by unfold sgn; simp [h]; omega
theorem sgn_neg' {x : Int} (h : x < 0) : sgn x = -1 := by unfold sgn; simp [h]; omega
theorem sgn_zero : sgn 0 = 0 := rfl
theorem cramer3 (w x y z : P3) (k : Nat) : detP x y z * co k w = Dw w y z * co k x + Dw w z x * co k y + Dw w x y * co k z := by
  obtain ⟨x1, x2, x3⟩ := x
  obtain ⟨y1, y2, y3⟩ := y
  obtain ⟨z1, z2, z3⟩ := z
  obtain ⟨w1, w2, w3⟩ := w
  match k with
  | 0 => simp only [detP, Dw, dtP, crP, co]; grind
  | 1 => simp only [detP, Dw, dtP, crP, co]; grind
  | k + 2 => simp only [detP, Dw, dtP, crP, co]; grind
/-- a way that is made of three -/
theorem made3 {w x y z : P3} {τ α β γ : Int} (h : ∀ k, τ * co k w = α * co k x + β * co k y + γ * co k z) : τ * Dw w y z = α * detP x y z ∧ τ * Dw w z x = β * detP x y z ∧ τ * Dw w x y = γ * detP x y z := by
  have h0 := h 0
  have h1 := h 1
  have h2 := h 2
  obtain ⟨x1, x2, x3⟩ := x
  obtain ⟨y1, y2, y3⟩ := y
  obtain ⟨z1, z2, z3⟩ := z
  obtain ⟨w1, w2, w3⟩ := w
  simp only [detP, Dw, dtP, crP, co] at *
  refine ⟨?_, ?_, ?_⟩
  · have e : τ * (w1 * (y2 * z3 - y3 * z2) + w2 * (y3 * z1 - y1 * z3) + w3 * (y1 * z2 - y2 * z1)) = (τ * w1) * (y2 * z3 - y3 * z2) + (τ * w2) * (y3 * z1 - y1 * z3) + (τ * w3) * (y1 * z2 - y2 * z1) := by grind
    rw [e, h0, h1, h2]
    clear h h0 h1 h2 e
    grind
  · have e : τ * (w1 * (z2 * x3 - z3 * x2) + w2 * (z3 * x1 - z1 * x3) + w3 * (z1 * x2 - z2 * x1)) = (τ * w1) * (z2 * x3 - z3 * x2) + (τ * w2) * (z3 * x1 - z1 * x3) + (τ * w3) * (z1 * x2 - z2 * x1) := by grind
    rw [e, h0, h1, h2]
    clear h h0 h1 h2 e
    grind
  · have e : τ * (w1 * (x2 * y3 - x3 * y2) + w2 * (x3 * y1 - x1 * y3) + w3 * (x1 * y2 - x2 * y1)) = (τ * w1) * (x2 * y3 - x3 * y2) + (τ * w2) * (x3 * y1 - x1 * y3) + (τ * w3) * (x1 * y2 - x2 * y1) := by grind
    rw [e, h0, h1, h2]
    clear h h0 h1 h2 e
    grind
theorem up_D (w a b c p : P3) : dtP (upP a b c) w = Dw w (mnP b p) (mnP c p) + Dw w (mnP c p) (mnP a p) + Dw w (mnP a p) (mnP b p) := by
  obtain ⟨x1, x2, x3⟩ := a
  obtain ⟨y1, y2, y3⟩ := b
  obtain ⟨z1, z2, z3⟩ := c
  obtain ⟨w1, w2, w3⟩ := w
  obtain ⟨p1, p2, p3⟩ := p
  simp only [upP, Dw, dtP, crP, mnP]
  grind
theorem det_cr0 {x y z : P3} : (crP x y = (0, 0, 0) → detP x y z = 0) ∧ (crP y z = (0, 0, 0) → detP x y z = 0) ∧ (crP z x = (0, 0, 0) → detP x y z = 0) := by
  obtain ⟨x1, x2, x3⟩ := x
  obtain ⟨y1, y2, y3⟩ := y
  obtain ⟨z1, z2, z3⟩ := z
  refine ⟨fun h => ?_, fun h => ?_, fun h => ?_⟩ <;>
  · simp only [crP, Prod.mk.injEq] at h
    obtain ⟨h1, h2, h3⟩ := h
    simp only [detP, dtP, crP]
    grind
theorem cr_sw0 {x y : P3} (h : crP x y = (0, 0, 0)) : crP y x = (0, 0, 0) := by
  obtain ⟨x1, x2, x3⟩ := x
  obtain ⟨y1, y2, y3⟩ := y
  simp only [crP, Prod.mk.injEq] at *
  obtain ⟨h1, h2, h3⟩ := h
  refine ⟨?_, ?_, ?_⟩ <;> grind
theorem Dw_sw (w x y : P3) : Dw w y x = - Dw w x y := by
  obtain ⟨x1, x2, x3⟩ := x
  obtain ⟨y1, y2, y3⟩ := y
  obtain ⟨w1, w2, w3⟩ := w
  simp only [Dw, dtP, crP]
  grind
theorem det_rot (x y z : P3) : detP y z x = detP x y z := by
  obtain ⟨x1, x2, x3⟩ := x
  obtain ⟨y1, y2, y3⟩ := y
  obtain ⟨z1, z2, z3⟩ := z
  simp only [detP, dtP, crP]
  grind
theorem det_sw (x y z : P3) : detP x z y = - detP x y z := by
  obtain ⟨x1, x2, x3⟩ := x
  obtain ⟨y1, y2, y3⟩ := y
  obtain ⟨z1, z2, z3⟩ := z
  simp only [detP, dtP, crP]
  grind
/-- what the face of three corners adds -/
def pasT (p w a b c : P3) : Int := pasI (detP (mnP a p) (mnP b p) (mnP c p)) (Dw w (mnP b p) (mnP c p)) (Dw w (mnP c p) (mnP a p)) (Dw w (mnP a p) (mnP b p))
theorem pasI_rot (d x y z : Int) : pasI d y z x = pasI d x y z := by
  unfold pasI
  by_cases h : 0 < d ∧ 0 < x ∧ 0 < y ∧ 0 < z
  · rw [if_pos h, if_pos (by omega)]
  · rw [if_neg h, if_neg (by omega)]
    by_cases k : d < 0 ∧ x < 0 ∧ y < 0 ∧ z < 0
    · rw [if_pos k, if_pos (by omega)]
    · rw [if_neg k, if_neg (by omega)]
theorem pasT_rot (p w a b c : P3) : pasT p w b c a = pasT p w a b c := by
  unfold pasT
  rw [det_rot, pasI_rot]
theorem ctr_eq {p w a b c : P3} (F : Fst (fun t => Tri (atP p w t) t.2 a b c) (triR p w a b c)) (on : ¬ Tri p 1 a b c) {L : List P3} (g : Gen p w L) (ha : a ∈ L) (hb : b ∈ L) (hc : c ∈ L) : ctr p w (a, b, c) = pasT p w a b c := by
  unfold pasT
  have hu := up_D w a b c p
  have gab := g a ha b hb
  have gbc := g b hb c hc
  have gca := g c hc a ha
  obtain ⟨x, hx⟩ : ∃ x, x = mnP a p := ⟨_, rfl⟩
  obtain ⟨y, hy⟩ : ∃ y, y = mnP b p := ⟨_, rfl⟩
  obtain ⟨z, hz⟩ : ∃ z, z = mnP c p := ⟨_, rfl⟩
  have cx : ∀ k, co k x = co k a - co k p := fun k => by rw [hx, co_mn]
  have cy : ∀ k, co k y = co k b - co k p := fun k => by rw [hy, co_mn]
  have cz : ∀ k, co k z = co k c - co k p := fun k => by rw [hz, co_mn]
  rw [← hx, ← hy, ← hz] at hu ⊢
  rw [← hx, ← hy] at gab
  rw [← hy, ← hz] at gbc
  rw [← hx, ← hz] at gca
  clear hx hy hz
  have cr := cramer3 w x y z
  have dz := det_cr0 (x := x) (y := y) (z := z)
  cases hr : triR p w a b c with
  | some f =>
    have hc' : ctr p w (a, b, c) = sgn (dtP (upP a b c) w) := if_neg (by show ¬ triR p w a b c = none; rw [hr]; exact fun z => nomatch z)
    rw [hc', hu]
    obtain ⟨gt, f0, ht⟩ := F.g f hr
    have fp := gt.pos
    have f1 : 0 < f.1 := by
      rcases Int.lt_or_eq_of_le f0 with h | h
      · exact h
      · refine absurd ?_ on
        have := tri_same (x := (0, 1)) fp (by decide) (by show f.1 * 1 = 0 * f.2; rw [← h]; simp) ht
        rw [at_01] at this
        exact this
    obtain ⟨α, β, γ, h1, h2, h3, h4, h5⟩ := ht
    have hm : ∀ k, ((α + β + γ) * f.1) * co k w = (f.2 * α) * co k x + (f.2 * β) * co k y + (f.2 * γ) * co k z := fun k => by
      have := h5 k
      rw [co_at] at this
      rw [cx, cy, cz]
      grind
    obtain ⟨e1, e2, e3⟩ := made3 hm
    have tp : 0 < (α + β + γ) * f.1 := Int.mul_pos h4 f1
    generalize (α + β + γ) * f.1 = τ at *
    have su : τ * (Dw w y z + Dw w z x + Dw w x y) = (f.2 * (α + β + γ)) * detP x y z := by
      rw [Int.mul_add, Int.mul_add, e1, e2, e3]; grind
    have sp : 0 < f.2 * (α + β + γ) := Int.mul_pos fp h4
    have a0 : 0 ≤ f.2 * α := Int.mul_nonneg (by omega) h1
    have b0 : 0 ≤ f.2 * β := Int.mul_nonneg (by omega) h2
    have c0 : 0 ≤ f.2 * γ := Int.mul_nonneg (by omega) h3
    generalize f.2 * α = A at *
    generalize f.2 * β = B at *
    generalize f.2 * γ = C at *
    generalize f.2 * (α + β + γ) = S at *
    generalize hd : detP x y z = d at *
    generalize hX : Dw w y z = X at *
    generalize hY : Dw w z x = Y at *
    generalize hZ : Dw w x y = Z at *
    have nz : d ≠ 0 → X ≠ 0 ∧ Y ≠ 0 ∧ Z ≠ 0 := fun h => ⟨fun e => h (dz.2.1 (gbc e)), fun e => h (dz.2.2 (gca e)), fun e => h (dz.1 (gab e))⟩
    have pos_of : ∀ {a b : Int}, 0 < a → 0 < a * b → 0 < b := fun {a b} ha hab => by
      rcases Int.lt_trichotomy b 0 with z | z | z
      · have := Int.mul_neg_of_pos_of_neg ha z; omega
      · subst z; rw [Int.mul_zero] at hab; omega
      · exact z
    have nn_of : ∀ {a b : Int}, 0 < a → 0 ≤ a * b → 0 ≤ b := fun {a b} ha hab => by
      rcases Int.lt_trichotomy b 0 with z | z | z
      · have := Int.mul_neg_of_pos_of_neg ha z; omega
      · omega
      · omega
    rcases Int.lt_trichotomy d 0 with h | h | h
    · have n := nz (by omega)
      have q : ∀ {V A : Int}, 0 ≤ A → τ * V = A * d → V ≤ 0 := fun {V A} hA e => by
        have : 0 ≤ τ * -V := by
          rw [Int.mul_neg, e, ← Int.mul_neg]; exact Int.mul_nonneg hA (by omega)
        have := nn_of tp this
        omega
      have q1 := q a0 e1
      have q2 := q b0 e2
      have q3 := q c0 e3
      rw [sgn_neg' (by omega)]
      unfold pasI
      rw [if_neg (by omega), if_pos (by omega)]
    · subst h
      rw [Int.mul_zero] at su
      have : X + Y + Z = 0 := by
        rcases Int.mul_eq_zero.mp su with z | z
        · omega
        · exact z
      rw [this]
      unfold pasI
      rw [if_neg (by omega), if_neg (by omega)]
      rfl
    · have n := nz (by omega)
      have q : ∀ {V A : Int}, 0 ≤ A → τ * V = A * d → 0 ≤ V := fun {V A} hA e => nn_of tp (by rw [e]; exact Int.mul_nonneg hA (by omega))
      have q1 := q a0 e1
      have q2 := q b0 e2
      have q3 := q c0 e3
      rw [sgn_pos (by omega)]
      unfold pasI
      rw [if_pos (by omega)]
  | none =>
    have hc' : ctr p w (a, b, c) = 0 := if_pos hr
    rw [hc']
    have no := F.no hr
    generalize hd : detP x y z = d at *
    generalize hX : Dw w y z = X at *
    generalize hY : Dw w z x = Y at *
    generalize hZ : Dw w x y = Z at *
    unfold pasI
    by_cases h : 0 < d ∧ 0 < X ∧ 0 < Y ∧ 0 < Z
    · refine absurd ?_ (no (d, X + Y + Z) (show 0 < X + Y + Z by omega) (show 0 ≤ d by omega))
      refine ⟨X, Y, Z, by omega, by omega, by omega, by omega, fun k => ?_⟩
      have := cr k
      rw [cx, cy, cz] at this
      rw [co_at]
      show (X + Y + Z) * (co k p * (X + Y + Z) + co k w * d) = (X + Y + Z) * _
      congr 1
      grind
    · rw [if_neg h]
      by_cases h : d < 0 ∧ X < 0 ∧ Y < 0 ∧ Z < 0
      · refine absurd ?_ (no (-d, -(X + Y + Z)) (show 0 < -(X + Y + Z) by omega) (show 0 ≤ -d by omega))
        refine ⟨-X, -Y, -Z, by omega, by omega, by omega, by omega, fun k => ?_⟩
        have := cr k
        rw [cx, cy, cz] at this
        rw [co_at]
        show (-X + -Y + -Z) * (co k p * -(X + Y + Z) + co k w * -d) = -(X + Y + Z) * _
        rw [show -X + -Y + -Z = -(X + Y + Z) by omega]
        congr 1
        grind
      · rw [if_neg h]
/-- the four corners, and what each lacks -/
theorem four_rel (x y z u : P3) (k : Nat) : detP y z u * co k x + -detP x z u * co k y + detP x y u * co k z + -detP x y z * co k u = 0 := by
  obtain ⟨x1, x2, x3⟩ := x
  obtain ⟨y1, y2, y3⟩ := y
  obtain ⟨z1, z2, z3⟩ := z
  obtain ⟨u1, u2, u3⟩ := u
  match k with
  | 0 => simp only [detP, dtP, crP, co]; grind
  | 1 => simp only [detP, dtP, crP, co]; grind
  | k + 2 => simp only [detP, dtP, crP, co]; grind
theorem rel_D {w x y z u v : P3} {e0 e1 e2 e3 : Int} (h : ∀ k, e0 * co k x + e1 * co k y + e2 * co k z + e3 * co k u = 0) : e0 * Dw w x v + e1 * Dw w y v + e2 * Dw w z v + e3 * Dw w u v = 0 := by
  have h0 := h 0
  have h1 := h 1
  have h2 := h 2
  obtain ⟨x1, x2, x3⟩ := x
  obtain ⟨y1, y2, y3⟩ := y
  obtain ⟨z1, z2, z3⟩ := z
  obtain ⟨u1, u2, u3⟩ := u
  obtain ⟨v1, v2, v3⟩ := v
  obtain ⟨w1, w2, w3⟩ := w
  simp only [Dw, dtP, crP, co] at *
  have e : e0 * (w1 * (x2 * v3 - x3 * v2) + w2 * (x3 * v1 - x1 * v3) + w3 * (x1 * v2 - x2 * v1)) + e1 * (w1 * (y2 * v3 - y3 * v2) + w2 * (y3 * v1 - y1 * v3) + w3 * (y1 * v2 - y2 * v1)) + e2 * (w1 * (z2 * v3 - z3 * v2) + w2 * (z3 * v1 - z1 * v3) + w3 * (z1 * v2 - z2 * v1)) + e3 * (w1 * (u2 * v3 - u3 * v2) + w2 * (u3 * v1 - u1 * v3) + w3 * (u1 * v2 - u2 * v1))
      = w1 * ((e0 * x2 + e1 * y2 + e2 * z2 + e3 * u2) * v3 - (e0 * x3 + e1 * y3 + e2 * z3 + e3 * u3) * v2) + w2 * ((e0 * x3 + e1 * y3 + e2 * z3 + e3 * u3) * v1 - (e0 * x1 + e1 * y1 + e2 * z1 + e3 * u1) * v3) + w3 * ((e0 * x1 + e1 * y1 + e2 * z1 + e3 * u1) * v2 - (e0 * x2 + e1 * y2 + e2 * z2 + e3 * u2) * v1) := by
    clear h h0 h1 h2
    grind
  rw [e, h0, h1, h2]
  simp
theorem Dw_self (w x : P3) : Dw w x x = 0 := by
  obtain ⟨x1, x2, x3⟩ := x
  obtain ⟨w1, w2, w3⟩ := w
  simp only [Dw, dtP, crP]
  grind
/-- a point that weighs three corners stands on their triangle -/
theorem tri_of {p a b c : P3} {e1 e2 e3 : Int} (h1 : 0 ≤ e1) (h2 : 0 ≤ e2) (h3 : 0 ≤ e3) (hs : 0 < e1 + e2 + e3) (h : ∀ k, e1 * co k (mnP a p) + e2 * co k (mnP b p) + e3 * co k (mnP c p) = 0) : Tri p 1 a b c :=
  ⟨e1, e2, e3, h1, h2, h3, hs, fun k => by
    have := h k
    rw [co_mn, co_mn, co_mn] at this
    grind⟩
theorem Tri.rot {X : P3} {m : Int} {a b c : P3} (h : Tri X m a b c) : Tri X m b c a := by
  obtain ⟨α, β, γ, h1, h2, h3, h4, h5⟩ := h
  exact ⟨β, γ, α, h2, h3, h1, by omega, fun k => by have := h5 k; grind⟩
theorem Tri.swap {X : P3} {m : Int} {a b c : P3} (h : Tri X m a b c) : Tri X m a c b := by
  obtain ⟨α, β, γ, h1, h2, h3, h4, h5⟩ := h
  exact ⟨α, γ, β, h1, h3, h2, by omega, fun k => by have := h5 k; grind⟩
def det4 (p q r s : P3) : Int := detP (mnP q p) (mnP r p) (mnP s p)
/-- what the law's parts are -/
def dueT (p a b c d : P3) : Int := dueI (detP (mnP b p) (mnP c p) (mnP d p)) (-detP (mnP a p) (mnP c p) (mnP d p)) (detP (mnP a p) (mnP b p) (mnP d p)) (-detP (mnP a p) (mnP b p) (mnP c p))
theorem faces_wound {p w a b c d : P3} (g : Gen p w [a, b, c, d]) (on : ¬ (Tri p 1 b c d ∨ Tri p 1 a c d ∨ Tri p 1 a b d ∨ Tri p 1 a b c)) :
    pasT p w b c d + pasT p w a d c + pasT p w a b d + pasT p w a c b = dueT p a b c d := by
  have gg : ∀ x ∈ [a, b, c, d], ∀ y ∈ [a, b, c, d], Dw w (mnP x p) (mnP y p) = 0 → crP (mnP x p) (mnP y p) = (0, 0, 0) := g
  have gab := gg a (by simp) b (by simp)
  have gac := gg a (by simp) c (by simp)
  have gad := gg a (by simp) d (by simp)
  have gbc := gg b (by simp) c (by simp)
  have gbd := gg b (by simp) d (by simp)
  have gcd := gg c (by simp) d (by simp)
  clear gg g
  have rel := four_rel (mnP a p) (mnP b p) (mnP c p) (mnP d p)
  have n0 : ∀ {e1 e2 e3 : Int}, 0 ≤ e1 → 0 ≤ e2 → 0 ≤ e3 → 0 < e1 + e2 + e3 → ¬ ∀ k, e1 * co k (mnP b p) + e2 * co k (mnP c p) + e3 * co k (mnP d p) = 0 := fun h1 h2 h3 h4 h => on (.inl (tri_of h1 h2 h3 h4 h))
  have n1 : ∀ {e1 e2 e3 : Int}, 0 ≤ e1 → 0 ≤ e2 → 0 ≤ e3 → 0 < e1 + e2 + e3 → ¬ ∀ k, e1 * co k (mnP a p) + e2 * co k (mnP c p) + e3 * co k (mnP d p) = 0 := fun h1 h2 h3 h4 h => on (.inr (.inl (tri_of h1 h2 h3 h4 h)))
  have n2 : ∀ {e1 e2 e3 : Int}, 0 ≤ e1 → 0 ≤ e2 → 0 ≤ e3 → 0 < e1 + e2 + e3 → ¬ ∀ k, e1 * co k (mnP a p) + e2 * co k (mnP b p) + e3 * co k (mnP d p) = 0 := fun h1 h2 h3 h4 h => on (.inr (.inr (.inl (tri_of h1 h2 h3 h4 h))))
  have n3 : ∀ {e1 e2 e3 : Int}, 0 ≤ e1 → 0 ≤ e2 → 0 ≤ e3 → 0 < e1 + e2 + e3 → ¬ ∀ k, e1 * co k (mnP a p) + e2 * co k (mnP b p) + e3 * co k (mnP c p) = 0 := fun h1 h2 h3 h4 h => on (.inr (.inr (.inr (tri_of h1 h2 h3 h4 h))))
  clear on
  unfold pasT dueT
  generalize mnP a p = x at *
  generalize mnP b p = y at *
  generalize mnP c p = z at *
  generalize mnP d p = u at *
  have r1 := rel_D (w := w) (v := x) rel
  have r2 := rel_D (w := w) (v := y) rel
  have r3 := rel_D (w := w) (v := z) rel
  have r4 := rel_D (w := w) (v := u) rel
  rw [Dw_self] at r1 r2 r3 r4
  rw [det_sw x z u, det_sw x y z]
  have z1 := det_cr0 (x := y) (y := z) (z := u)
  have z2 := det_cr0 (x := x) (y := z) (z := u)
  have z3 := det_cr0 (x := x) (y := y) (z := u)
  have z4 := det_cr0 (x := x) (y := y) (z := z)
  have sw : ∀ v v', crP v v' = (0, 0, 0) → crP v' v = (0, 0, 0) := fun v v' => cr_sw0
  generalize hd0 : detP y z u = e0 at *
  generalize hd1 : detP x z u = d1 at *
  generalize hd2 : detP x y u = e2 at *
  generalize hd3 : detP x y z = d3 at *
  rw [Dw_sw w x y, Dw_sw w x z, Dw_sw w x u] at r1
  rw [Dw_sw w y z, Dw_sw w y u] at r2
  rw [Dw_sw w z u] at r3
  rw [Dw_sw w y u, Dw_sw w z u, Dw_sw w x z, Dw_sw w x u, Dw_sw w y z, Dw_sw w x y]
  have := wound_signs (e0 := e0) (e1 := -d1) (e2 := e2) (e3 := -d3) (ab := Dw w x y) (ac := Dw w x z) (ad := Dw w x u) (bc := Dw w y z) (bd := Dw w y u) (cd := Dw w z u) ?_ ?_ ?_ ?_ ?_ ?_ ?_ (by grind) (by grind) (by grind) (by grind)
  · have q1 := pasI_rot e0 (Dw w y z) (Dw w z u) (-Dw w y u)
    have q2 := pasI_rot (-d1) (Dw w x u) (-Dw w z u) (-Dw w x z)
    have q3 := pasI_rot e2 (Dw w x y) (Dw w y u) (-Dw w x u)
    have q4 := pasI_rot (-d3) (Dw w x z) (-Dw w y z) (-Dw w x y)
    rw [q1, q2, q3, q4]
    exact this
  · rintro ⟨h, hn, s⟩
    rcases h with h | h | h | h <;> rcases s with s | s
    · exact n0 (e1 := -d1) (e2 := e2) (e3 := -d3) s.2.1 s.2.2.1 s.2.2.2 (by omega) fun k => by have := rel k; rw [h] at this; grind
    · exact n0 (e1 := d1) (e2 := -e2) (e3 := d3) (by omega) (by omega) (by omega) (by omega) fun k => by have := rel k; rw [h] at this; grind
    · exact n1 (e1 := e0) (e2 := e2) (e3 := -d3) (by omega) (by omega) (by omega) (by omega) fun k => by have := rel k; rw [h] at this; grind
    · exact n1 (e1 := -e0) (e2 := -e2) (e3 := d3) (by omega) (by omega) (by omega) (by omega) fun k => by have := rel k; rw [h] at this; grind
    · exact n2 (e1 := e0) (e2 := -d1) (e3 := -d3) (by omega) (by omega) (by omega) (by omega) fun k => by have := rel k; rw [h] at this; grind
    · exact n2 (e1 := -e0) (e2 := d1) (e3 := d3) (by omega) (by omega) (by omega) (by omega) fun k => by have := rel k; rw [h] at this; grind
    · exact n3 (e1 := e0) (e2 := -d1) (e3 := e2) (by omega) (by omega) (by omega) (by omega) fun k => by have := rel k; rw [h] at this; grind
    · exact n3 (e1 := -e0) (e2 := d1) (e3 := -e2) (by omega) (by omega) (by omega) (by omega) fun k => by have := rel k; rw [h] at this; grind
  · exact fun h => ⟨z3.1 (gab h), by have := z4.1 (gab h); omega⟩
  · exact fun h => ⟨by have := z2.1 (gac h); omega, by have := z4.2.2 (sw _ _ (gac h)); omega⟩
  · exact fun h => ⟨by have := z2.2.2 (sw _ _ (gad h)); omega, z3.2.2 (sw _ _ (gad h))⟩
  · exact fun h => ⟨z1.1 (gbc h), by have := z4.2.1 (gbc h); omega⟩
  · exact fun h => ⟨z1.2.2 (sw _ _ (gbd h)), z3.2.1 (gbd h)⟩
  · exact fun h => ⟨z1.2.1 (gcd h), by have := z2.2.1 (gcd h); omega⟩
end DL
end
section
set_option Elab.async false
set_option linter.all false
set_option maxRecDepth 100000
set_option maxHeartbeats 4000000
set_option autoImplicit false
namespace DL
variable [TbC]
open PySem
/-! ### the far way -/
def abI (x : Int) : Int := if x < 0 then -x else x
theorem abI_ge (x : Int) : x ≤ abI x ∧ -x ≤ abI x ∧ 0 ≤ abI x := by unfold abI; split <;> omega
theorem abI_bd {n : Nat} {x : Int} (h : Bd n x) : Bd n (abI x) := by unfold abI Bd at *; split <;> omega
theorem max4 (m a b c : Int) : ∃ r, maxD (.lst [.int m, .int a, .int b, .int c]) = some (.int r) ∧ m ≤ r ∧ a ≤ r ∧ b ≤ r ∧ c ≤ r ∧ (r = m ∨ r = a ∨ r = b ∨ r = c) := by
  refine ⟨maxL [m, a, b, c], rfl, ?_⟩
  unfold maxL
  simp only [List.foldl]
  split <;> split <;> split <;> omega
/-- how far the corners lie at most -/
def Far (p : P3) (m : Int) (c : P3) : Prop := ∀ k, co k (mnP c p) ≤ m ∧ -(co k (mnP c p)) ≤ m
theorem Far.mono {p c : P3} {m m' : Int} (h : Far p m c) (l : m ≤ m') : Far p m' c := fun k => by have := h k; omega
noncomputable def farB : Sg := stS 2 (un maxD (bin addD (lstF (lsF (consF (gv 2) nilF))) (lstF (lcF (iterF (callF 2 F_minus (consF (gv 4) (consF (gv 0) nilF)))) [5] (setN 5) yes (un absD (gb 5))))))
theorem far_step {n : Nat} {p c : P3} {T t : Dt} {m : Int} (hm : Bd n m) (hc : BdN n (mnP c p)) : ∃ m', m ≤ m' ∧ Far p m' c ∧ Bd n m' ∧ farB [.d (en p), .d T, .d (.int m), .d t, .d (en c), .u, .u] = .ok (.nx [.d (en p), .d T, .d (.int m'), .d t, .d (en c), .u, .u]) := by
  obtain ⟨r, h1, h2, h3, h4, h5, h6⟩ := max4 m (abI (mnP c p).1) (abI (mnP c p).2.1) (abI (mnP c p).2.2)
  refine ⟨r, h2, fun k => ?_, ?_, ?_⟩
  · have a0 := abI_ge (mnP c p).1
    have a1 := abI_ge (mnP c p).2.1
    have a2 := abI_ge (mnP c p).2.2
    match k with
    | 0 => show (mnP c p).1 ≤ r ∧ _; show (mnP c p).1 ≤ r ∧ -(mnP c p).1 ≤ r; omega
    | 1 => show (mnP c p).2.1 ≤ r ∧ -(mnP c p).2.1 ≤ r; omega
    | k + 2 => show (mnP c p).2.2 ≤ r ∧ -(mnP c p).2.2 ≤ r; omega
  · have b0 := abI_bd hc.1
    have b1 := abI_bd hc.2.1
    have b2 := abI_bd hc.2.2
    rcases h6 with h | h | h | h <;> rw [h] <;> assumption
  · have lc : lcF (iterF (callF 2 F_minus (consF (gv 4) (consF (gv 0) nilF)))) [5] (setN 5) yes (un absD (gb 5)) [.d (en p), .d T, .d (.int m), .d t, .d (en c), .u, .u] = .ok ([(mnP c p).1, (mnP c p).2.1, (mnP c p).2.2].map fun i => Dt.int (abI i)) := by
      refine lcF_map (l := [(mnP c p).1, (mnP c p).2.1, (mnP c p).2.2]) (en := Dt.int) ?_ (by show 3 < 16777216; decide) fun i _ => rfl
      simp only [bodyF, startE, seqS, stS, stO, rtS, roS, roV, asS, ifS, xpS, bin, un, unN, lstF, lsF, consF, nilF, tupF, kc, gv, gb, tst, andT, orT, notT, andV, orV, notV, ifV, callF, callN, iterF, rngF, walked, slF, noP, soP, setN, setT, setCons, setNil, wipeE, yes, forS, prS, Rz.bind_ok, q_ofO, q_ofN, q_bad, q_ex, q_exS, q_exX, q_exB, q_okB, q_nx, q_rt, q_ro, q_bk, q_ct, q_sx, q_anx, q_act, q_abk, q_art, q_bnx, q_brt, q_bro, q_bex, q_va, q_ow, q_boo, add_int, sub_int, lt_int, le_int, gt_int, ge_int, neg_int, List.map_cons, List.map_nil, List.length_cons, List.length_nil, List.nil_append, List.cons_append, List.replicate, List.getElem?_cons_zero, List.getElem?_cons_succ, env_set0, env_setS, Option.bind_some, Option.map_some, if_true, Bool.false_eq_true, if_false, Nat.reduceAdd, Nat.reduceSub, sizeLine_eq, Nat.reduceLeDiff, Nat.zero_le, F_minus_eq]
      rfl
    have ad : addD (.lst [.int m]) (.lst ([(mnP c p).1, (mnP c p).2.1, (mnP c p).2.2].map fun i => Dt.int (abI i))) = some (.lst [.int m, .int (abI (mnP c p).1), .int (abI (mnP c p).2.1), .int (abI (mnP c p).2.2)]) := rfl
    unfold farB stS
    rw [e_un (e_bin (e_lst (ds := [.int m]) rfl) (e_lst lc) ad) h1, q_exS, q_okB]
    rfl
theorem F_far_way_eq {n : Nat} {p : P3} {ts : List T3} (hb : ∀ t ∈ ts, BdN n (mnP t.1 p) ∧ BdN n (mnP t.2.1 p) ∧ BdN n (mnP t.2.2 p)) (h0 : 1 ≤ n) (hn : n ≤ 240) : ∃ m : Int, 1 ≤ m ∧ Bd n m ∧ (∀ t ∈ ts, Far p m t.1 ∧ Far p m t.2.1 ∧ Far p m t.2.2) ∧
    F_far_way [en p, .lst (ts.map enT)] = .ok (.va (en (1, 100 * m * m * m * m + 100, (100 * m * m * m * m + 100) * (100 * m * m * m * m + 100)))) := by
  have main : ∃ m : Int, 1 ≤ m ∧ Bd n m ∧ (∀ t ∈ ts, Far p m t.1 ∧ Far p m t.2.1 ∧ Far p m t.2.2) ∧ ∃ x y, forGo (setN 3) (forS (iterF (gv 3)) (setN 4) farB) (ts.map enT) [.d (en p), .d (.lst (ts.map enT)), .d (.int 1), .u, .u, .u, .u] = .ok (.nx [.d (en p), .d (.lst (ts.map enT)), .d (.int m), x, y, .u, .u]) := by
    refine for_ind (I := fun i ε => ∃ m : Int, 1 ≤ m ∧ Bd n m ∧ (∀ t ∈ ts.take i, Far p m t.1 ∧ Far p m t.2.1 ∧ Far p m t.2.2) ∧ ∃ x y, ε = [.d (en p), .d (.lst (ts.map enT)), .d (.int m), x, y, .u, .u])
      (O := fun r => ∃ m : Int, 1 ≤ m ∧ Bd n m ∧ (∀ t ∈ ts, Far p m t.1 ∧ Far p m t.2.1 ∧ Far p m t.2.2) ∧ ∃ x y, r = .ok (.nx [.d (en p), .d (.lst (ts.map enT)), .d (.int m), x, y, .u, .u])) ?_ ⟨1, by decide, Bd.mono (n := 1) (show (1 : Int).natAbs < 2 ^ 1 by decide) h0, fun t ht => by simp at ht, _, _, rfl⟩ ?_
    · rintro i d ε hd ⟨m, h1, h2, h3, x, y, rfl⟩
      rw [List.getElem?_map] at hd
      obtain ⟨t, ht, rfl⟩ := Option.map_eq_some_iff.mp hd
      obtain ⟨b1, b2, b3⟩ := hb t (List.mem_of_getElem? ht)
      obtain ⟨m1, l1, f1, k1, e1⟩ := far_step (T := .lst (ts.map enT)) (t := enT t) h2 b1
      obtain ⟨m2, l2, f2, k2, e2⟩ := far_step (T := .lst (ts.map enT)) (t := enT t) k1 b2
      obtain ⟨m3, l3, f3, k3, e3⟩ := far_step (T := .lst (ts.map enT)) (t := enT t) k2 b3
      refine ⟨[.d (en p), .d (.lst (ts.map enT)), .d (.int m), .d (enT t), y, .u, .u], rfl, .inl ⟨[.d (en p), .d (.lst (ts.map enT)), .d (.int m3), .d (enT t), .d (en t.2.2), .u, .u], .inl ?_, m3, by omega, k3, fun u hu => ?_, _, _, rfl⟩⟩
      · show (exS _ (iterF (gv 3) [.d (en p), .d (.lst (ts.map enT)), .d (.int m), .d (enT t), y, .u, .u])).bind _ = _
        rw [show iterF (gv 3) [.d (en p), .d (.lst (ts.map enT)), .d (.int m), .d (enT t), y, .u, .u] = .ok [en t.1, en t.2.1, en t.2.2] from rfl, q_exS, q_okB, gon_cons]
        show afterB (farB [.d (en p), .d (.lst (ts.map enT)), .d (.int m), .d (enT t), .d (en t.1), .u, .u]) _ = _
        rw [e1, q_anx, gon_cons]
        show afterB (farB [.d (en p), .d (.lst (ts.map enT)), .d (.int m1), .d (enT t), .d (en t.2.1), .u, .u]) _ = _
        rw [e2, q_anx, gon_cons]
        show afterB (farB [.d (en p), .d (.lst (ts.map enT)), .d (.int m2), .d (enT t), .d (en t.2.2), .u, .u]) _ = _
        rw [e3, q_anx]
        rfl
      · rw [List.take_succ, ht] at hu
        rcases List.mem_append.mp hu with hu | hu
        · obtain ⟨g1, g2, g3⟩ := h3 u hu
          exact ⟨g1.mono (by omega), g2.mono (by omega), g3.mono (by omega)⟩
        · have : u = t := by simpa using hu
          rw [this]
          exact ⟨f1.mono (by omega), f2.mono (by omega), f3⟩
    · rintro ε ⟨m, h1, h2, h3, x, y, rfl⟩
      rw [List.length_map, List.take_length] at h3
      exact ⟨m, h1, h2, h3, x, y, rfl⟩
  obtain ⟨m, h1, h2, h3, x, y, hf⟩ := main
  refine ⟨m, h1, h2, h3, ?_⟩
  have b100 : Bd 7 (100 : Int) := by show (100 : Int).natAbs < 2 ^ 7; decide
  have e1 := mul_bd b100 h2 (by decide) (by omega) (by omega)
  have e2 := mul_bd (b100.mul h2) h2 (by omega) (by omega) (by omega)
  have e3 := mul_bd ((b100.mul h2).mul h2) h2 (by omega) (by omega) (by omega)
  have e4 := mul_bd (((b100.mul h2).mul h2).mul h2) h2 (by omega) (by omega) (by omega)
  have bs : Bd (7 + n + n + n + n + 1) (100 * m * m * m * m + 100) := Bd.add ((((b100.mul h2).mul h2).mul h2).mul h2) (b100.mono (by omega))
  have e5 := mul_bd bs bs (by omega) (by omega) (by omega)
  unfold F_far_way
  refine b_rt ?_
  unfold g_far_way
  refine (s_st (d := .int 1) rfl).trans ?_
  show seqR (forS (iterF (gv 1)) (setN 3) (forS (iterF (gv 3)) (setN 4) farB) [.d (en p), .d (.lst (ts.map enT)), .d (.int 1), .u, .u, .u, .u]) _ = _
  rw [show forS (iterF (gv 1)) (setN 3) (forS (iterF (gv 3)) (setN 4) farB) [.d (en p), .d (.lst (ts.map enT)), .d (.int 1), .u, .u, .u, .u] = _ from hf, q_nx]
  refine (s_st (d := .int (100 * m * m * m * m + 100)) (e_bin (e_bin (e_bin (e_bin (e_bin rfl rfl e1) rfl e2) rfl e3) rfl e4) rfl rfl)).trans ?_
  exact s_rt (d := en (1, 100 * m * m * m * m + 100, (100 * m * m * m * m + 100) * (100 * m * m * m * m + 100))) (e_tup (e_cons rfl (e_cons rfl (e_cons (e_bin rfl rfl e5) rfl))) (by show 3 ≤ 16777216; decide))
/-- numbers to a great base -/
theorem base3 {s a b c : Int} (ha : -s < a ∧ a < s) (hb : -s < b ∧ b < s) (h : a + s * b + s * s * c = 0) : a = 0 ∧ b = 0 ∧ c = 0 := by
  have hs : 0 < s := by omega
  have z : ∀ {u v : Int}, -s < u ∧ u < s → u + s * v = 0 → u = 0 ∧ v = 0 := fun {u v} hu e => by
    rcases Int.lt_trichotomy v 0 with k | k | k
    · have : s * v ≤ s * -1 := Int.mul_le_mul_of_nonneg_left (by omega) (by omega)
      omega
    · subst k; omega
    · have : s * 1 ≤ s * v := Int.mul_le_mul_of_nonneg_left (by omega) (by omega)
      omega
  have e1 : a + s * (b + s * c) = 0 := by grind
  obtain ⟨h1, h2⟩ := z ha e1
  obtain ⟨h3, h4⟩ := z hb h2
  exact ⟨h1, h3, h4⟩
theorem cr_small {m x1 x2 y1 y2 : Int} (h0 : 1 ≤ m) (hx1 : x1 ≤ m ∧ -x1 ≤ m) (hx2 : x2 ≤ m ∧ -x2 ≤ m) (hy1 : y1 ≤ m ∧ -y1 ≤ m) (hy2 : y2 ≤ m ∧ -y2 ≤ m) : -(100 * m * m * m * m + 100) < x1 * y2 - x2 * y1 ∧ x1 * y2 - x2 * y1 < 100 * m * m * m * m + 100 := by
  have ab : ∀ {u v : Int}, (u ≤ m ∧ -u ≤ m) → (v ≤ m ∧ -v ≤ m) → u * v ≤ m * m ∧ -(u * v) ≤ m * m := fun {u v} hu hv => by
    have a1 : 0 ≤ (m - u) * (m + v) := Int.mul_nonneg (by omega) (by omega)
    have a2 : 0 ≤ (m + u) * (m - v) := Int.mul_nonneg (by omega) (by omega)
    have a3 : 0 ≤ (m - u) * (m - v) := Int.mul_nonneg (by omega) (by omega)
    have a4 : 0 ≤ (m + u) * (m + v) := Int.mul_nonneg (by omega) (by omega)
    have b1 : (m - u) * (m + v) = m * m + m * v - u * m - u * v := by grind
    have b2 : (m + u) * (m - v) = m * m - m * v + u * m - u * v := by grind
    have b3 : (m - u) * (m - v) = m * m - m * v - u * m + u * v := by grind
    have b4 : (m + u) * (m + v) = m * m + m * v + u * m + u * v := by grind
    omega
  have p := ab hx1 hy2
  have q := ab hx2 hy1
  have m2 : 1 ≤ m * m := by
    have : 1 * 1 ≤ m * m := Int.mul_le_mul h0 h0 (by decide) (by omega)
    omega
  have m4 : m * m * 1 ≤ m * m * (m * m) := Int.mul_le_mul_of_nonneg_left m2 (by omega)
  have e : 100 * m * m * m * m = 100 * (m * m * (m * m)) := by grind
  rw [e]
  omega
theorem far_gen {p : P3} {m : Int} {L : List P3} (h0 : 1 ≤ m) (h : ∀ c ∈ L, Far p m c) : Gen p (1, 100 * m * m * m * m + 100, (100 * m * m * m * m + 100) * (100 * m * m * m * m + 100)) L := fun x hx y hy e => by
  have fx := h x hx
  have fy := h y hy
  have x0 := fx 0
  have x1 := fx 1
  have x2 := fx 2
  have y0 := fy 0
  have y1 := fy 1
  have y2 := fy 2
  generalize mnP x p = u at *
  generalize mnP y p = v at *
  have c0 := cr_small h0 x1 x2 y1 y2
  have c1 := cr_small h0 x2 x0 y2 y0
  have := base3 (s := 100 * m * m * m * m + 100) (a := (crP u v).1) (b := (crP u v).2.1) (c := (crP u v).2.2) c0 c1 (by
    have e' : 1 * (crP u v).1 + (100 * m * m * m * m + 100) * (crP u v).2.1 + (100 * m * m * m * m + 100) * (100 * m * m * m * m + 100) * (crP u v).2.2 = 0 := e
    omega)
  exact ext3 fun k => by
    match k with
    | 0 => exact this.1
    | 1 => exact this.2.1
    | k + 2 => exact this.2.2
theorem far_bd {n : Nat} {m : Int} (h : Bd n m) (hn : n ≤ 240) : BdN 2000 ((1 : Int), 100 * m * m * m * m + 100, (100 * m * m * m * m + 100) * (100 * m * m * m * m + 100)) := by
  have b100 : Bd 7 (100 : Int) := by show (100 : Int).natAbs < 2 ^ 7; decide
  have bs : Bd (7 + n + n + n + n + 1) (100 * m * m * m * m + 100) := Bd.add ((((b100.mul h).mul h).mul h).mul h) (b100.mono (by omega))
  exact ⟨Bd.mono (n := 1) (show (1 : Int).natAbs < 2 ^ 1 by decide) (by decide), bs.mono (by omega), (bs.mul bs).mono (by omega)⟩
end DL
end
section
set_option Elab.async false
set_option linter.all false
set_option maxRecDepth 100000
set_option maxHeartbeats 4000000
set_option autoImplicit false
namespace DL
variable [TbC]
open PySem
/-! ### where a point stands to a closed skin -/
theorem fr_eqq (x y : Fr) : eqq (fr x) (fr y) = decide (x = y) := by
  unfold fr
  rw [eqq_tup, eqqs_cons, eqqs_cons, eqqs_nil, eqq_int, eqq_int]
  obtain ⟨a, b⟩ := x
  obtain ⟨c, d⟩ := y
  simp only [Prod.mk.injEq]
  by_cases h1 : a = c <;> by_cases h2 : b = d <;> simp [h1, h2]
def crn (ts : List T3) : List P3 := ts.flatMap fun t => [t.1, t.2.1, t.2.2]
theorem crn_mem {ts : List T3} {t : T3} (h : t ∈ ts) : t.1 ∈ crn ts ∧ t.2.1 ∈ crn ts ∧ t.2.2 ∈ crn ts := by
  unfold crn
  refine ⟨List.mem_flatMap.mpr ⟨t, h, by simp⟩, List.mem_flatMap.mpr ⟨t, h, by simp⟩, List.mem_flatMap.mpr ⟨t, h, by simp⟩⟩
theorem mem_crn {ts : List T3} {c : P3} (h : c ∈ crn ts) : ∃ t ∈ ts, c = t.1 ∨ c = t.2.1 ∨ c = t.2.2 := by
  obtain ⟨t, ht, hc⟩ := List.mem_flatMap.mp h
  exact ⟨t, ht, by simpa using hc⟩
def OnT (p : P3) (ts : List T3) : Prop := ∃ t ∈ ts, Tri p 1 t.1 t.2.1 t.2.2
theorem on_01 {p w a b c : P3} (F : Fst (fun t => Tri (atP p w t) t.2 a b c) (triR p w a b c)) : triR p w a b c = some (0, 1) ↔ Tri p 1 a b c := by
  constructor
  · intro h
    have := (F.g _ h).2.2
    have z : Tri (atP p w (0, 1)) 1 a b c := this
    rw [at_01] at z
    exact z
  · intro h
    have z : Tri (atP p w (0, 1)) 1 a b c := by rw [at_01]; exact h
    have G : Fst (fun t => Tri (atP p w t) t.2 a b c) (some (0, 1)) := ⟨fun x e => by cases e; exact ⟨gt_01, Int.le_refl _, z⟩, fun x e t h1 h2 _ => by
      cases e
      show (0 : Int) * t.2 ≤ t.1 * 1
      rw [Int.zero_mul, Int.mul_one]; exact h2, fun e => nomatch e⟩
    exact F.same G
theorem eq_hi (r : Option Fr) : eqD (hiD r) (fr (0, 1)) = some (.bl (decide (r = some (0, 1)))) := by
  cases r with
  | none =>
    rw [show hiD none = Dt.non from rfl, eqD_of (n := 1) rfl rfl (by decide)]
    show some (Dt.bl (eqq .non (.tup _))) = _
    rw [eqq_nonT]; rfl
  | some x =>
    rw [show hiD (some x) = fr x from rfl, eqD_of (n := 1) rfl rfl (by decide), fr_eqq]
    simp
theorem anyD_bls {α : Type} (l : List α) (f : α → Bool) : anyD (.lst (l.map fun a => .bl (f a))) = some (.bl (l.any f)) := by
  have : asB (l.map fun a => Dt.bl (f a)) = some (l.map f) := by
    induction l with
    | nil => rfl
    | cons a l ih => rw [List.map_cons, asB, ih]; rfl
  show (asB _).bind _ = _
  rw [this, Option.bind_some, List.any_map]
  rfl
theorem F_is_on_eq {p : P3} {ts : List T3} (bp : BdN 500 p) (hb : ∀ t ∈ ts, BdT 500 t) (hl : ts.length < 1000000) : ∃ b : Bool, F_is_on [en p, .lst (ts.map enT)] = .ok (.va (.bl b)) ∧ (b = true ↔ OnT p ts) := by
  have w0 : ((1, 0, 0) : P3) ≠ (0, 0, 0) := by decide
  have bw : BdN 2000 ((1, 0, 0) : P3) := ⟨Bd.mono (n := 1) (show (1 : Int).natAbs < 2 ^ 1 by decide) (by decide), Bd.mono (n := 1) (show (0 : Int).natAbs < 2 ^ 1 by decide) (by decide), Bd.mono (n := 1) (show (0 : Int).natAbs < 2 ^ 1 by decide) (by decide)⟩
  refine ⟨ts.any fun t => decide (triR p (1, 0, 0) t.1 t.2.1 t.2.2 = some (0, 1)), ?_, ?_⟩
  · have lc : lcF (iterF (gb 1)) [2] (setN 2) yes (bin eqD (callF 2 F_meets_triangle (consF (tupF (consF (gv 0) (consF (tupF (consF (kc (.int 1)) (consF (kc (.int 0)) (consF (kc (.int 0)) nilF)))) nilF))) (consF (gv 2) nilF))) (tupF (consF (kc (.int 0)) (consF (kc (.int 1)) nilF)))) [.d (en p), .d (.lst (ts.map enT)), .u]
        = .ok (ts.map fun t => .bl (decide (triR p (1, 0, 0) t.1 t.2.1 t.2.2 = some (0, 1)))) := by
      refine lcF_map (en := enT) rfl (by omega) fun t ht => ?_
      obtain ⟨b1, b2, b3⟩ := hb t ht
      have m := F_meets_triangle_eq bp bw b1 b2 b3 w0
      refine e_bin (c_1 (n := 2) (ds := [rayD p (1, 0, 0), triD t.1 t.2.1 t.2.2]) ?_ rfl m rfl) (y := fr (0, 1)) ?_ (eq_hi _)
      · exact e_cons (e_tup (e_cons rfl (e_cons (e_tup (e_cons rfl (e_cons rfl (e_cons rfl rfl))) (by show 3 ≤ 16777216; decide)) rfl)) (by show 2 ≤ 16777216; decide)) rfl
      · exact e_tup (e_cons rfl (e_cons rfl rfl)) (by show 2 ≤ 16777216; decide)
    unfold F_is_on
    exact b_rt (s_rt (e_un (e_lst lc) (anyD_bls _ _)))
  · rw [List.any_eq_true]
    constructor
    · rintro ⟨t, ht, h⟩
      obtain ⟨b1, b2, b3⟩ := hb t ht
      exact ⟨t, ht, (on_01 (triR_spec bp bw b1 b2 b3 w0)).mp (of_decide_eq_true h)⟩
    · rintro ⟨t, ht, h⟩
      obtain ⟨b1, b2, b3⟩ := hb t ht
      exact ⟨t, ht, decide_eq_true ((on_01 (triR_spec bp bw b1 b2 b3 w0)).mpr h)⟩
/-- the way's numbers: to a base greater than what lies between the point and a corner -/
def Base (p w : P3) (L : List P3) : Prop := ∃ s : Int, 1 < s ∧ w = (1, s, s * s) ∧ ∀ c ∈ L, ∀ k, co k (mnP c p) < s ∧ -(co k (mnP c p)) < s
theorem F_wound_eqB {n : Nat} {p : P3} {ts : List T3} (bp : BdN n p) (hb : ∀ t ∈ ts, BdT n t) (h0 : 1 ≤ n) (hn : n ≤ 230) (hl : ts.length < 1000000) : ∃ w : P3, w ≠ (0, 0, 0) ∧ BdN 2000 w ∧ (Gen p w (crn ts) ∧ Base p w (crn ts)) ∧ F_wound [en p, .lst (ts.map enT)] = .ok (.va (.int ((ts.map (ctr p w)).sum))) := by
  obtain ⟨m, h1, h2, h3, h4⟩ := F_far_way_eq (n := n + 1) (p := p) (ts := ts) (fun t ht => ⟨(hb t ht).1.mn bp, (hb t ht).2.1.mn bp, (hb t ht).2.2.mn bp⟩) (by omega) (by omega)
  have bw := far_bd h2 (by omega)
  have gen : Gen p _ (crn ts) := far_gen h1 fun c hc => by
    obtain ⟨t, ht, h⟩ := mem_crn hc
    obtain ⟨g1, g2, g3⟩ := h3 t ht
    rcases h with rfl | rfl | rfl
    · exact g1
    · exact g2
    · exact g3
  have base : Base p ((1 : Int), 100 * m * m * m * m + 100, (100 * m * m * m * m + 100) * (100 * m * m * m * m + 100)) (crn ts) := by
    have m2 : 1 ≤ m * m := by
      have : 1 * 1 ≤ m * m := Int.mul_le_mul h1 h1 (by decide) (by omega)
      omega
    have mm : m * 1 ≤ m * m := Int.mul_le_mul_of_nonneg_left h1 (by omega)
    have m4 : m * m * 1 ≤ m * m * (m * m) := Int.mul_le_mul_of_nonneg_left m2 (by omega)
    have e : 100 * m * m * m * m = 100 * (m * m * (m * m)) := by grind
    refine ⟨_, by rw [e]; omega, rfl, fun c hc k => ?_⟩
    obtain ⟨t, ht, h⟩ := mem_crn hc
    obtain ⟨g1, g2, g3⟩ := h3 t ht
    have f : Far p m c := by
      rcases h with rfl | rfl | rfl
      · exact g1
      · exact g2
      · exact g3
    have := f k
    rw [e]
    omega
  generalize hw : ((1 : Int), 100 * m * m * m * m + 100, (100 * m * m * m * m + 100) * (100 * m * m * m * m + 100)) = w at *
  have w0 : w ≠ (0, 0, 0) := by
    rw [← hw]
    intro e
    cases e
  refine ⟨w, w0, bw, ⟨gen, base⟩, ?_⟩
  have main : ∃ x y z u, forGo (setN 4) (ifS (tst (bin notND (callF 2 F_meets_triangle (consF (tupF (consF (gv 0) (consF (gv 2) nilF))) (consF (gv 4) nilF))) (kc .non))) (seqS (asS (gv 4) (setT 3 (setCons (setN 5) (setCons (setN 6) (setCons (setN 7) setNil))))) (stS 3 (bin addD (gb 3) (callF 1 F_sign (consF (callF 2 F_dot (consF (callF 2 F_cross (consF (callF 2 F_minus (consF (gv 6) (consF (gv 5) nilF))) (consF (callF 2 F_minus (consF (gv 7) (consF (gv 5) nilF))) nilF))) (consF (gv 2) nilF))) nilF))))) (fun ε => .ok (.nx ε))) (ts.map enT)
      [.d (en p), .d (.lst (ts.map enT)), .d (en w), .d (.int 0), .u, .u, .u, .u] = .ok (.nx [.d (en p), .d (.lst (ts.map enT)), .d (en w), .d (.int ((ts.map (ctr p w)).sum)), x, y, z, u]) := by
    refine for_ind (I := fun i ε => ∃ x y z u, ε = [.d (en p), .d (.lst (ts.map enT)), .d (en w), .d (.int (((ts.take i).map (ctr p w)).sum)), x, y, z, u])
      (O := fun r => ∃ x y z u, r = .ok (.nx [.d (en p), .d (.lst (ts.map enT)), .d (en w), .d (.int ((ts.map (ctr p w)).sum)), x, y, z, u])) ?_ ⟨_, _, _, _, rfl⟩ ?_
    · rintro i d ε hd ⟨x, y, z, u, rfl⟩
      rw [List.getElem?_map] at hd
      obtain ⟨t, ht, rfl⟩ := Option.map_eq_some_iff.mp hd
      obtain ⟨b1, b2, b3⟩ := hb t (List.mem_of_getElem? ht)
      have mt := F_meets_triangle_eq (bp.mono (by omega)) bw (b1.mono (by omega)) (b2.mono (by omega)) (b3.mono (by omega)) w0
      have sum1 : ((ts.take (i + 1)).map (ctr p w)).sum = ((ts.take i).map (ctr p w)).sum + ctr p w t := by
        rw [List.take_succ, ht]
        simp [List.sum_append]
      have call : callF 2 F_meets_triangle (consF (tupF (consF (gv 0) (consF (gv 2) nilF))) (consF (gv 4) nilF)) [.d (en p), .d (.lst (ts.map enT)), .d (en w), .d (.int (((ts.take i).map (ctr p w)).sum)), .d (enT t), y, z, u] = .ok (hiD (triR p w t.1 t.2.1 t.2.2)) :=
        c_1 (n := 2) (ds := [rayD p w, triD t.1 t.2.1 t.2.2]) (e_cons (e_tup (e_cons rfl (e_cons rfl rfl)) (by show 2 ≤ 16777216; decide)) rfl) rfl mt rfl
      cases hr : triR p w t.1 t.2.1 t.2.2 with
      | none =>
        have c0 : ctr p w t = 0 := if_pos hr
        rw [hr] at call
        refine ⟨[.d (en p), .d (.lst (ts.map enT)), .d (en w), .d (.int (((ts.take i).map (ctr p w)).sum)), .d (enT t), y, z, u], rfl, .inl ⟨[.d (en p), .d (.lst (ts.map enT)), .d (en w), .d (.int (((ts.take i).map (ctr p w)).sum)), .d (enT t), y, z, u], .inl ?_, .d (enT t), y, z, u, ?_⟩⟩
        · exact i_F (e_tst (e_bin call rfl rfl))
        · rw [sum1, c0, Int.add_zero]
      | some f =>
        have c0 : ctr p w t = sgn (dtP (upP t.1 t.2.1 t.2.2) w) := if_neg (by rw [hr]; exact fun z => nomatch z)
        rw [hr] at call
        refine ⟨[.d (en p), .d (.lst (ts.map enT)), .d (en w), .d (.int (((ts.take i).map (ctr p w)).sum)), .d (enT t), y, z, u], rfl, .inl ⟨[.d (en p), .d (.lst (ts.map enT)), .d (en w), .d (.int (((ts.take (i + 1)).map (ctr p w)).sum)), .d (enT t), .d (en t.1), .d (en t.2.1), .d (en t.2.2)], .inl ?_, _, _, _, _, rfl⟩⟩
        refine (i_T (e_tst (e_bin call rfl rfl))).trans ?_
        refine (s_as (d := enT t) rfl rfl).trans ?_
        have cr := F_cross_eq (b2.mn b1) (b3.mn b1) (by omega) (by omega) (by omega)
        have dt := F_dot_eq ((b2.mn b1).cr (b3.mn b1)) bw (by omega) (by omega) (by omega)
        have sn := F_sign_eq (dtP (upP t.1 t.2.1 t.2.2) w)
        rw [sum1, c0]
        unfold stS
        rw [e_bin (x := .int (((ts.take i).map (ctr p w)).sum)) (y := .int (sgn (dtP (upP t.1 t.2.1 t.2.2) w))) (z := .int (((ts.take i).map (ctr p w)).sum + sgn (dtP (upP t.1 t.2.1 t.2.2) w))) rfl ?_ rfl, q_exS, q_okB]
        · rfl
        · exact c_1 (n := 1) (e_cons (c_1 (n := 2) (e_cons (c_1 (n := 2) (e_cons (c_1 (n := 2) rfl rfl (F_minus_eq _ _) rfl) (e_cons (c_1 (n := 2) rfl rfl (F_minus_eq _ _) rfl) rfl)) rfl cr rfl) rfl) rfl dt rfl) rfl) rfl sn rfl
    · rintro ε ⟨x, y, z, u, rfl⟩
      rw [List.length_map, List.take_length]
      exact ⟨x, y, z, u, rfl⟩
  obtain ⟨x, y, z, u, hf⟩ := main
  unfold F_wound
  refine b_rt ?_
  unfold g_wound
  refine (s_st (c_1 (n := 2) rfl rfl h4 rfl)).trans ?_
  refine (s_st (d := .int 0) rfl).trans ?_
  show seqR (forS (iterF (gv 1)) (setN 4) _ [.d (en p), .d (.lst (ts.map enT)), .d (en w), .d (.int 0), .u, .u, .u, .u]) _ = _
  unfold forS
  rw [show iterF (gv 1) [.d (en p), .d (.lst (ts.map enT)), .d (en w), .d (.int 0), .u, .u, .u, .u] = .ok (ts.map enT) from rfl, q_exS, q_okB, hf, q_nx]
  exact s_rt rfl
/-- what the faces add, one by one -/
def windT (p w : P3) (ts : List T3) : Int := (ts.map fun t => pasT p w t.1 t.2.1 t.2.2).sum
theorem F_place_of_eqB {n : Nat} {p : P3} {ts : List T3} (sh : Shut ts) (bp : BdN n p) (hb : ∀ t ∈ ts, BdT n t) (h0 : 1 ≤ n) (hn : n ≤ 230) (hl : ts.length < 100000) : ∃ w : P3, (Gen p w (crn ts) ∧ Base p w (crn ts)) ∧ (OnT p ts → F_place_of [en p, .lst (ts.map enT)] = .ok (.va (.int 0))) ∧
    (¬ OnT p ts → F_place_of [en p, .lst (ts.map enT)] = .ok (.va (.int (if windT p w ts = 0 then -1 else 1)))) := by
  have hc := F_is_closed_eq (ts := ts) (by omega)
  rw [shut_closed sh] at hc
  have up : ∀ t ∈ ts, BdT 500 t := fun t ht => ⟨(hb t ht).1.mono (by omega), (hb t ht).2.1.mono (by omega), (hb t ht).2.2.mono (by omega)⟩
  obtain ⟨b, ho, hb'⟩ := F_is_on_eq (bp.mono (by omega)) up (by omega)
  obtain ⟨w, w0, bw, ⟨gen, base⟩, hw⟩ := F_wound_eqB bp hb h0 hn (by omega)
  refine ⟨w, ⟨gen, base⟩, fun on => ?_, fun off => ?_⟩
  · have : b = true := hb'.mpr on
    subst this
    unfold F_place_of
    refine b_rt ?_
    unfold g_place_of
    refine (s_ifF (by simp only [bodyF, startE, seqS, stS, stO, rtS, roS, roV, asS, ifS, xpS, bin, un, unN, lstF, lsF, consF, nilF, tupF, kc, gv, gb, tst, andT, orT, notT, andV, orV, notV, ifV, callF, callN, iterF, rngF, walked, slF, noP, soP, setN, setT, setCons, setNil, wipeE, yes, forS, prS, Rz.bind_ok, q_ofO, q_ofN, q_bad, q_ex, q_exS, q_exX, q_exB, q_okB, q_nx, q_rt, q_ro, q_bk, q_ct, q_sx, q_anx, q_act, q_abk, q_art, q_bnx, q_brt, q_bro, q_bex, q_va, q_ow, q_boo, add_int, sub_int, lt_int, le_int, gt_int, ge_int, neg_int, List.map_cons, List.map_nil, List.length_cons, List.length_nil, List.nil_append, List.cons_append, List.replicate, List.getElem?_cons_zero, List.getElem?_cons_succ, env_set0, env_setS, Option.bind_some, Option.map_some, if_true, Bool.false_eq_true, if_false, Nat.reduceAdd, Nat.reduceSub, sizeLine_eq, Nat.reduceLeDiff, Nat.zero_le, hc, Bool.not_true])).trans ?_
    refine (s_ifT (by simp only [bodyF, startE, seqS, stS, stO, rtS, roS, roV, asS, ifS, xpS, bin, un, unN, lstF, lsF, consF, nilF, tupF, kc, gv, gb, tst, andT, orT, notT, andV, orV, notV, ifV, callF, callN, iterF, rngF, walked, slF, noP, soP, setN, setT, setCons, setNil, wipeE, yes, forS, prS, Rz.bind_ok, q_ofO, q_ofN, q_bad, q_ex, q_exS, q_exX, q_exB, q_okB, q_nx, q_rt, q_ro, q_bk, q_ct, q_sx, q_anx, q_act, q_abk, q_art, q_bnx, q_brt, q_bro, q_bex, q_va, q_ow, q_boo, add_int, sub_int, lt_int, le_int, gt_int, ge_int, neg_int, List.map_cons, List.map_nil, List.length_cons, List.length_nil, List.nil_append, List.cons_append, List.replicate, List.getElem?_cons_zero, List.getElem?_cons_succ, env_set0, env_setS, Option.bind_some, Option.map_some, if_true, Bool.false_eq_true, if_false, Nat.reduceAdd, Nat.reduceSub, sizeLine_eq, Nat.reduceLeDiff, Nat.zero_le, ho])).trans ?_
    rfl
  · have : b = false := by
      cases b
      · rfl
      · exact absurd (hb'.mp rfl) off
    subst this
    have ct : (ts.map (ctr p w)).sum = windT p w ts := by
      unfold windT
      congr 1
      refine List.map_congr_left fun t ht => ?_
      obtain ⟨b1, b2, b3⟩ := up t ht
      obtain ⟨c1, c2, c3⟩ := crn_mem ht
      exact ctr_eq (triR_spec (bp.mono (by omega)) bw b1 b2 b3 w0) (fun z => off ⟨t, ht, z⟩) gen c1 c2 c3
    rw [ct] at hw
    unfold F_place_of
    refine b_rt ?_
    unfold g_place_of
    refine (s_ifF (by simp only [bodyF, startE, seqS, stS, stO, rtS, roS, roV, asS, ifS, xpS, bin, un, unN, lstF, lsF, consF, nilF, tupF, kc, gv, gb, tst, andT, orT, notT, andV, orV, notV, ifV, callF, callN, iterF, rngF, walked, slF, noP, soP, setN, setT, setCons, setNil, wipeE, yes, forS, prS, Rz.bind_ok, q_ofO, q_ofN, q_bad, q_ex, q_exS, q_exX, q_exB, q_okB, q_nx, q_rt, q_ro, q_bk, q_ct, q_sx, q_anx, q_act, q_abk, q_art, q_bnx, q_brt, q_bro, q_bex, q_va, q_ow, q_boo, add_int, sub_int, lt_int, le_int, gt_int, ge_int, neg_int, List.map_cons, List.map_nil, List.length_cons, List.length_nil, List.nil_append, List.cons_append, List.replicate, List.getElem?_cons_zero, List.getElem?_cons_succ, env_set0, env_setS, Option.bind_some, Option.map_some, if_true, Bool.false_eq_true, if_false, Nat.reduceAdd, Nat.reduceSub, sizeLine_eq, Nat.reduceLeDiff, Nat.zero_le, hc, Bool.not_true])).trans ?_
    refine (s_ifF (by simp only [bodyF, startE, seqS, stS, stO, rtS, roS, roV, asS, ifS, xpS, bin, un, unN, lstF, lsF, consF, nilF, tupF, kc, gv, gb, tst, andT, orT, notT, andV, orV, notV, ifV, callF, callN, iterF, rngF, walked, slF, noP, soP, setN, setT, setCons, setNil, wipeE, yes, forS, prS, Rz.bind_ok, q_ofO, q_ofN, q_bad, q_ex, q_exS, q_exX, q_exB, q_okB, q_nx, q_rt, q_ro, q_bk, q_ct, q_sx, q_anx, q_act, q_abk, q_art, q_bnx, q_brt, q_bro, q_bex, q_va, q_ow, q_boo, add_int, sub_int, lt_int, le_int, gt_int, ge_int, neg_int, List.map_cons, List.map_nil, List.length_cons, List.length_nil, List.nil_append, List.cons_append, List.replicate, List.getElem?_cons_zero, List.getElem?_cons_succ, env_set0, env_setS, Option.bind_some, Option.map_some, if_true, Bool.false_eq_true, if_false, Nat.reduceAdd, Nat.reduceSub, sizeLine_eq, Nat.reduceLeDiff, Nat.zero_le, ho])).trans ?_
    refine s_rt ?_
    by_cases z : windT p w ts = 0
    · rw [if_pos z]
      simp only [bodyF, startE, seqS, stS, stO, rtS, roS, roV, asS, ifS, xpS, bin, un, unN, lstF, lsF, consF, nilF, tupF, kc, gv, gb, tst, andT, orT, notT, andV, orV, notV, ifV, callF, callN, iterF, rngF, walked, slF, noP, soP, setN, setT, setCons, setNil, wipeE, yes, forS, prS, Rz.bind_ok, q_ofO, q_ofN, q_bad, q_ex, q_exS, q_exX, q_exB, q_okB, q_nx, q_rt, q_ro, q_bk, q_ct, q_sx, q_anx, q_act, q_abk, q_art, q_bnx, q_brt, q_bro, q_bex, q_va, q_ow, q_boo, add_int, sub_int, lt_int, le_int, gt_int, ge_int, neg_int, List.map_cons, List.map_nil, List.length_cons, List.length_nil, List.nil_append, List.cons_append, List.replicate, List.getElem?_cons_zero, List.getElem?_cons_succ, env_set0, env_setS, Option.bind_some, Option.map_some, if_true, Bool.false_eq_true, if_false, Nat.reduceAdd, Nat.reduceSub, sizeLine_eq, Nat.reduceLeDiff, Nat.zero_le, hw, neD_int, decide_eq_true z, Bool.not_true]
    · rw [if_neg z]
      simp only [bodyF, startE, seqS, stS, stO, rtS, roS, roV, asS, ifS, xpS, bin, un, unN, lstF, lsF, consF, nilF, tupF, kc, gv, gb, tst, andT, orT, notT, andV, orV, notV, ifV, callF, callN, iterF, rngF, walked, slF, noP, soP, setN, setT, setCons, setNil, wipeE, yes, forS, prS, Rz.bind_ok, q_ofO, q_ofN, q_bad, q_ex, q_exS, q_exX, q_exB, q_okB, q_nx, q_rt, q_ro, q_bk, q_ct, q_sx, q_anx, q_act, q_abk, q_art, q_bnx, q_brt, q_bro, q_bex, q_va, q_ow, q_boo, add_int, sub_int, lt_int, le_int, gt_int, ge_int, neg_int, List.map_cons, List.map_nil, List.length_cons, List.length_nil, List.nil_append, List.cons_append, List.replicate, List.getElem?_cons_zero, List.getElem?_cons_succ, env_set0, env_setS, Option.bind_some, Option.map_some, if_true, Bool.false_eq_true, if_false, Nat.reduceAdd, Nat.reduceSub, sizeLine_eq, Nat.reduceLeDiff, Nat.zero_le, hw, neD_int, decide_eq_false z, Bool.not_false]
theorem F_place_of_eq {n : Nat} {p : P3} {ts : List T3} (sh : Shut ts) (bp : BdN n p) (hb : ∀ t ∈ ts, BdT n t) (h0 : 1 ≤ n) (hn : n ≤ 230) (hl : ts.length < 100000) : ∃ w : P3, Gen p w (crn ts) ∧ (OnT p ts → F_place_of [en p, .lst (ts.map enT)] = .ok (.va (.int 0))) ∧
    (¬ OnT p ts → F_place_of [en p, .lst (ts.map enT)] = .ok (.va (.int (if windT p w ts = 0 then -1 else 1)))) :=
  let ⟨w, g, h1, h2⟩ := F_place_of_eqB sh bp hb h0 hn hl
  ⟨w, g.1, h1, h2⟩
end DL
end
section
set_option Elab.async false
set_option linter.all false
set_option maxRecDepth 100000
set_option maxHeartbeats 4000000
set_option autoImplicit false
namespace DL
variable [TbC]
open PySem
/-! ### a point and four corners -/
theorem lin_det {x y z q r : P3} {α β γ : Int} (h : ∀ k, α * co k x + β * co k y + γ * co k z = 0) : α * detP x q r + β * detP y q r + γ * detP z q r = 0 := by
  have h0 := h 0
  have h1 := h 1
  have h2 := h 2
  obtain ⟨x1, x2, x3⟩ := x
  obtain ⟨y1, y2, y3⟩ := y
  obtain ⟨z1, z2, z3⟩ := z
  obtain ⟨q1, q2, q3⟩ := q
  obtain ⟨r1, r2, r3⟩ := r
  simp only [detP, dtP, crP, co] at *
  have e : α * (x1 * (q2 * r3 - q3 * r2) + x2 * (q3 * r1 - q1 * r3) + x3 * (q1 * r2 - q2 * r1)) + β * (y1 * (q2 * r3 - q3 * r2) + y2 * (q3 * r1 - q1 * r3) + y3 * (q1 * r2 - q2 * r1)) + γ * (z1 * (q2 * r3 - q3 * r2) + z2 * (q3 * r1 - q1 * r3) + z3 * (q1 * r2 - q2 * r1))
      = (α * x1 + β * y1 + γ * z1) * (q2 * r3 - q3 * r2) + (α * x2 + β * y2 + γ * z2) * (q3 * r1 - q1 * r3) + (α * x3 + β * y3 + γ * z3) * (q1 * r2 - q2 * r1) := by
    clear h h0 h1 h2
    grind
  rw [e, h0, h1, h2]
  simp
theorem det_self (x q : P3) : detP x x q = 0 ∧ detP x q x = 0 ∧ detP q x x = 0 := by
  obtain ⟨x1, x2, x3⟩ := x
  obtain ⟨q1, q2, q3⟩ := q
  simp only [detP, dtP, crP]
  refine ⟨?_, ?_, ?_⟩ <;> grind
theorem det_sw1 (x y z : P3) : detP y x z = - detP x y z := by rw [← det_rot x y z]; exact det_sw y z x
theorem prop_sign {p q a b : Int} (hp : 0 < p) (hq : 0 ≤ q) (h : p * a = q * b) : (0 ≤ b → 0 ≤ a) ∧ (b ≤ 0 → a ≤ 0) := by
  have pos : ∀ {a : Int}, 0 ≤ p * a → 0 ≤ a := fun {a} k => by
    rcases Int.lt_trichotomy a 0 with z | z | z
    · have := Int.mul_neg_of_pos_of_neg hp z; omega
    · omega
    · omega
  refine ⟨fun hb => pos (by rw [h]; exact Int.mul_nonneg hq hb), fun hb => ?_⟩
  have : 0 ≤ p * -a := by
    rw [Int.mul_neg, h, ← Int.mul_neg]; exact Int.mul_nonneg hq (by omega)
  have := pos this
  omega
/-- the signs when the point lies on the face of the last three -/
theorem tet_one {x y z u : P3} {α β γ : Int} (h1 : 0 ≤ α) (h2 : 0 ≤ β) (h3 : 0 ≤ γ) (hs : 0 < α + β + γ) (h : ∀ k, α * co k y + β * co k z + γ * co k u = 0) {e0 e1 e2 e3 : Int} (E0 : detP y z u = e0) (E1 : detP x z u = -e1) (E2 : detP x y u = e2) (E3 : detP x y z = -e3) :
    e0 = 0 ∧ ((0 ≤ e1 ∧ 0 ≤ e2 ∧ 0 ≤ e3) ∨ (e1 ≤ 0 ∧ e2 ≤ 0 ∧ e3 ≤ 0)) := by
  have l1 := lin_det (q := z) (r := u) h
  have l2 := lin_det (q := u) (r := y) h
  have l3 := lin_det (q := y) (r := z) h
  have l4 := lin_det (q := x) (r := u) h
  have l5 := lin_det (q := x) (r := z) h
  have l6 := lin_det (q := x) (r := y) h
  rw [(det_self z u).1, (det_self u z).2.1, E0] at l1
  rw [(det_self y u).2.1, (det_self u y).1, det_rot y z u, E0] at l2
  rw [(det_self y z).1, (det_self z y).2.1, ← det_rot u y z, E0] at l3
  rw [det_sw1 x y u, det_sw1 x z u, (det_self u x).2.1, E1, E2] at l4
  rw [det_sw1 x y z, (det_self z x).2.1, ← det_rot u x z, E1, E3] at l5
  rw [(det_self y x).2.1, ← det_rot z x y, ← det_rot u x y, E2, E3] at l6
  clear E0 E1 E2 E3 h
  simp only [Int.mul_zero, Int.add_zero, Int.zero_add, Int.mul_neg, Int.neg_neg] at l1 l2 l3 l4 l5 l6
  have z0 : e0 = 0 := by
    have : (α + β + γ) * e0 = 0 := by rw [Int.add_mul, Int.add_mul]; omega
    rcases Int.mul_eq_zero.mp this with z | z
    · omega
    · exact z
  refine ⟨z0, ?_⟩
  by_cases ha : α = 0
  · subst ha
    by_cases hb : β = 0
    · subst hb
      have p1 := prop_sign (p := γ) (q := 0) (a := e1) (b := 0) (by omega) (by omega) (by omega)
      have p2 := prop_sign (p := γ) (q := 0) (a := e2) (b := 0) (by omega) (by omega) (by omega)
      omega
    · have p1 := prop_sign (p := β) (q := 0) (a := e1) (b := 0) (by omega) (by omega) (by omega)
      have p2 := prop_sign (p := β) (q := γ) (a := e3) (b := e2) (by omega) (by omega) (by omega)
      omega
  · have p1 := prop_sign (p := α) (q := β) (a := e2) (b := e1) (by omega) (by omega) (by omega)
    have p2 := prop_sign (p := α) (q := γ) (a := e3) (b := e1) (by omega) (by omega) (by omega)
    omega
def OnF (p a b c d : P3) : Prop := Tri p 1 b c d ∨ Tri p 1 a c d ∨ Tri p 1 a b d ∨ Tri p 1 a b c
theorem tri_w {p a b c : P3} (h : Tri p 1 a b c) : ∃ α β γ : Int, 0 ≤ α ∧ 0 ≤ β ∧ 0 ≤ γ ∧ 0 < α + β + γ ∧ ∀ k, α * co k (mnP a p) + β * co k (mnP b p) + γ * co k (mnP c p) = 0 := by
  obtain ⟨α, β, γ, h1, h2, h3, h4, h5⟩ := h
  exact ⟨α, β, γ, h1, h2, h3, h4, fun k => by
    have := h5 k
    rw [co_mn, co_mn, co_mn]
    grind⟩
/-- when the point lies on one of the four faces -/
theorem tet_on {p a b c d : P3} {e0 e1 e2 e3 : Int} (E0 : detP (mnP b p) (mnP c p) (mnP d p) = e0) (E1 : detP (mnP a p) (mnP c p) (mnP d p) = -e1) (E2 : detP (mnP a p) (mnP b p) (mnP d p) = e2) (E3 : detP (mnP a p) (mnP b p) (mnP c p) = -e3) (nz : e0 + e1 + e2 + e3 ≠ 0) :
    OnF p a b c d ↔ (e0 = 0 ∨ e1 = 0 ∨ e2 = 0 ∨ e3 = 0) ∧ ((0 ≤ e0 ∧ 0 ≤ e1 ∧ 0 ≤ e2 ∧ 0 ≤ e3) ∨ (e0 ≤ 0 ∧ e1 ≤ 0 ∧ e2 ≤ 0 ∧ e3 ≤ 0)) := by
  constructor
  · rintro (h | h | h | h)
    · obtain ⟨α, β, γ, h1, h2, h3, h4, h5⟩ := tri_w h
      have := tet_one (x := mnP a p) h1 h2 h3 h4 h5 E0 E1 E2 E3
      omega
    · obtain ⟨α, β, γ, h1, h2, h3, h4, h5⟩ := tri_w h
      have := tet_one (x := mnP b p) (e0 := -e1) (e1 := -e0) (e2 := -e2) (e3 := -e3) h1 h2 h3 h4 h5 E1 (by rw [E0]; omega) (by rw [det_sw1, E2]) (by rw [det_sw1, E3])
      omega
    · obtain ⟨α, β, γ, h1, h2, h3, h4, h5⟩ := tri_w h
      have := tet_one (x := mnP c p) (e0 := e2) (e1 := e0) (e2 := e1) (e3 := e3) h1 h2 h3 h4 h5 E2 (by rw [det_sw1, E0]) (by rw [det_sw1, E1]; omega) (by rw [← det_rot, E3])
      omega
    · obtain ⟨α, β, γ, h1, h2, h3, h4, h5⟩ := tri_w h
      have := tet_one (x := mnP d p) (e0 := -e3) (e1 := -e0) (e2 := -e1) (e3 := -e2) h1 h2 h3 h4 h5 E3 (by rw [← det_rot, E0]; omega) (by rw [← det_rot, E1]) (by rw [← det_rot, E2]; omega)
      omega
  · rintro ⟨hz, hs⟩
    have rel := four_rel (mnP a p) (mnP b p) (mnP c p) (mnP d p)
    rw [E0, E1, E2, E3] at rel
    simp only [Int.neg_neg] at rel
    rcases hz with h | h | h | h <;> rcases hs with s | s
    · exact .inl (tri_of (e1 := e1) (e2 := e2) (e3 := e3) (by omega) (by omega) (by omega) (by omega) fun k => by have := rel k; rw [h] at this; grind)
    · exact .inl (tri_of (e1 := -e1) (e2 := -e2) (e3 := -e3) (by omega) (by omega) (by omega) (by omega) fun k => by have := rel k; rw [h] at this; grind)
    · exact .inr (.inl (tri_of (e1 := e0) (e2 := e2) (e3 := e3) (by omega) (by omega) (by omega) (by omega) fun k => by have := rel k; rw [h] at this; grind))
    · exact .inr (.inl (tri_of (e1 := -e0) (e2 := -e2) (e3 := -e3) (by omega) (by omega) (by omega) (by omega) fun k => by have := rel k; rw [h] at this; grind))
    · exact .inr (.inr (.inl (tri_of (e1 := e0) (e2 := e1) (e3 := e3) (by omega) (by omega) (by omega) (by omega) fun k => by have := rel k; rw [h] at this; grind)))
    · exact .inr (.inr (.inl (tri_of (e1 := -e0) (e2 := -e1) (e3 := -e3) (by omega) (by omega) (by omega) (by omega) fun k => by have := rel k; rw [h] at this; grind)))
    · exact .inr (.inr (.inr (tri_of (e1 := e0) (e2 := e1) (e3 := e2) (by omega) (by omega) (by omega) (by omega) fun k => by have := rel k; rw [h] at this; grind)))
    · exact .inr (.inr (.inr (tri_of (e1 := -e0) (e2 := -e1) (e3 := -e2) (by omega) (by omega) (by omega) (by omega) fun k => by have := rel k; rw [h] at this; grind)))
/-! the whole and its parts -/
theorem mn_mn (a b p : P3) : mnP b a = mnP (mnP b p) (mnP a p) := ext3 fun k => by rw [co_mn, co_mn, co_mn, co_mn]; omega
theorem det4_sum (p a b c d : P3) : det4 a b c d = detP (mnP b p) (mnP c p) (mnP d p) + -detP (mnP a p) (mnP c p) (mnP d p) + detP (mnP a p) (mnP b p) (mnP d p) + -detP (mnP a p) (mnP b p) (mnP c p) := by
  unfold det4
  rw [mn_mn a b p, mn_mn a c p, mn_mn a d p]
  generalize mnP a p = x
  generalize mnP b p = y
  generalize mnP c p = z
  generalize mnP d p = u
  obtain ⟨x1, x2, x3⟩ := x
  obtain ⟨y1, y2, y3⟩ := y
  obtain ⟨z1, z2, z3⟩ := z
  obtain ⟨u1, u2, u3⟩ := u
  simp only [detP, dtP, crP, mnP]
  grind
theorem mn_self (p : P3) : mnP p p = (0, 0, 0) := ext3 fun k => by
  rw [co_mn]
  match k with
  | 0 => show p.1 - p.1 = 0; omega
  | 1 => show p.2.1 - p.2.1 = 0; omega
  | k + 2 => show p.2.2 - p.2.2 = 0; omega
theorem det_00 (x y : P3) : detP (0, 0, 0) x y = 0 ∧ detP x (0, 0, 0) y = 0 ∧ detP x y (0, 0, 0) = 0 := by
  obtain ⟨x1, x2, x3⟩ := x
  obtain ⟨y1, y2, y3⟩ := y
  simp only [detP, dtP, crP]
  refine ⟨?_, ?_, ?_⟩ <;> grind
theorem det4_p0 (p b c d : P3) : det4 p b c d = detP (mnP b p) (mnP c p) (mnP d p) := rfl
theorem det4_p1 (p a c d : P3) : det4 a p c d = -detP (mnP a p) (mnP c p) (mnP d p) := by
  rw [det4_sum p a p c d, mn_self, (det_00 _ _).1, (det_00 _ _).2.1, (det_00 _ _).2.1]; omega
theorem det4_p2 (p a b d : P3) : det4 a b p d = detP (mnP a p) (mnP b p) (mnP d p) := by
  rw [det4_sum p a b p d, mn_self, (det_00 _ _).2.1, (det_00 _ _).2.1, (det_00 _ _).2.2]; omega
theorem det4_p3 (p a b c : P3) : det4 a b c p = -detP (mnP a p) (mnP b p) (mnP c p) := by
  rw [det4_sum p a b c p, mn_self, (det_00 _ _).2.2, (det_00 _ _).2.2, (det_00 _ _).2.2]; omega
theorem pasT_flip (p w a b c : P3) : pasT p w a c b = - pasT p w a b c := by
  unfold pasT
  rw [det_sw, Dw_sw w (mnP b p) (mnP c p), Dw_sw w (mnP a p) (mnP b p), Dw_sw w (mnP c p) (mnP a p)]
  generalize detP (mnP a p) (mnP b p) (mnP c p) = d
  generalize Dw w (mnP b p) (mnP c p) = x
  generalize Dw w (mnP a p) (mnP b p) = y
  generalize Dw w (mnP c p) (mnP a p) = z
  unfold pasI
  by_cases h : 0 < d ∧ 0 < x ∧ 0 < z ∧ 0 < y
  · rw [if_pos h, if_neg (by omega), if_pos (by omega)]
  · rw [if_neg h]
    by_cases k : d < 0 ∧ x < 0 ∧ z < 0 ∧ y < 0
    · rw [if_pos k, if_pos (by omega)]; rfl
    · rw [if_neg k, if_neg (by omega), if_neg (by omega)]; rfl
end DL
end
section
set_option Elab.async false
set_option linter.all false
set_option maxRecDepth 100000
set_option maxHeartbeats 4000000
set_option autoImplicit false
namespace DL
variable [TbC]
open PySem
/-! ### a way out of a box -/
/-- a side at v, with the other two spans -/
def hitI (v l h l' h' : Int) : Int := if 0 < v ∧ l < v ∧ v < h ∧ l' < v ∧ v < h' then 1 else 0
theorem exits {a0 b0 a1 b1 a2 b2 : Int} (o0 : a0 ≤ b0) (o1 : a1 ≤ b1) (o2 : a2 ≤ b2)
    (t2 : a0 = b1 → a0 = 0) (t4 : a0 = b2 → a0 = 0) (t5 : b0 = a1 → b0 = 0) (t6 : b0 = b1 → b0 = 0) (t7 : b0 = a2 → b0 = 0) (t8 : b0 = b2 → b0 = 0) (t10 : a1 = b2 → a1 = 0) (t11 : b1 = a2 → b1 = 0) (t12 : b1 = b2 → b1 = 0) :
    hitI b0 a1 b1 a2 b2 + hitI b1 a2 b2 a0 b0 + hitI b2 a0 b0 a1 b1 = if (0 < b0 ∧ 0 < b1 ∧ 0 < b2) ∧ a0 < b1 ∧ a0 < b2 ∧ a1 < b0 ∧ a1 < b2 ∧ a2 < b0 ∧ a2 < b1 then 1 else 0 := by
  unfold hitI
  by_cases c : (0 < b0 ∧ 0 < b1 ∧ 0 < b2) ∧ a0 < b1 ∧ a0 < b2 ∧ a1 < b0 ∧ a1 < b2 ∧ a2 < b0 ∧ a2 < b1
  · rw [if_pos c]
    by_cases x : b0 < b1 ∧ b0 < b2
    · rw [if_pos (show 0 < b0 ∧ a1 < b0 ∧ b0 < b1 ∧ a2 < b0 ∧ b0 < b2 by omega), if_neg (show ¬ (0 < b1 ∧ a2 < b1 ∧ b1 < b2 ∧ a0 < b1 ∧ b1 < b0) by omega), if_neg (show ¬ (0 < b2 ∧ a0 < b2 ∧ b2 < b0 ∧ a1 < b2 ∧ b2 < b1) by omega)]
      rfl
    · by_cases y : b1 < b2
      · rw [if_neg (show ¬ (0 < b0 ∧ a1 < b0 ∧ b0 < b1 ∧ a2 < b0 ∧ b0 < b2) by omega), if_pos (show 0 < b1 ∧ a2 < b1 ∧ b1 < b2 ∧ a0 < b1 ∧ b1 < b0 by omega), if_neg (show ¬ (0 < b2 ∧ a0 < b2 ∧ b2 < b0 ∧ a1 < b2 ∧ b2 < b1) by omega)]
        rfl
      · rw [if_neg (show ¬ (0 < b0 ∧ a1 < b0 ∧ b0 < b1 ∧ a2 < b0 ∧ b0 < b2) by omega), if_neg (show ¬ (0 < b1 ∧ a2 < b1 ∧ b1 < b2 ∧ a0 < b1 ∧ b1 < b0) by omega), if_pos (show 0 < b2 ∧ a0 < b2 ∧ b2 < b0 ∧ a1 < b2 ∧ b2 < b1 by omega)]
        rfl
  · rw [if_neg c, if_neg (show ¬ (0 < b0 ∧ a1 < b0 ∧ b0 < b1 ∧ a2 < b0 ∧ b0 < b2) by omega), if_neg (show ¬ (0 < b1 ∧ a2 < b1 ∧ b1 < b2 ∧ a0 < b1 ∧ b1 < b0) by omega), if_neg (show ¬ (0 < b2 ∧ a0 < b2 ∧ b2 < b0 ∧ a1 < b2 ∧ b2 < b1) by omega)]
    rfl
theorem enters {a0 b0 a1 b1 a2 b2 : Int} (o0 : a0 ≤ b0) (o1 : a1 ≤ b1) (o2 : a2 ≤ b2)
    (t1 : a0 = a1 → a0 = 0) (t2 : a0 = b1 → a0 = 0) (t3 : a0 = a2 → a0 = 0) (t4 : a0 = b2 → a0 = 0) (t5 : b0 = a1 → b0 = 0) (t7 : b0 = a2 → b0 = 0) (t9 : a1 = a2 → a1 = 0) (t10 : a1 = b2 → a1 = 0) (t11 : b1 = a2 → b1 = 0) :
    hitI a0 a1 b1 a2 b2 + hitI a1 a2 b2 a0 b0 + hitI a2 a0 b0 a1 b1 = if (0 < a0 ∨ 0 < a1 ∨ 0 < a2) ∧ a0 < b1 ∧ a0 < b2 ∧ a1 < b0 ∧ a1 < b2 ∧ a2 < b0 ∧ a2 < b1 then 1 else 0 := by
  unfold hitI
  by_cases c : (0 < a0 ∨ 0 < a1 ∨ 0 < a2) ∧ a0 < b1 ∧ a0 < b2 ∧ a1 < b0 ∧ a1 < b2 ∧ a2 < b0 ∧ a2 < b1
  · rw [if_pos c]
    by_cases x : a1 < a0 ∧ a2 < a0
    · rw [if_pos (show 0 < a0 ∧ a1 < a0 ∧ a0 < b1 ∧ a2 < a0 ∧ a0 < b2 by omega), if_neg (show ¬ (0 < a1 ∧ a2 < a1 ∧ a1 < b2 ∧ a0 < a1 ∧ a1 < b0) by omega), if_neg (show ¬ (0 < a2 ∧ a0 < a2 ∧ a2 < b0 ∧ a1 < a2 ∧ a2 < b1) by omega)]
      rfl
    · by_cases y : a2 < a1
      · rw [if_neg (show ¬ (0 < a0 ∧ a1 < a0 ∧ a0 < b1 ∧ a2 < a0 ∧ a0 < b2) by omega), if_pos (show 0 < a1 ∧ a2 < a1 ∧ a1 < b2 ∧ a0 < a1 ∧ a1 < b0 by omega), if_neg (show ¬ (0 < a2 ∧ a0 < a2 ∧ a2 < b0 ∧ a1 < a2 ∧ a2 < b1) by omega)]
        rfl
      · rw [if_neg (show ¬ (0 < a0 ∧ a1 < a0 ∧ a0 < b1 ∧ a2 < a0 ∧ a0 < b2) by omega), if_neg (show ¬ (0 < a1 ∧ a2 < a1 ∧ a1 < b2 ∧ a0 < a1 ∧ a1 < b0) by omega), if_pos (show 0 < a2 ∧ a0 < a2 ∧ a2 < b0 ∧ a1 < a2 ∧ a2 < b1 by omega)]
        rfl
  · rw [if_neg c, if_neg (show ¬ (0 < a0 ∧ a1 < a0 ∧ a0 < b1 ∧ a2 < a0 ∧ a0 < b2) by omega), if_neg (show ¬ (0 < a1 ∧ a2 < a1 ∧ a1 < b2 ∧ a0 < a1 ∧ a1 < b0) by omega), if_neg (show ¬ (0 < a2 ∧ a0 < a2 ∧ a2 < b0 ∧ a1 < a2 ∧ a2 < b1) by omega)]
    rfl
/-- a way that goes out once more than it goes in starts within -/
theorem slab {a0 b0 a1 b1 a2 b2 : Int} (o0 : a0 ≤ b0) (o1 : a1 ≤ b1) (o2 : a2 ≤ b2)
    (t1 : a0 = a1 → a0 = 0) (t2 : a0 = b1 → a0 = 0) (t3 : a0 = a2 → a0 = 0) (t4 : a0 = b2 → a0 = 0)
    (t5 : b0 = a1 → b0 = 0) (t6 : b0 = b1 → b0 = 0) (t7 : b0 = a2 → b0 = 0) (t8 : b0 = b2 → b0 = 0)
    (t9 : a1 = a2 → a1 = 0) (t10 : a1 = b2 → a1 = 0) (t11 : b1 = a2 → b1 = 0) (t12 : b1 = b2 → b1 = 0)
    (off : ¬ (a0 ≤ 0 ∧ 0 ≤ b0 ∧ a1 ≤ 0 ∧ 0 ≤ b1 ∧ a2 ≤ 0 ∧ 0 ≤ b2 ∧ (a0 = 0 ∨ b0 = 0 ∨ a1 = 0 ∨ b1 = 0 ∨ a2 = 0 ∨ b2 = 0))) :
    (hitI b0 a1 b1 a2 b2 + hitI b1 a2 b2 a0 b0 + hitI b2 a0 b0 a1 b1) - (hitI a0 a1 b1 a2 b2 + hitI a1 a2 b2 a0 b0 + hitI a2 a0 b0 a1 b1) = if a0 < 0 ∧ 0 < b0 ∧ a1 < 0 ∧ 0 < b1 ∧ a2 < 0 ∧ 0 < b2 then 1 else 0 := by
  rw [exits o0 o1 o2 t2 t4 t5 t6 t7 t8 t10 t11 t12, enters o0 o1 o2 t1 t2 t3 t4 t5 t7 t9 t10 t11]
  by_cases c : a0 < 0 ∧ 0 < b0 ∧ a1 < 0 ∧ 0 < b1 ∧ a2 < 0 ∧ 0 < b2
  · rw [if_pos c, if_pos (by omega), if_neg (by omega)]; rfl
  · rw [if_neg c]
    by_cases d : (0 < b0 ∧ 0 < b1 ∧ 0 < b2) ∧ a0 < b1 ∧ a0 < b2 ∧ a1 < b0 ∧ a1 < b2 ∧ a2 < b0 ∧ a2 < b1
    · rw [if_pos d, if_pos (by omega)]; rfl
    · rw [if_neg d, if_neg (by omega)]; rfl
end DL
end
section
set_option Elab.async false
set_option linter.all false
set_option maxRecDepth 100000
set_option maxHeartbeats 4000000
set_option autoImplicit false
namespace DL
variable [TbC]
open PySem
/-! ### the two halves of a side -/
theorem pos_mul {p x : Int} (hp : 0 < p) : (0 < x ↔ 0 < p * x) ∧ (x < 0 ↔ p * x < 0) := by
  rcases Int.lt_trichotomy x 0 with h | h | h
  · have := Int.mul_neg_of_pos_of_neg hp h; omega
  · subst h; rw [Int.mul_zero]; omega
  · have := Int.mul_pos hp h; omega
theorem rect0 {v l1 h1 l2 h2 w0 w1 w2 : Int} (hw0 : 0 < w0) (o1 : l1 ≤ h1) (o2 : l2 ≤ h2) (gen : Dw (w0, w1, w2) (v, h1, h2) (v, l1, l2) = 0 → crP (v, h1, h2) (v, l1, l2) = (0, 0, 0)) :
    pasI (detP (v, l1, l2) (v, h1, l2) (v, h1, h2)) (Dw (w0, w1, w2) (v, h1, l2) (v, h1, h2)) (Dw (w0, w1, w2) (v, h1, h2) (v, l1, l2)) (Dw (w0, w1, w2) (v, l1, l2) (v, h1, l2)) +
    pasI (detP (v, l1, l2) (v, h1, h2) (v, l1, h2)) (Dw (w0, w1, w2) (v, h1, h2) (v, l1, h2)) (Dw (w0, w1, w2) (v, l1, h2) (v, l1, l2)) (Dw (w0, w1, w2) (v, l1, l2) (v, h1, h2))
      = if 0 < v ∧ l1 * w0 < v * w1 ∧ v * w1 < h1 * w0 ∧ l2 * w0 < v * w2 ∧ v * w2 < h2 * w0 then 1 else 0 := by
  have e1 : detP (v, l1, l2) (v, h1, l2) (v, h1, h2) = v * ((h1 - l1) * (h2 - l2)) := by simp only [detP, dtP, crP]; grind
  have e2 : detP (v, l1, l2) (v, h1, h2) (v, l1, h2) = v * ((h1 - l1) * (h2 - l2)) := by simp only [detP, dtP, crP]; grind
  have d1 : Dw (w0, w1, w2) (v, h1, l2) (v, h1, h2) = (h2 - l2) * (h1 * w0 - v * w1) := by simp only [Dw, dtP, crP]; grind
  have d2 : Dw (w0, w1, w2) (v, l1, l2) (v, h1, l2) = (h1 - l1) * (v * w2 - l2 * w0) := by simp only [Dw, dtP, crP]; grind
  have d3 : Dw (w0, w1, w2) (v, h1, h2) (v, l1, h2) = (h1 - l1) * (h2 * w0 - v * w2) := by simp only [Dw, dtP, crP]; grind
  have d4 : Dw (w0, w1, w2) (v, l1, h2) (v, l1, l2) = (h2 - l2) * (v * w1 - l1 * w0) := by simp only [Dw, dtP, crP]; grind
  have q1 : Dw (w0, w1, w2) (v, h1, h2) (v, l1, l2) = (h1 - l1) * (h2 * w0 - v * w2) - (h2 - l2) * (h1 * w0 - v * w1) := by simp only [Dw, dtP, crP]; grind
  have q2 : (h1 - l1) * (h2 * w0 - v * w2) - (h2 - l2) * (h1 * w0 - v * w1) = (h2 - l2) * (v * w1 - l1 * w0) - (h1 - l1) * (v * w2 - l2 * w0) := by grind
  have q3 : Dw (w0, w1, w2) (v, l1, l2) (v, h1, h2) = - Dw (w0, w1, w2) (v, h1, h2) (v, l1, l2) := Dw_sw _ _ _
  have s1 : (v * w1 - l1 * w0) + (h1 * w0 - v * w1) = (h1 - l1) * w0 := by grind
  have s2 : (v * w2 - l2 * w0) + (h2 * w0 - v * w2) = (h2 - l2) * w0 := by grind
  have gz : Dw (w0, w1, w2) (v, h1, h2) (v, l1, l2) = 0 → v ≠ 0 → h1 = l1 ∧ h2 = l2 := fun h hv => by
    have := gen h
    simp only [crP, Prod.mk.injEq] at this
    obtain ⟨_, t2, t3⟩ := this
    have u1 : v * (h2 - l2) = 0 := by grind
    have u2 : v * (h1 - l1) = 0 := by grind
    rcases Int.mul_eq_zero.mp u1 with z | z
    · exact absurd z hv
    · rcases Int.mul_eq_zero.mp u2 with y | y
      · exact absurd y hv
      · omega
  rw [e1, e2, q3, d1, d2, d3, d4]
  rw [q1] at gz ⊢
  clear e1 e2 d1 d2 d3 d4 q1 q3 gen
  generalize hA1 : v * w1 - l1 * w0 = A1 at *
  generalize hB1 : h1 * w0 - v * w1 = B1 at *
  generalize hA2 : v * w2 - l2 * w0 = A2 at *
  generalize hB2 : h2 * w0 - v * w2 = B2 at *
  have c1 : (l1 * w0 < v * w1 ↔ 0 < A1) ∧ (v * w1 < h1 * w0 ↔ 0 < B1) ∧ (l2 * w0 < v * w2 ↔ 0 < A2) ∧ (v * w2 < h2 * w0 ↔ 0 < B2) := by omega
  obtain ⟨c1, c2, c3, c4⟩ := c1
  simp only [c1, c2, c3, c4]
  clear c1 c2 c3 c4 hA1 hB1 hA2 hB2
  generalize hx : h1 - l1 = x at *
  generalize hy : h2 - l2 = y at *
  have x0 : 0 ≤ x := by omega
  have y0 : 0 ≤ y := by omega
  unfold pasI
  by_cases zx : x = 0
  · subst zx
    simp only [Int.zero_mul, Int.mul_zero] at *
    rw [if_neg (by omega), if_neg (by omega), if_neg (by omega), if_neg (by omega), if_neg (by omega)]; rfl
  by_cases zy : y = 0
  · subst zy
    simp only [Int.zero_mul, Int.mul_zero] at *
    rw [if_neg (by omega), if_neg (by omega), if_neg (by omega), if_neg (by omega), if_neg (by omega)]; rfl
  have xp : 0 < x := by omega
  have yp : 0 < y := by omega
  have xy := Int.mul_pos xp yp
  have det := pos_mul (x := v) xy
  rw [Int.mul_comm v]
  have p1 := pos_mul (x := B1) yp
  have p2 := pos_mul (x := A2) xp
  have p3 := pos_mul (x := B2) xp
  have p4 := pos_mul (x := A1) yp
  have xw := Int.mul_pos xp hw0
  have yw := Int.mul_pos yp hw0
  have gz' : x * B2 - y * B1 = 0 → v ≠ 0 → False := fun a b => by have := gz a b; omega
  have sA : x * A2 + x * B2 = x * (y * w0) := by rw [← Int.mul_add, s2]
  have sxyw := Int.mul_pos xp yw
  clear gz
  generalize x * y * v = d at *
  generalize y * B1 = P1 at *
  generalize x * A2 = P2 at *
  generalize x * B2 = P3 at *
  generalize y * A1 = P4 at *
  generalize x * (y * w0) = T at *
  by_cases hv : 0 < v
  · have ne : P3 - P1 ≠ 0 := fun z => gz' z (by omega)
    by_cases hq : 0 < P3 - P1
    · by_cases hh : 0 < A1 ∧ 0 < B1 ∧ 0 < A2 ∧ 0 < B2
      · rw [if_pos (by omega), if_neg (by omega), if_neg (by omega), if_pos (by omega)]; rfl
      · rw [if_neg (by omega), if_neg (by omega), if_neg (by omega), if_neg (by omega), if_neg (by omega)]; rfl
    · by_cases hh : 0 < A1 ∧ 0 < B1 ∧ 0 < A2 ∧ 0 < B2
      · rw [if_neg (by omega), if_neg (by omega), if_pos (by omega), if_pos (by omega)]; rfl
      · rw [if_neg (by omega), if_neg (by omega), if_neg (by omega), if_neg (by omega), if_neg (by omega)]; rfl
  · rw [if_neg (by omega), if_neg (by omega), if_neg (by omega), if_neg (by omega), if_neg (by omega)]; rfl
end DL
end
section
set_option Elab.async false
set_option linter.all false
set_option maxRecDepth 100000
set_option maxHeartbeats 4000000
set_option autoImplicit false
namespace DL
variable [TbC]
open PySem
/-! ### the skin of a box, and a way -/
def rhoP (p : P3) : P3 := (p.2.1, p.2.2, p.1)
def pasR (w x y z : P3) : Int := pasI (detP x y z) (Dw w y z) (Dw w z x) (Dw w x y)
theorem det_rho (x y z : P3) : detP (rhoP x) (rhoP y) (rhoP z) = detP x y z := by
  obtain ⟨x1, x2, x3⟩ := x
  obtain ⟨y1, y2, y3⟩ := y
  obtain ⟨z1, z2, z3⟩ := z
  simp only [detP, dtP, crP, rhoP]
  grind
theorem Dw_rho (w x y : P3) : Dw (rhoP w) (rhoP x) (rhoP y) = Dw w x y := det_rho w x y
theorem cr_rho0 {x y : P3} (h : crP x y = (0, 0, 0)) : crP (rhoP x) (rhoP y) = (0, 0, 0) := by
  obtain ⟨x1, x2, x3⟩ := x
  obtain ⟨y1, y2, y3⟩ := y
  simp only [crP, rhoP, Prod.mk.injEq] at *
  obtain ⟨h1, h2, h3⟩ := h
  exact ⟨h2, h3, h1⟩
theorem pasR_rho (w x y z : P3) : pasR (rhoP w) (rhoP x) (rhoP y) (rhoP z) = pasR w x y z := by
  unfold pasR
  rw [det_rho, Dw_rho, Dw_rho, Dw_rho]
theorem pasR_flip (w x y z : P3) : pasR w x z y = - pasR w x y z := by
  have := pasT_flip (0, 0, 0) w x y z
  have e : ∀ v : P3, mnP v (0, 0, 0) = v := fun v => ext3 fun k => by
    rw [co_mn]
    match k with
    | 0 => show v.1 - 0 = v.1; omega
    | 1 => show v.2.1 - 0 = v.2.1; omega
    | k + 2 => show v.2.2 - 0 = v.2.2; omega
  unfold pasT at this
  rw [e, e, e] at this
  exact this
theorem cor_mn (l h p : P3) (i : C8) : mnP (corB l h i) p = corB (mnP l p) (mnP h p) i := by
  obtain ⟨a, b, c⟩ := i
  cases a <;> cases b <;> cases c <;> rfl
def sideI (w0 w1 w2 v l1 h1 l2 h2 : Int) : Int := if 0 < v ∧ l1 * w0 < v * w1 ∧ v * w1 < h1 * w0 ∧ l2 * w0 < v * w2 ∧ v * w2 < h2 * w0 then 1 else 0
/-- the two halves of a side, on any axis -/
theorem side_0 {w L H : P3} (g : ∀ i j : C8, Dw w (corB L H i) (corB L H j) = 0 → crP (corB L H i) (corB L H j) = (0, 0, 0)) (w0 : 0 < w.1) (o1 : L.2.1 ≤ H.2.1) (o2 : L.2.2 ≤ H.2.2) (σ : Bool) :
    pasR w (corB L H (σ, false, false)) (corB L H (σ, true, false)) (corB L H (σ, true, true)) + pasR w (corB L H (σ, false, false)) (corB L H (σ, true, true)) (corB L H (σ, false, true)) = sideI w.1 w.2.1 w.2.2 (if σ then H.1 else L.1) L.2.1 H.2.1 L.2.2 H.2.2 :=
  rect0 (v := if σ then H.1 else L.1) w0 o1 o2 (g (σ, true, true) (σ, false, false))
theorem side_1 {w L H : P3} (g : ∀ i j : C8, Dw w (corB L H i) (corB L H j) = 0 → crP (corB L H i) (corB L H j) = (0, 0, 0)) (w0 : 0 < w.2.1) (o1 : L.2.2 ≤ H.2.2) (o2 : L.1 ≤ H.1) (σ : Bool) :
    pasR w (corB L H (false, σ, false)) (corB L H (false, σ, true)) (corB L H (true, σ, true)) + pasR w (corB L H (false, σ, false)) (corB L H (true, σ, true)) (corB L H (true, σ, false)) = sideI w.2.1 w.2.2 w.1 (if σ then H.2.1 else L.2.1) L.2.2 H.2.2 L.1 H.1 := by
  rw [← pasR_rho, ← pasR_rho w (corB L H (false, σ, false)) (corB L H (true, σ, true))]
  exact rect0 (v := if σ then H.2.1 else L.2.1) w0 o1 o2 fun z => cr_rho0 (g (true, σ, true) (false, σ, false) (by rw [← Dw_rho]; exact z))
theorem side_2 {w L H : P3} (g : ∀ i j : C8, Dw w (corB L H i) (corB L H j) = 0 → crP (corB L H i) (corB L H j) = (0, 0, 0)) (w0 : 0 < w.2.2) (o1 : L.1 ≤ H.1) (o2 : L.2.1 ≤ H.2.1) (σ : Bool) :
    pasR w (corB L H (false, false, σ)) (corB L H (true, false, σ)) (corB L H (true, true, σ)) + pasR w (corB L H (false, false, σ)) (corB L H (true, true, σ)) (corB L H (false, true, σ)) = sideI w.2.2 w.1 w.2.1 (if σ then H.2.2 else L.2.2) L.1 H.1 L.2.1 H.2.1 := by
  rw [← pasR_rho, ← pasR_rho w (corB L H (false, false, σ)) (corB L H (true, true, σ)), ← pasR_rho (rhoP w), ← pasR_rho (rhoP w) (rhoP (corB L H (false, false, σ))) (rhoP (corB L H (true, true, σ)))]
  exact rect0 (v := if σ then H.2.2 else L.2.2) w0 o1 o2 fun z => cr_rho0 (cr_rho0 (g (true, true, σ) (false, false, σ) (by rw [← Dw_rho, ← Dw_rho]; exact z)))
/-- all twelve -/
def outI (w L H : P3) : Int := (sideI w.1 w.2.1 w.2.2 H.1 L.2.1 H.2.1 L.2.2 H.2.2 + sideI w.2.1 w.2.2 w.1 H.2.1 L.2.2 H.2.2 L.1 H.1 + sideI w.2.2 w.1 w.2.1 H.2.2 L.1 H.1 L.2.1 H.2.1) - (sideI w.1 w.2.1 w.2.2 L.1 L.2.1 H.2.1 L.2.2 H.2.2 + sideI w.2.1 w.2.2 w.1 L.2.1 L.2.2 H.2.2 L.1 H.1 + sideI w.2.2 w.1 w.2.1 L.2.2 L.1 H.1 L.2.1 H.2.1)
theorem windT_R (p w l h : P3) (ab : Bool) : windT p w (skinT ab l h) = ((skinI ab).map fun t => pasR w (corB (mnP l p) (mnP h p) t.1) (corB (mnP l p) (mnP h p) t.2.1) (corB (mnP l p) (mnP h p) t.2.2)).sum := by
  unfold windT skinT
  rw [List.map_map]
  congr 1
  refine List.map_congr_left fun t _ => ?_
  show pasT p w (corB l h t.1) (corB l h t.2.1) (corB l h t.2.2) = _
  unfold pasT pasR
  rw [cor_mn, cor_mn, cor_mn]
theorem skin_out {p w l h : P3} (g : ∀ i j : C8, Dw w (corB (mnP l p) (mnP h p) i) (corB (mnP l p) (mnP h p) j) = 0 → crP (corB (mnP l p) (mnP h p) i) (corB (mnP l p) (mnP h p) j) = (0, 0, 0)) (w0 : 0 < w.1) (w1 : 0 < w.2.1) (w2 : 0 < w.2.2)
    (o0 : l.1 ≤ h.1) (o1 : l.2.1 ≤ h.2.1) (o2 : l.2.2 ≤ h.2.2) (ab : Bool) : windT p w (skinT ab l h) = (if ab then -1 else 1) * outI w (mnP l p) (mnP h p) := by
  rw [windT_R]
  have p0 : (mnP l p).1 ≤ (mnP h p).1 := by show l.1 - p.1 ≤ h.1 - p.1; omega
  have p1 : (mnP l p).2.1 ≤ (mnP h p).2.1 := by show l.2.1 - p.2.1 ≤ h.2.1 - p.2.1; omega
  have p2 : (mnP l p).2.2 ≤ (mnP h p).2.2 := by show l.2.2 - p.2.2 ≤ h.2.2 - p.2.2; omega
  generalize mnP l p = L at *
  generalize mnP h p = H at *
  have a0 := side_0 g w0 p1 p2 false
  have a1 := side_0 g w0 p1 p2 true
  have b0 := side_1 g w1 p2 p0 false
  have b1 := side_1 g w1 p2 p0 true
  have c0 := side_2 g w2 p0 p1 false
  have c1 := side_2 g w2 p0 p1 true
  simp only [if_true, Bool.false_eq_true, if_false] at a0 a1 b0 b1 c0 c1
  have fl := pasR_flip w
  unfold outI
  rw [← a0, ← a1, ← b0, ← b1, ← c0, ← c1]
  cases ab
  · simp only [skinI, List.map_cons, List.map_nil, List.sum_cons, List.sum_nil, Bool.false_eq_true, if_false]
    have f1 := fl (corB L H (false, false, false)) (corB L H (false, true, false)) (corB L H (false, true, true))
    have f2 := fl (corB L H (false, false, false)) (corB L H (false, true, true)) (corB L H (false, false, true))
    have f3 := fl (corB L H (false, false, false)) (corB L H (false, false, true)) (corB L H (true, false, true))
    have f4 := fl (corB L H (false, false, false)) (corB L H (true, false, true)) (corB L H (true, false, false))
    have f5 := fl (corB L H (false, false, false)) (corB L H (true, false, false)) (corB L H (true, true, false))
    have f6 := fl (corB L H (false, false, false)) (corB L H (true, true, false)) (corB L H (false, true, false))
    omega
  · simp only [skinI, List.map_cons, List.map_nil, List.sum_cons, List.sum_nil, if_true]
    have f1 := fl (corB L H (true, false, false)) (corB L H (true, true, false)) (corB L H (true, true, true))
    have f2 := fl (corB L H (true, false, false)) (corB L H (true, true, true)) (corB L H (true, false, true))
    have f3 := fl (corB L H (false, true, false)) (corB L H (false, true, true)) (corB L H (true, true, true))
    have f4 := fl (corB L H (false, true, false)) (corB L H (true, true, true)) (corB L H (true, true, false))
    have f5 := fl (corB L H (false, false, true)) (corB L H (true, false, true)) (corB L H (true, true, true))
    have f6 := fl (corB L H (false, false, true)) (corB L H (true, true, true)) (corB L H (false, true, true))
    omega
end DL
end
section
set_option Elab.async false
set_option linter.all false
set_option maxRecDepth 100000
set_option maxHeartbeats 4000000
set_option autoImplicit false
namespace DL
variable [TbC]
open PySem
theorem lt_scale {k x y : Int} (hk : 0 < k) : x < y ↔ x * k < y * k := by
  have := (pos_mul (x := y - x) hk).1
  have e : k * (y - x) = y * k - x * k := by grind
  rw [e] at this
  omega
theorem tie_s {s x y : Int} (hs : 1 < s) (hy : y < s ∧ -y < s) (h : x * s = y) : x = 0 := by
  rcases Int.lt_trichotomy x 0 with z | z | z
  · have : x * s ≤ -1 * s := Int.mul_le_mul_of_nonneg_right (by omega) (by omega)
    omega
  · exact z
  · have : 1 * s ≤ x * s := Int.mul_le_mul_of_nonneg_right (by omega) (by omega)
    omega
theorem sideI_hit {w0 w1 w2 v l1 h1 l2 h2 : Int} (p0 : 0 < w0) (p1 : 0 < w1) (p2 : 0 < w2) : sideI w0 w1 w2 v l1 h1 l2 h2 = hitI (v * (w1 * w2)) (l1 * (w2 * w0)) (h1 * (w2 * w0)) (l2 * (w0 * w1)) (h2 * (w0 * w1)) := by
  unfold sideI hitI
  have c0 : 0 < v ↔ 0 < v * (w1 * w2) := by rw [lt_scale (Int.mul_pos p1 p2), Int.zero_mul]
  have c1 : l1 * w0 < v * w1 ↔ l1 * (w2 * w0) < v * (w1 * w2) := by
    rw [lt_scale p2, show l1 * w0 * w2 = l1 * (w2 * w0) by grind, show v * w1 * w2 = v * (w1 * w2) by grind]
  have c2 : v * w1 < h1 * w0 ↔ v * (w1 * w2) < h1 * (w2 * w0) := by
    rw [lt_scale p2, show h1 * w0 * w2 = h1 * (w2 * w0) by grind, show v * w1 * w2 = v * (w1 * w2) by grind]
  have c3 : l2 * w0 < v * w2 ↔ l2 * (w0 * w1) < v * (w1 * w2) := by
    rw [lt_scale p1, show l2 * w0 * w1 = l2 * (w0 * w1) by grind, show v * w2 * w1 = v * (w1 * w2) by grind]
  have c4 : v * w2 < h2 * w0 ↔ v * (w1 * w2) < h2 * (w0 * w1) := by
    rw [lt_scale p1, show h2 * w0 * w1 = h2 * (w0 * w1) by grind, show v * w2 * w1 = v * (w1 * w2) by grind]
  simp only [c0, c1, c2, c3, c4]
/-- the way goes out once more than in, just if it starts within -/
theorem outI_eq {s : Int} {L H : P3} (hs : 1 < s) (bL : ∀ k, co k L < s ∧ -(co k L) < s) (bH : ∀ k, co k H < s ∧ -(co k H) < s) (o0 : L.1 ≤ H.1) (o1 : L.2.1 ≤ H.2.1) (o2 : L.2.2 ≤ H.2.2)
    (off : ¬ (L.1 ≤ 0 ∧ 0 ≤ H.1 ∧ L.2.1 ≤ 0 ∧ 0 ≤ H.2.1 ∧ L.2.2 ≤ 0 ∧ 0 ≤ H.2.2 ∧ (L.1 = 0 ∨ H.1 = 0 ∨ L.2.1 = 0 ∨ H.2.1 = 0 ∨ L.2.2 = 0 ∨ H.2.2 = 0))) :
    outI (1, s, s * s) L H = if L.1 < 0 ∧ 0 < H.1 ∧ L.2.1 < 0 ∧ 0 < H.2.1 ∧ L.2.2 < 0 ∧ 0 < H.2.2 then 1 else 0 := by
  have s0 : 0 < s := by omega
  have s2 : 0 < s * s := Int.mul_pos s0 s0
  have s3 : 0 < s * (s * s) := Int.mul_pos s0 s2
  have ss : s * 1 < s * s := by rw [Int.mul_comm s 1]; exact (lt_scale s0).mp hs
  have x0 := bL 0
  have x1 := bL 1
  have x2 := bL 2
  have y0 := bH 0
  have y1 := bH 1
  have y2 := bH 2
  obtain ⟨l0, l1, l2⟩ := L
  obtain ⟨h0, h1, h2⟩ := H
  simp only [co] at x0 x1 x2 y0 y1 y2
  simp only at o0 o1 o2 off
  have z1 : ∀ {x y : Int}, (y < s ∧ -y < s) → x * (s * (s * s)) = y * (s * s * 1) → x * (s * (s * s)) = 0 := fun {x y} hy h => by
    have : x * s = y := by
      have e : (x * s - y) * (s * s) = 0 := by grind
      rcases Int.mul_eq_zero.mp e with z | z <;> omega
    rw [tie_s hs hy this, Int.zero_mul]
  have z2 : ∀ {x y : Int}, (y < s ∧ -y < s) → x * (s * (s * s)) = y * (1 * s) → x * (s * (s * s)) = 0 := fun {x y} hy h => by
    have : x * (s * s) = y := by
      have e : (x * (s * s) - y) * s = 0 := by grind
      rcases Int.mul_eq_zero.mp e with z | z <;> omega
    have hx : x * s * s = y := by rw [← this]; grind
    have := tie_s hs hy hx
    rcases Int.mul_eq_zero.mp this with z | z
    · rw [z, Int.zero_mul]
    · omega
  have z3 : ∀ {x y : Int}, (y < s ∧ -y < s) → x * (s * s * 1) = y * (1 * s) → x * (s * s * 1) = 0 := fun {x y} hy h => by
    have : x * s = y := by
      have e : (x * s - y) * s = 0 := by grind
      rcases Int.mul_eq_zero.mp e with z | z <;> omega
    rw [tie_s hs hy this, Int.zero_mul]
  have sg0 : ∀ {k x : Int}, 0 < k → (x ≤ 0 ↔ x * k ≤ 0) ∧ (0 ≤ x ↔ 0 ≤ x * k) ∧ (x = 0 ↔ x * k = 0) ∧ (x < 0 ↔ x * k < 0) ∧ (0 < x ↔ 0 < x * k) := fun {k x} hk => by
    have := pos_mul (x := x) hk
    rw [Int.mul_comm k x] at this
    omega
  unfold outI
  simp only
  rw [sideI_hit (by decide) s0 s2, sideI_hit s0 s2 (by decide), sideI_hit s2 (by decide) s0, sideI_hit (by decide) s0 s2, sideI_hit s0 s2 (by decide), sideI_hit s2 (by decide) s0]
  have k1 : 0 < s * s * 1 := by omega
  have k2 : 0 < 1 * s := by omega
  have q0 := sg0 (x := l0) s3
  have q1 := sg0 (x := h0) s3
  have q2 := sg0 (x := l1) k1
  have q3 := sg0 (x := h1) k1
  have q4 := sg0 (x := l2) k2
  have q5 := sg0 (x := h2) k2
  have m0 := Int.mul_le_mul_of_nonneg_right o0 (Int.le_of_lt s3)
  have m1 := Int.mul_le_mul_of_nonneg_right o1 (Int.le_of_lt k1)
  have m2 := Int.mul_le_mul_of_nonneg_right o2 (Int.le_of_lt k2)
  have := slab m0 m1 m2 (z1 x1) (z1 y1) (z2 x2) (z2 y2) (z1 x1) (z1 y1) (z2 x2) (z2 y2) (z3 x2) (z3 y2) (z3 x2) (z3 y2) (by omega)
  refine Eq.trans ?_ (this.trans ?_)
  · rfl
  · by_cases c : l0 < 0 ∧ 0 < h0 ∧ l1 < 0 ∧ 0 < h1 ∧ l2 < 0 ∧ 0 < h2
    · rw [if_pos c, if_pos (by omega)]
    · rw [if_neg c, if_neg (by omega)]
end DL
end
section
set_option Elab.async false
set_option linter.all false
set_option maxRecDepth 100000
set_option maxHeartbeats 4000000
set_option autoImplicit false
namespace DL
variable [TbC]
open PySem
/-! ### a box's sides -/
def bxP (l h : P3) (σ : Nat) : P3 := if σ = 0 then l else h
def corP (l h : P3) (k σ o1 o2 : Nat) : P3 :=
  if k = 0 then ((bxP l h σ).1, (bxP l h o1).2.1, (bxP l h o2).2.2)
  else if k = 1 then ((bxP l h o2).1, (bxP l h σ).2.1, (bxP l h o1).2.2)
  else ((bxP l h o1).1, (bxP l h o2).2.1, (bxP l h σ).2.2)
/-- a place in a rectangle is in one of its halves -/
theorem rect {m li hi lj hj x y : Int} (hm : 0 < m) (h1 : li ≤ hi) (h2 : lj ≤ hj) (x1 : li * m ≤ x) (x2 : x ≤ hi * m) (y1 : lj * m ≤ y) (y2 : y ≤ hj * m) :
    (∃ α β γ : Int, 0 ≤ α ∧ 0 ≤ β ∧ 0 ≤ γ ∧ 0 < α + β + γ ∧ (α + β + γ) * x = m * (α * li + β * hi + γ * hi) ∧ (α + β + γ) * y = m * (α * lj + β * lj + γ * hj)) ∨
    (∃ α β γ : Int, 0 ≤ α ∧ 0 ≤ β ∧ 0 ≤ γ ∧ 0 < α + β + γ ∧ (α + β + γ) * x = m * (α * li + β * hi + γ * li) ∧ (α + β + γ) * y = m * (α * lj + β * hj + γ * hj)) := by
  obtain ⟨u, hu⟩ : ∃ u, u = x - li * m := ⟨_, rfl⟩
  obtain ⟨v, hv⟩ : ∃ v, v = y - lj * m := ⟨_, rfl⟩
  obtain ⟨d, hd⟩ : ∃ d, d = hi - li := ⟨_, rfl⟩
  obtain ⟨e, he⟩ : ∃ e, e = hj - lj := ⟨_, rfl⟩
  have ex : x = u + li * m := by omega
  have ey : y = v + lj * m := by omega
  have ed : hi = li + d := by omega
  have ee : hj = lj + e := by omega
  subst ex ey ed ee
  have u0 : 0 ≤ u := by omega
  have v0 : 0 ≤ v := by omega
  have d0 : 0 ≤ d := by omega
  have e0 : 0 ≤ e := by omega
  have ud : u ≤ m * d := by have : (li + d) * m = li * m + m * d := by grind
                            omega
  have ve : v ≤ m * e := by have : (lj + e) * m = lj * m + m * e := by grind
                            omega
  clear hu hv hd he x1 x2 y1 y2 h1 h2
  by_cases zd : d = 0
  · subst zd
    have zu : u = 0 := by rw [Int.mul_zero] at ud; omega
    subst zu
    by_cases ze : e = 0
    · subst ze
      have zv : v = 0 := by rw [Int.mul_zero] at ve; omega
      subst zv
      exact .inl ⟨1, 0, 0, by decide, by decide, by decide, by decide, by grind, by grind⟩
    · have p : 0 < m * e := Int.mul_pos hm (by omega)
      exact .inl ⟨m * e - v, 0, v, by omega, by decide, v0, by omega, by grind, by grind⟩
  · by_cases ze : e = 0
    · subst ze
      have zv : v = 0 := by rw [Int.mul_zero] at ve; omega
      subst zv
      have p : 0 < m * d := Int.mul_pos hm (by omega)
      exact .inl ⟨m * d - u, u, 0, by omega, u0, by decide, by omega, by grind, by grind⟩
    · have p : 0 < m * d * e := Int.mul_pos (Int.mul_pos hm (by omega)) (by omega)
      have a1 : u * e ≤ m * d * e := Int.mul_le_mul_of_nonneg_right ud e0
      have a2 : v * d ≤ m * e * d := Int.mul_le_mul_of_nonneg_right ve d0
      have a3 : m * e * d = m * d * e := by grind
      have a4 : 0 ≤ v * d := Int.mul_nonneg v0 d0
      have a5 : 0 ≤ u * e := Int.mul_nonneg u0 e0
      rcases Int.lt_or_le (u * e) (v * d) with c | c
      · exact .inr ⟨m * d * e - v * d, u * e, v * d - u * e, by omega, a5, by omega, by omega, by grind, by grind⟩
      · exact .inl ⟨m * d * e - u * e, u * e - v * d, v * d, by omega, by omega, a4, by omega, by grind, by grind⟩
/-- a place on a side is in one of the side's triangles -/
theorem on_side {l h X : P3} {m : Int} (hm : 0 < m) (hl : ∀ j, j < 3 → co j l ≤ co j h) {k σ : Nat} (hk : k < 3) (hp : co k X = co k (bxP l h σ) * m) (hin : ∀ j, j < 3 → co j l * m ≤ co j X ∧ co j X ≤ co j h * m) :
    Tri X m (corP l h k σ 0 0) (corP l h k σ 1 0) (corP l h k σ 1 1) ∨ Tri X m (corP l h k σ 0 0) (corP l h k σ 1 1) (corP l h k σ 0 1) := by
  have i0 := hin 0 (by decide)
  have i1 := hin 1 (by decide)
  have i2 := hin 2 (by decide)
  have l0 := hl 0 (by decide)
  have l1 := hl 1 (by decide)
  have l2 := hl 2 (by decide)
  obtain ⟨x0, x1, x2⟩ := X
  have three : ∀ {P : Nat → Prop}, P 0 → P 1 → P 2 → (∀ k, P (k + 2) ↔ P 2) → ∀ k, P k := fun {P} p0 p1 p2 p3 k => by
    match k with
    | 0 => exact p0
    | 1 => exact p1
    | k + 2 => exact (p3 k).mpr p2
  match k, hk with
  | 0, _ =>
    rcases rect hm l1 l2 i1.1 i1.2 i2.1 i2.2 with ⟨α, β, γ, a1, a2, a3, a4, a5, a6⟩ | ⟨α, β, γ, a1, a2, a3, a4, a5, a6⟩
    · refine .inl ⟨α, β, γ, a1, a2, a3, a4, three ?_ a5 a6 fun k => Iff.rfl⟩
      simp only [co, corP, bxP] at hp ⊢
      rw [hp]; grind
    · refine .inr ⟨α, β, γ, a1, a2, a3, a4, three ?_ a5 a6 fun k => Iff.rfl⟩
      simp only [co, corP, bxP] at hp ⊢
      rw [hp]; grind
  | 1, _ =>
    rcases rect hm l2 l0 i2.1 i2.2 i0.1 i0.2 with ⟨α, β, γ, a1, a2, a3, a4, a5, a6⟩ | ⟨α, β, γ, a1, a2, a3, a4, a5, a6⟩
    · refine .inl ⟨α, β, γ, a1, a2, a3, a4, three a6 ?_ a5 fun k => Iff.rfl⟩
      simp only [co, corP, bxP] at hp ⊢
      simp only [show ¬ (1 = 0) by decide, if_false, if_true]
      rw [hp]; grind
    · refine .inr ⟨α, β, γ, a1, a2, a3, a4, three a6 ?_ a5 fun k => Iff.rfl⟩
      simp only [co, corP, bxP] at hp ⊢
      simp only [show ¬ (1 = 0) by decide, if_false, if_true]
      rw [hp]; grind
  | 2, _ =>
    rcases rect hm l0 l1 i0.1 i0.2 i1.1 i1.2 with ⟨α, β, γ, a1, a2, a3, a4, a5, a6⟩ | ⟨α, β, γ, a1, a2, a3, a4, a5, a6⟩
    · refine .inl ⟨α, β, γ, a1, a2, a3, a4, three a5 a6 ?_ fun k => Iff.rfl⟩
      simp only [co, corP, bxP] at hp ⊢
      simp only [show ¬ (2 = 0) by decide, show ¬ (2 = 1) by decide, if_false]
      rw [hp]; grind
    · refine .inr ⟨α, β, γ, a1, a2, a3, a4, three a5 a6 ?_ fun k => Iff.rfl⟩
      simp only [co, corP, bxP] at hp ⊢
      simp only [show ¬ (2 = 0) by decide, show ¬ (2 = 1) by decide, if_false]
      rw [hp]; grind
/-- a triangle of corners of the box is in the box -/
theorem tri_box {l h X a b c : P3} {m : Int} (hm : 0 < m) (h3 : Tri X m a b c) {j : Nat} (ha : co j l ≤ co j a ∧ co j a ≤ co j h) (hb : co j l ≤ co j b ∧ co j b ≤ co j h) (hc : co j l ≤ co j c ∧ co j c ≤ co j h) : co j l * m ≤ co j X ∧ co j X ≤ co j h * m := by
  obtain ⟨α, β, γ, a1, a2, a3, a4, e⟩ := h3
  have e := e j
  generalize co j X = x at *
  generalize co j l = L at *
  generalize co j h = H at *
  generalize co j a = A at *
  generalize co j b = B at *
  generalize co j c = C at *
  have m1 := Int.mul_le_mul_of_nonneg_left ha.1 a1
  have m2 := Int.mul_le_mul_of_nonneg_left hb.1 a2
  have m3 := Int.mul_le_mul_of_nonneg_left hc.1 a3
  have n1 := Int.mul_le_mul_of_nonneg_left ha.2 a1
  have n2 := Int.mul_le_mul_of_nonneg_left hb.2 a2
  have n3 := Int.mul_le_mul_of_nonneg_left hc.2 a3
  have s1 : m * (α * L + β * L + γ * L) ≤ m * (α * A + β * B + γ * C) := Int.mul_le_mul_of_nonneg_left (by omega) (by omega)
  have s2 : m * (α * A + β * B + γ * C) ≤ m * (α * H + β * H + γ * H) := Int.mul_le_mul_of_nonneg_left (by omega) (by omega)
  have t1 : m * (α * L + β * L + γ * L) = (α + β + γ) * (L * m) := by grind
  have t2 : m * (α * H + β * H + γ * H) = (α + β + γ) * (H * m) := by grind
  rw [← e] at s1 s2
  rw [t1] at s1
  rw [t2] at s2
  exact ⟨Int.le_of_mul_le_mul_left s1 a4, Int.le_of_mul_le_mul_left s2 a4⟩
theorem cor_in {l h : P3} (hl : ∀ j, j < 3 → co j l ≤ co j h) (k σ o1 o2 : Nat) (j : Nat) (hj : j < 3) : co j l ≤ co j (corP l h k σ o1 o2) ∧ co j (corP l h k σ o1 o2) ≤ co j h := by
  have b : ∀ σ j, j < 3 → co j l ≤ co j (bxP l h σ) ∧ co j (bxP l h σ) ≤ co j h := fun σ j hj => by
    have := hl j hj
    unfold bxP
    split <;> omega
  have e0 : ∀ x : P3, x.1 = co 0 x := fun _ => rfl
  have e1 : ∀ x : P3, x.2.1 = co 1 x := fun _ => rfl
  have e2 : ∀ x : P3, x.2.2 = co 2 x := fun _ => rfl
  unfold corP
  match j, hj with
  | 0, _ =>
    split
    · exact b _ 0 (by decide)
    split
    · exact b _ 0 (by decide)
    · exact b _ 0 (by decide)
  | 1, _ =>
    split
    · exact b _ 1 (by decide)
    split
    · exact b _ 1 (by decide)
    · exact b _ 1 (by decide)
  | 2, _ =>
    split
    · exact b _ 2 (by decide)
    split
    · exact b _ 2 (by decide)
    · exact b _ 2 (by decide)
end DL
end
section
set_option Elab.async false
set_option linter.all false
set_option maxRecDepth 100000
set_option maxHeartbeats 4000000
set_option autoImplicit false
namespace DL
variable [TbC]
open PySem
/-! ### what a closed box adds to a point that is not on its skin -/
theorem mem_skin {ab : Bool} {l h : P3} (i : C8) : corB l h i ∈ crn (skinT ab l h) := by
  obtain ⟨a, b, c⟩ := i
  unfold crn skinT
  rw [List.flatMap_map]
  refine List.mem_flatMap.mpr ?_
  cases ab <;> cases a <;> cases b <;> cases c <;> simp [skinI]
def offB (p l h : P3) : Prop := ¬ (l.1 ≤ p.1 ∧ p.1 ≤ h.1 ∧ l.2.1 ≤ p.2.1 ∧ p.2.1 ≤ h.2.1 ∧ l.2.2 ≤ p.2.2 ∧ p.2.2 ≤ h.2.2 ∧ (l.1 = p.1 ∨ h.1 = p.1 ∨ l.2.1 = p.2.1 ∨ h.2.1 = p.2.1 ∨ l.2.2 = p.2.2 ∨ h.2.2 = p.2.2))
def inB (p l h : P3) : Prop := l.1 < p.1 ∧ p.1 < h.1 ∧ l.2.1 < p.2.1 ∧ p.2.1 < h.2.1 ∧ l.2.2 < p.2.2 ∧ p.2.2 < h.2.2
instance (p l h : P3) : Decidable (inB p l h) := inferInstanceAs (Decidable (_ ∧ _))
theorem skin_wind {p w l h : P3} {L : List P3} {ab : Bool} (g : Gen p w L) (b : Base p w L) (sub : ∀ c ∈ crn (skinT ab l h), c ∈ L) (o0 : l.1 ≤ h.1) (o1 : l.2.1 ≤ h.2.1) (o2 : l.2.2 ≤ h.2.2) (off : offB p l h) :
    windT p w (skinT ab l h) = (if ab then -1 else 1) * if inB p l h then 1 else 0 := by
  obtain ⟨s, hs, hw, hb⟩ := b
  have s0 : 0 < s := by omega
  have bl : ∀ k, co k (mnP l p) < s ∧ -(co k (mnP l p)) < s := hb _ (sub _ (mem_skin (false, false, false)))
  have bh : ∀ k, co k (mnP h p) < s ∧ -(co k (mnP h p)) < s := hb _ (sub _ (mem_skin (true, true, true)))
  have g' : ∀ i j : C8, Dw w (corB (mnP l p) (mnP h p) i) (corB (mnP l p) (mnP h p) j) = 0 → crP (corB (mnP l p) (mnP h p) i) (corB (mnP l p) (mnP h p) j) = (0, 0, 0) := fun i j e => by
    rw [← cor_mn, ← cor_mn] at e ⊢
    exact g _ (sub _ (mem_skin i)) _ (sub _ (mem_skin j)) e
  subst hw
  rw [skin_out g' (show (0 : Int) < 1 by decide) s0 (Int.mul_pos s0 s0) o0 o1 o2 ab]
  have off' := off
  unfold offB at off'
  rw [outI_eq hs bl bh (by show l.1 - p.1 ≤ h.1 - p.1; omega) (by show l.2.1 - p.2.1 ≤ h.2.1 - p.2.1; omega) (by show l.2.2 - p.2.2 ≤ h.2.2 - p.2.2; omega) (by simp only [mnP]; omega)]
  congr 1
  by_cases c : inB p l h
  · rw [if_pos c, if_pos]
    unfold inB at c
    simp only [mnP]
    omega
  · rw [if_neg c, if_neg]
    unfold inB at c
    simp only [mnP]
    omega
end DL
end
section
set_option Elab.async false
set_option linter.all false
set_option maxRecDepth 100000
set_option maxHeartbeats 4000000
set_option autoImplicit false
namespace DL
variable [TbC]
open PySem
/-! ### on the skin of a box -/
theorem same_co {X a b c : P3} {j : Nat} (h : Tri X 1 a b c) (hb : co j b = co j a) (hc : co j c = co j a) : co j X = co j a := by
  have := tri_box (l := a) (h := a) (by decide) h (j := j) ⟨Int.le_refl _, Int.le_refl _⟩ ⟨by omega, by omega⟩ ⟨by omega, by omega⟩
  omega
theorem cor_co {l h : P3} (o : ∀ j, j < 3 → co j l ≤ co j h) (i : C8) (j : Nat) (hj : j < 3) : co j l ≤ co j (corB l h i) ∧ co j (corB l h i) ≤ co j h := by
  obtain ⟨a, b, c⟩ := i
  have o0 := o j hj
  match j, hj with
  | 0, _ => cases a <;> (simp only [corB, co] at *; simp; omega)
  | 1, _ => cases b <;> (simp only [corB, co] at *; simp; omega)
  | 2, _ => cases c <;> (simp only [corB, co] at *; simp; omega)
theorem skin_within {p l h : P3} {ab : Bool} (o : ∀ j, j < 3 → co j l ≤ co j h) (on : OnT p (skinT ab l h)) : ∀ j, j < 3 → co j l ≤ co j p ∧ co j p ≤ co j h := fun j hj => by
  obtain ⟨t, ht, h3⟩ := on
  obtain ⟨i, _, rfl⟩ := List.mem_map.mp ht
  have := tri_box (by decide) h3 (j := j) (cor_co o i.1 j hj) (cor_co o i.2.1 j hj) (cor_co o i.2.2 j hj)
  omega
theorem offB_iff {p l h : P3} {ab : Bool} (o : ∀ j, j < 3 → co j l ≤ co j h) : OnT p (skinT ab l h) ↔ ¬ offB p l h := by
  have o0 := o 0 (by decide)
  have o1 := o 1 (by decide)
  have o2 := o 2 (by decide)
  constructor
  · intro on off
    have w0 := skin_within o on 0 (by decide)
    have w1 := skin_within o on 1 (by decide)
    have w2 := skin_within o on 2 (by decide)
    refine off ?_
    obtain ⟨t, ht, h3⟩ := on
    obtain ⟨i, hi, rfl⟩ := List.mem_map.mp ht
    refine ⟨w0.1, w0.2, w1.1, w1.2, w2.1, w2.2, ?_⟩
    have s0 := same_co (j := 0) h3
    have s1 := same_co (j := 1) h3
    have s2 := same_co (j := 2) h3
    cases ab
    · simp only [skinI, List.mem_cons, List.not_mem_nil, or_false] at hi
      rcases hi with rfl | rfl | rfl | rfl | rfl | rfl | rfl | rfl | rfl | rfl | rfl | rfl <;> first | (have := s0 rfl rfl; simp only [co, corB] at this; simp at this; omega) | (have := s1 rfl rfl; simp only [co, corB] at this; simp at this; omega) | (have := s2 rfl rfl; simp only [co, corB] at this; simp at this; omega)
    · simp only [skinI, List.mem_cons, List.not_mem_nil, or_false] at hi
      rcases hi with rfl | rfl | rfl | rfl | rfl | rfl | rfl | rfl | rfl | rfl | rfl | rfl <;> first | (have := s0 rfl rfl; simp only [co, corB] at this; simp at this; omega) | (have := s1 rfl rfl; simp only [co, corB] at this; simp at this; omega) | (have := s2 rfl rfl; simp only [co, corB] at this; simp at this; omega)
  · intro nf
    have nf' := Classical.not_not.mp nf
    obtain ⟨a0, a1, b0, b1, c0, c1, d⟩ := nf'
    have hin : ∀ j, j < 3 → co j l * 1 ≤ co j p ∧ co j p ≤ co j h * 1 := fun j hj => by
      match j, hj with
      | 0, _ => show l.1 * 1 ≤ p.1 ∧ p.1 ≤ h.1 * 1; omega
      | 1, _ => show l.2.1 * 1 ≤ p.2.1 ∧ p.2.1 ≤ h.2.1 * 1; omega
      | 2, _ => show l.2.2 * 1 ≤ p.2.2 ∧ p.2.2 ≤ h.2.2 * 1; omega
    have side := fun (k σ : Nat) (hk : k < 3) (hp : co k p = co k (bxP l h σ) * 1) => on_side (m := 1) (by decide) o hk hp hin
    have put : ∀ {i j k : C8}, (i, j, k) ∈ skinI ab ∨ (i, k, j) ∈ skinI ab → Tri p 1 (corB l h i) (corB l h j) (corB l h k) → OnT p (skinT ab l h) := fun {i j k} hm ht => by
      rcases hm with hm | hm
      · exact ⟨_, List.mem_map.mpr ⟨_, hm, rfl⟩, ht⟩
      · exact ⟨_, List.mem_map.mpr ⟨_, hm, rfl⟩, ht.swap⟩
    have mem : ∀ {x : C8 × C8 × C8} {y : C8 × C8 × C8}, (x ∈ skinI false ∨ y ∈ skinI false) ∧ (x ∈ skinI true ∨ y ∈ skinI true) → x ∈ skinI ab ∨ y ∈ skinI ab := fun hh => by cases ab; exact hh.1; exact hh.2
    rcases d with d | d | d | d | d | d
    · rcases side 0 0 (by decide) (by show p.1 = l.1 * 1; omega) with z | z
      · exact put (i := (false, false, false)) (j := (false, true, false)) (k := (false, true, true)) (mem (by simp [skinI])) z
      · exact put (i := (false, false, false)) (j := (false, true, true)) (k := (false, false, true)) (mem (by simp [skinI])) z
    · rcases side 0 1 (by decide) (by show p.1 = h.1 * 1; omega) with z | z
      · exact put (i := (true, false, false)) (j := (true, true, false)) (k := (true, true, true)) (mem (by simp [skinI])) z
      · exact put (i := (true, false, false)) (j := (true, true, true)) (k := (true, false, true)) (mem (by simp [skinI])) z
    · rcases side 1 0 (by decide) (by show p.2.1 = l.2.1 * 1; omega) with z | z
      · exact put (i := (false, false, false)) (j := (false, false, true)) (k := (true, false, true)) (mem (by simp [skinI])) z
      · exact put (i := (false, false, false)) (j := (true, false, true)) (k := (true, false, false)) (mem (by simp [skinI])) z
    · rcases side 1 1 (by decide) (by show p.2.1 = h.2.1 * 1; omega) with z | z
      · exact put (i := (false, true, false)) (j := (false, true, true)) (k := (true, true, true)) (mem (by simp [skinI])) z
      · exact put (i := (false, true, false)) (j := (true, true, true)) (k := (true, true, false)) (mem (by simp [skinI])) z
    · rcases side 2 0 (by decide) (by show p.2.2 = l.2.2 * 1; omega) with z | z
      · exact put (i := (false, false, false)) (j := (true, false, false)) (k := (true, true, false)) (mem (by simp [skinI])) z
      · exact put (i := (false, false, false)) (j := (true, true, false)) (k := (false, true, false)) (mem (by simp [skinI])) z
    · rcases side 2 1 (by decide) (by show p.2.2 = h.2.2 * 1; omega) with z | z
      · exact put (i := (false, false, true)) (j := (true, false, true)) (k := (true, true, true)) (mem (by simp [skinI])) z
      · exact put (i := (false, false, true)) (j := (true, true, true)) (k := (false, true, true)) (mem (by simp [skinI])) z
end DL
end
section
set_option Elab.async false
set_option linter.all false
set_option maxRecDepth 100000
set_option maxHeartbeats 4000000
set_option autoImplicit false
namespace DL
variable [TbC]
open PySem
theorem e_lm {k : List Dt → Dt → Option Dt} {f g : Fn} {ε : Ev} {ds : List Dt} {y z : Dt} (h1 : f ε = .ok (.lst ds)) (h2 : g ε = .ok y) (h3 : k ds y = some z) : lmF k f g ε = .ok z := by
  unfold lmF
  rw [h1, Rz.bind_ok]
  show (g ε).bind _ = _
  rw [h2, Rz.bind_ok, h3]
  rfl
/-! ### the law's own way to tell a closed skin -/
def pyP (p : P3) : PyData := .tuple [.int p.1, .int p.2.1, .int p.2.2]
def pyE (e : E2) : PyData := .tuple [pyP e.1, pyP e.2]
theorem py_enP (p : P3) : py (en p) = some (pyP p) := by
  simp only [en, py, pys, Option.bind_some, Option.map_some, pyP]
theorem py_enE (e : E2) : py (enE e) = some (pyE e) := by
  simp only [enE, py, pys, py_enP, Option.bind_some, Option.map_some, pyE]
theorem pys_enE (ps : List E2) : pys (ps.map enE) = some (ps.map pyE) := by
  induction ps with
  | nil => rfl
  | cons a l ih => simp only [List.map_cons, pys, py_enE, ih, Option.bind_some, Option.map_some]
theorem eqv_pyE (e e' : E2) : PyData.eqv (pyE e) (pyE e') = (e == e') := by
  obtain ⟨⟨a, b, c⟩, ⟨d, f, g⟩⟩ := e
  obtain ⟨⟨a', b', c'⟩, ⟨d', f', g'⟩⟩ := e'
  simp only [pyE, pyP, PyData.eqv, PyData.eqvAll, Bool.and_true]
  rw [Bool.eq_iff_iff]
  simp only [Bool.and_eq_true, beq_iff_eq, Prod.mk.injEq]
theorem enEs_okq (ps : List E2) : okqs 2 (ps.map enE) = true := by
  induction ps with
  | nil => rfl
  | cons a l ih => rw [List.map_cons, okqs, ih]; rfl
theorem shE (ps : List E2) : SeqAt.shaped (.list (ps.map pyE)) = true := by
  obtain ⟨x, h1, h2, h3⟩ := okq_py (.lst (ps.map enE)) 3 (enEs_okq ps)
  have e : py (.lst (ps.map enE)) = some (.list (ps.map pyE)) := by
    rw [py, pys_enE]; rfl
  rw [e] at h1
  cases h1
  exact Bool.and_eq_true_iff.mpr ⟨h2, decide_eq_true (by omega)⟩
theorem shE1 (e : E2) : SeqAt.shaped (pyE e) = true := by
  obtain ⟨x, h1, h2, h3⟩ := okq_py (enE e) 3 rfl
  rw [py_enE] at h1
  cases h1
  exact Bool.and_eq_true_iff.mpr ⟨h2, decide_eq_true (by omega)⟩
theorem cnt_eq (ps : List E2) (e : E2) : cntD (ps.map enE) (enE e) = some (.int (ps.count e : Int)) := by
  unfold cntD
  rw [pys_enE, Option.bind_some, py_enE, Option.bind_some, if_pos ⟨shE ps, shE1 e⟩, List.countP_map]
  have : ((fun z => PyData.eqv z (pyE e)) ∘ pyE) = fun x : E2 => x == e := funext fun x => eqv_pyE x e
  rw [this]
  rfl
theorem F_l_closed_eq {ts : List T3} (hn : ts.length < 1000000) : F_l_closed [.lst (ts.map enT)] = .ok (.va (.bl (closedB (edgs ts)))) := by
  have hlen := edgs_len ts
  have main : ∃ x y z, forGo (setT 3 (setCons (setN 2) (setCons (setN 3) (setCons (setN 4) setNil)))) (stS 1 (bin addD (gb 1) (lstF (lsF (consF (tupF (consF (gv 2) (consF (gv 3) nilF))) (consF (tupF (consF (gv 3) (consF (gv 4) nilF))) (consF (tupF (consF (gv 4) (consF (gv 2) nilF))) nilF))))))) (ts.map enT)
      [.d (.lst (ts.map enT)), .d (.lst []), .u, .u, .u, .u] = .ok (.nx [.d (.lst (ts.map enT)), .d (.lst ((edgs ts).map enE)), x, y, z, .u]) := by
    refine for_ind (I := fun i ε => ∃ x y z, ε = [.d (.lst (ts.map enT)), .d (.lst ((edgs (ts.take i)).map enE)), x, y, z, .u])
      (O := fun r => ∃ x y z, r = .ok (.nx [.d (.lst (ts.map enT)), .d (.lst ((edgs ts).map enE)), x, y, z, .u])) ?_ ⟨_, _, _, rfl⟩ ?_
    · rintro i d ε hd ⟨x, y, z, rfl⟩
      rw [List.getElem?_map] at hd
      obtain ⟨t, ht, rfl⟩ := Option.map_eq_some_iff.mp hd
      have hlt := edgs_take_len ts i
      refine ⟨[.d (.lst (ts.map enT)), .d (.lst ((edgs (ts.take i)).map enE)), .d (en t.1), .d (en t.2.1), .d (en t.2.2), .u], rfl, .inl ⟨[.d (.lst (ts.map enT)), .d (.lst ((edgs (ts.take (i + 1))).map enE)), .d (en t.1), .d (en t.2.1), .d (en t.2.2), .u], .inl ?_, _, _, _, rfl⟩⟩
      have r1 : lstF (lsF (consF (tupF (consF (gv 2) (consF (gv 3) nilF))) (consF (tupF (consF (gv 3) (consF (gv 4) nilF))) (consF (tupF (consF (gv 4) (consF (gv 2) nilF))) nilF)))) [.d (.lst (ts.map enT)), .d (.lst ((edgs (ts.take i)).map enE)), .d (en t.1), .d (en t.2.1), .d (en t.2.2), .u] = .ok (.lst ((edg t).map enE)) := by
        simp only [bodyF, startE, seqS, stS, stO, rtS, roS, roV, asS, ifS, xpS, bin, un, unN, lstF, lsF, consF, nilF, tupF, kc, gv, gb, tst, andT, orT, notT, andV, orV, notV, ifV, callF, callN, iterF, rngF, walked, slF, noP, soP, setN, setT, setCons, setNil, wipeE, yes, forS, prS, Rz.bind_ok, q_ofO, q_ofN, q_bad, q_ex, q_exS, q_exX, q_exB, q_okB, q_nx, q_rt, q_ro, q_bk, q_ct, q_sx, q_anx, q_act, q_abk, q_art, q_bnx, q_brt, q_bro, q_bex, q_va, q_ow, q_boo, add_int, sub_int, lt_int, le_int, gt_int, ge_int, neg_int, List.map_cons, List.map_nil, List.length_cons, List.length_nil, List.nil_append, List.cons_append, List.replicate, List.getElem?_cons_zero, List.getElem?_cons_succ, env_set0, env_setS, Option.bind_some, Option.map_some, if_true, Bool.false_eq_true, if_false, Nat.reduceAdd, Nat.reduceSub, sizeLine_eq, Nat.reduceLeDiff, Nat.zero_le]
        rfl
      have r2 : addD (.lst ((edgs (ts.take i)).map enE)) (.lst ((edg t).map enE)) = some (.lst ((edgs (ts.take (i + 1))).map enE)) := by
        rw [edgs_take ts i t ht, List.map_append]
        exact if_pos (by rw [List.length_map, List.length_map, sizeLine_eq]; show _ + 3 ≤ _; omega)
      unfold stS
      rw [e_bin (q_gb rfl) r1 r2, q_exS, q_okB]
      rfl
    · rintro ε ⟨x, y, z, rfl⟩
      rw [List.length_map, List.take_length]
      exact ⟨x, y, z, rfl⟩
  obtain ⟨x, y, z, hf⟩ := main
  have fin : un allD (lstF (lcF (iterF (gb 1)) [5] (setN 5) yes (bin eqD (lmF cntD (gb 1) (gv 5)) (lmF cntD (gb 1) (tupF (consF (bin ixD (gb 5) (kc (.int 1))) (consF (bin ixD (gb 5) (kc (.int 0))) nilF))))))) [.d (.lst (ts.map enT)), .d (.lst ((edgs ts).map enE)), x, y, z, .u] = .ok (.bl (closedB (edgs ts))) := by
    have lc : lcF (iterF (gb 1)) [5] (setN 5) yes (bin eqD (lmF cntD (gb 1) (gv 5)) (lmF cntD (gb 1) (tupF (consF (bin ixD (gb 5) (kc (.int 1))) (consF (bin ixD (gb 5) (kc (.int 0))) nilF))))) [.d (.lst (ts.map enT)), .d (.lst ((edgs ts).map enE)), x, y, z, .u]
        = .ok ((edgs ts).map fun e => .bl (decide ((edgs ts).count (swE e) = (edgs ts).count e))) := by
      refine lcF_map (en := enE) rfl (by omega) fun e he => ?_
      have k1 : lmF cntD (gb 1) (gv 5) [.d (.lst (ts.map enT)), .d (.lst ((edgs ts).map enE)), x, y, z, .d (enE e)] = .ok (.int ((edgs ts).count e : Int)) := by
        exact e_lm (q_gb rfl) (q_gv rfl) (cnt_eq _ _)
      have k3 : tupF (consF (bin ixD (gb 5) (kc (.int 1))) (consF (bin ixD (gb 5) (kc (.int 0))) nilF)) [.d (.lst (ts.map enT)), .d (.lst ((edgs ts).map enE)), x, y, z, .d (enE e)] = .ok (enE (swE e)) := by
        have i0 : ixD (enE e) (.int 0) = some (en e.1) := rfl
        have i1 : ixD (enE e) (.int 1) = some (en e.2) := rfl
        simp only [bodyF, startE, seqS, stS, stO, rtS, roS, roV, asS, ifS, xpS, bin, un, unN, lstF, lsF, consF, nilF, tupF, kc, gv, gb, tst, andT, orT, notT, andV, orV, notV, ifV, callF, callN, iterF, rngF, walked, slF, noP, soP, setN, setT, setCons, setNil, wipeE, yes, forS, prS, Rz.bind_ok, q_ofO, q_ofN, q_bad, q_ex, q_exS, q_exX, q_exB, q_okB, q_nx, q_rt, q_ro, q_bk, q_ct, q_sx, q_anx, q_act, q_abk, q_art, q_bnx, q_brt, q_bro, q_bex, q_va, q_ow, q_boo, add_int, sub_int, lt_int, le_int, gt_int, ge_int, neg_int, List.map_cons, List.map_nil, List.length_cons, List.length_nil, List.nil_append, List.cons_append, List.replicate, List.getElem?_cons_zero, List.getElem?_cons_succ, env_set0, env_setS, Option.bind_some, Option.map_some, if_true, Bool.false_eq_true, if_false, Nat.reduceAdd, Nat.reduceSub, sizeLine_eq, Nat.reduceLeDiff, Nat.zero_le, i0, i1]
        rfl
      have k2 : lmF cntD (gb 1) (tupF (consF (bin ixD (gb 5) (kc (.int 1))) (consF (bin ixD (gb 5) (kc (.int 0))) nilF))) [.d (.lst (ts.map enT)), .d (.lst ((edgs ts).map enE)), x, y, z, .d (enE e)] = .ok (.int ((edgs ts).count (swE e) : Int)) := by
        exact e_lm (q_gb rfl) k3 (cnt_eq _ _)
      refine e_bin k1 k2 ?_
      rw [eqD_int]
      exact congrArg (fun b => some (Dt.bl b)) (decide_eq_decide.mpr ⟨fun h => (Int.ofNat_inj.mp h).symm, fun h => Int.ofNat_inj.mpr h.symm⟩)
    refine e_un (e_lst lc) ?_
    rw [allD_bls]
    rfl
  unfold F_l_closed
  refine b_rt ?_
  unfold g_l_closed
  show seqR (forS (iterF (gv 0)) _ _ [.d (.lst (ts.map enT)), .d (.lst []), .u, .u, .u, .u]) _ = _
  unfold forS
  rw [show iterF (gv 0) [.d (.lst (ts.map enT)), .d (.lst []), .u, .u, .u, .u] = .ok (ts.map enT) from rfl, q_exS, q_okB, hf, q_nx]
  exact s_rt fin
end DL
end
section
set_option Elab.async false
set_option linter.all false
set_option maxRecDepth 100000
set_option maxHeartbeats 4000000
set_option autoImplicit false
namespace DL
variable [TbC]
open PySem
theorem whole_int (i : Int) : F_l_whole [.int i] = .ok (.va (.bl true)) := by
  have a : isiD "int" (.int i) = some (.bl true) := by
    have h : L2.kitB "int" "int" = some true := by decide +kernel
    show (L2.kitB "int" "int").map Dt.bl = _
    rw [h]; rfl
  have b : isiD "bool" (.int i) = some (.bl false) := by
    have h : L2.kitB "int" "bool" = some false := by decide +kernel
    show (L2.kitB "int" "bool").map Dt.bl = _
    rw [h]; rfl
  simp only [F_l_whole, g_l_whole, bodyF, startE, seqS, stS, stO, rtS, roS, roV, asS, ifS, xpS, bin, un, unN, lstF, lsF, consF, nilF, tupF, kc, gv, gb, tst, andT, orT, notT, andV, orV, notV, ifV, callF, callN, iterF, rngF, walked, slF, noP, soP, setN, setT, setCons, setNil, wipeE, yes, forS, prS, Rz.bind_ok, q_ofO, q_ofN, q_bad, q_ex, q_exS, q_exX, q_exB, q_okB, q_nx, q_rt, q_ro, q_bk, q_ct, q_sx, q_anx, q_act, q_abk, q_art, q_bnx, q_brt, q_bro, q_bex, q_va, q_ow, q_boo, add_int, sub_int, lt_int, le_int, gt_int, ge_int, neg_int, List.map_cons, List.map_nil, List.length_cons, List.length_nil, List.nil_append, List.cons_append, List.replicate, List.getElem?_cons_zero, List.getElem?_cons_succ, env_set0, env_setS, Option.bind_some, Option.map_some, if_true, Bool.false_eq_true, if_false, Nat.reduceAdd, Nat.reduceSub, sizeLine_eq, Nat.reduceLeDiff, Nat.zero_le, a, b, Bool.not_false]
theorem isi_bl (b : Bool) : isiD "bool" (.bl b) = some (.bl true) := by
  have h : L2.kitB "bool" "bool" = some true := by decide +kernel
  show (L2.kitB "bool" "bool").map Dt.bl = _
  rw [h]; rfl
end DL
end
section
set_option Elab.async false
set_option linter.all false
set_option maxRecDepth 100000
set_option maxHeartbeats 4000000
set_option autoImplicit false
namespace DL
variable [TbC]
open PySem
/-! ### the law's boxes -/
abbrev Bx := (P3 × P3) × Bool
def enX (b : P3 × P3) : Dt := .tup [en b.1, en b.2]
def enB (b : Bx) : Dt := .tup [enX b.1, .bl b.2]
structure BxOk (b : P3 × P3) : Prop where
  lo : BdN 60 b.1
  hi : BdN 60 b.2
  o0 : b.1.1 ≤ b.2.1
  o1 : b.1.2.1 ≤ b.2.2.1
  o2 : b.1.2.2 ≤ b.2.2.2
theorem put_le {p q : P3} (c : Int) (h0 : p.1 ≤ q.1) (h1 : p.2.1 ≤ q.2.1) (h2 : p.2.2 ≤ q.2.2) : (putP p c).1 ≤ (putP q c).1 ∧ (putP p c).2.1 ≤ (putP q c).2.1 ∧ (putP p c).2.2 ≤ (putP q c).2.2 := by
  unfold putP
  split
  · exact ⟨h0, h1, h2⟩
  · have s0 : 0 ≤ 1 + c % 1125899906842624 := by omega
    have a0 := Int.mul_le_mul_of_nonneg_right h0 s0
    have a1 := Int.mul_le_mul_of_nonneg_right h1 s0
    have a2 := Int.mul_le_mul_of_nonneg_right h2 s0
    simp only
    omega
def hiP (h : Int) : P3 := ((spotP h).1 + h / 729 % 9, (spotP h).2.1 + h / 6561 % 9, (spotP h).2.2 + h / 59049 % 9)
theorem hi_bd (h : Int) : BdN 5 (hiP h) := by
  have b := spot_bd h
  have one : ∀ {x y : Int}, Bd 3 x → Bd 5 (x + y % 9) := fun {x y} k => by unfold Bd at *; omega
  exact ⟨one b.1, one b.2.1, one b.2.2⟩
def boxP (h c : Int) : P3 × P3 := (putP (spotP h) c, putP (hiP h) c)
theorem box_ok (h c : Int) : BxOk (boxP h c) := by
  have := put_le (p := spotP h) (q := hiP h) c (by show _ ≤ _ + _; omega) (by show _ ≤ _ + _; omega) (by show _ ≤ _ + _; omega)
  exact ⟨(put_bd (spot_bd h) c (by decide)).mono (by decide), (put_bd (hi_bd h) c (by decide)).mono (by decide), this.1, this.2.1, this.2.2⟩
theorem F_l_boxes_eq (ns : List Int) (hn : ns.length ≤ 63) : ∃ bs : List Bx, 0 < bs.length ∧ bs.length ≤ 3 ∧ (∀ b ∈ bs, BxOk b.1) ∧ F_l_boxes [.frl (ns.map .int)] = .ok (.ow (bs.map enB)) := by
  have c0 : F_l_cell [.frl (ns.map .int), .int 0] = .ok (.va (.int (cell ns 0))) := F_l_cell_eq ns hn 0 (by decide)
  have c1 : F_l_cell [.frl (ns.map .int), .int 1] = .ok (.va (.int (cell ns 1))) := F_l_cell_eq ns hn 1 (by decide)
  generalize cell ns 0 = base at c0
  generalize cell ns 1 = z at c1
  have hm := F_l_drawn_eq z 5
  generalize drawn z 5 = m at hm
  have m5 : modD (.int m) (.int 5) = some (.int (m % 5)) := mod_pos (by decide)
  have d5 : divD (.int m) (.int 5) = some (.int (m / 5)) := div_sm (by decide)
  have m4 : modD (.int (m / 5)) (.int 4) = some (.int (m / 5 % 4)) := mod_pos (by decide)
  obtain ⟨n, hn1, hn3, hcnt⟩ : ∃ n : Nat, 1 ≤ n ∧ n ≤ 3 ∧ rngF (bin ixD (lstF (lsF (consF (kc (.int 1)) (consF (kc (.int 1)) (consF (kc (.int 2)) (consF (kc (.int 2)) (consF (kc (.int 3)) nilF))))))) (bin modD (gb 2) (kc (.int 5)))) [.d (.frl (ns.map .int)), .d (.int base), .d (.int m), .o [], .u, .u, .u, .u, .u] = .ok ((List.range n).map fun k : Nat => Dt.int k) := by
    have key : ∀ (r : Int) (n : Nat), m % 5 = r → ixD (.lst [.int 1, .int 1, .int 2, .int 2, .int 3]) (.int r) = some (.int (n : Int)) → rngD (.int (n : Int)) = some ((List.range n).map fun k : Nat => Dt.int k) → rngF (bin ixD (lstF (lsF (consF (kc (.int 1)) (consF (kc (.int 1)) (consF (kc (.int 2)) (consF (kc (.int 2)) (consF (kc (.int 3)) nilF))))))) (bin modD (gb 2) (kc (.int 5)))) [.d (.frl (ns.map .int)), .d (.int base), .d (.int m), .o [], .u, .u, .u, .u, .u] = .ok ((List.range n).map fun k : Nat => Dt.int k) := fun r n h1 h2 h3 => by
      have e : bin ixD (lstF (lsF (consF (kc (.int 1)) (consF (kc (.int 1)) (consF (kc (.int 2)) (consF (kc (.int 2)) (consF (kc (.int 3)) nilF))))))) (bin modD (gb 2) (kc (.int 5))) [.d (.frl (ns.map .int)), .d (.int base), .d (.int m), .o [], .u, .u, .u, .u, .u] = .ok (.int (n : Int)) :=
        e_bin (x := .lst [.int 1, .int 1, .int 2, .int 2, .int 3]) rfl (e_bin rfl rfl m5) (by rw [h1]; exact h2)
      unfold rngF
      rw [e, Rz.bind_ok, h3]
      rfl
    have lo : 0 ≤ m % 5 := Int.emod_nonneg m (by decide)
    have hi : m % 5 < 5 := Int.emod_lt_of_pos m (by decide)
    rcases (show m % 5 = 0 ∨ m % 5 = 1 ∨ m % 5 = 2 ∨ m % 5 = 3 ∨ m % 5 = 4 by omega) with h | h | h | h | h
    · exact ⟨1, by decide, by decide, key _ 1 h rfl rfl⟩
    · exact ⟨1, by decide, by decide, key _ 1 h rfl rfl⟩
    · exact ⟨2, by decide, by decide, key _ 2 h rfl rfl⟩
    · exact ⟨2, by decide, by decide, key _ 2 h rfl rfl⟩
    · exact ⟨3, by decide, by decide, key _ 3 h rfl rfl⟩
  have main : ∃ (bs : List Bx) (x4 x5 x6 x7 x8 : Lc), bs.length = n ∧ (∀ b ∈ bs, BxOk b.1) ∧ forGo (setN 4) (seqS (stS 5 (callF 2 F_l_drawn (consF (callF 2 F_l_cell (consF (gv 0) (consF (bin addD (gb 4) (kc (.int 2))) nilF))) (consF (gv 4) nilF)))) (seqS (stS 6 (callF 1 F_l_spot (consF (gv 5) nilF))) (seqS (stS 7 (tupF (consF (bin addD (bin ixD (gb 6) (kc (.int 0))) (bin modD (bin divD (gb 5) (kc (.int 729))) (kc (.int 9)))) (consF (bin addD (bin ixD (gb 6) (kc (.int 1))) (bin modD (bin divD (gb 5) (kc (.int 6561))) (kc (.int 9)))) (consF (bin addD (bin ixD (gb 6) (kc (.int 2))) (bin modD (bin divD (gb 5) (kc (.int 59049))) (kc (.int 9)))) nilF))))) (seqS (stS 8 (tupF (consF (callF 2 F_l_put (consF (gv 6) (consF (gv 1) nilF))) (consF (callF 2 F_l_put (consF (gv 7) (consF (gv 1) nilF))) nilF)))) (seqS (ifS (andT (tst (bin eqD (gb 4) (kc (.int 1)))) (tst (bin eqD (bin modD (bin divD (gb 2) (kc (.int 5))) (kc (.int 4))) (kc (.int 0))))) (stS 8 (bin ixD (bin ixD (gb 3) (kc (.int 0))) (kc (.int 0)))) (fun ε => .ok (.nx ε))) (appS 3 (tupF (consF (gv 8) (consF (bin eqD (bin modD (bin divD (gb 5) (kc (.int 531441))) (kc (.int 2))) (kc (.int 0))) nilF))))))))) ((List.range n).map fun k : Nat => Dt.int k)
      [.d (.frl (ns.map .int)), .d (.int base), .d (.int m), .o [], .u, .u, .u, .u, .u] = .ok (.nx [.d (.frl (ns.map .int)), .d (.int base), .d (.int m), .o (bs.map enB), x4, x5, x6, x7, x8]) := by
    refine for_ind (I := fun i ε => ∃ (bs : List Bx) (x4 x5 x6 x7 x8 : Lc), bs.length = i ∧ (∀ b ∈ bs, BxOk b.1) ∧ ε = [.d (.frl (ns.map .int)), .d (.int base), .d (.int m), .o (bs.map enB), x4, x5, x6, x7, x8])
      (O := fun r => ∃ (bs : List Bx) (x4 x5 x6 x7 x8 : Lc), bs.length = n ∧ (∀ b ∈ bs, BxOk b.1) ∧ r = .ok (.nx [.d (.frl (ns.map .int)), .d (.int base), .d (.int m), .o (bs.map enB), x4, x5, x6, x7, x8])) ?_ ⟨[], _, _, _, _, _, rfl, (fun _ z => nomatch z), rfl⟩ ?_
    · rintro k d ε hd ⟨bs, x4, x5, x6, x7, x8, hl, hok, rfl⟩
      have hk : k < n := by
        have := (List.getElem?_eq_some_iff.mp hd).1
        simpa using this
      have hd' : d = .int k := by
        rw [List.getElem?_map, List.getElem?_range hk] at hd
        exact (Option.some.inj hd).symm
      subst hd'
      have hc := F_l_cell_eq ns hn (k + 2) (by omega)
      generalize cell ns (k + 2) = c at hc
      have hh := F_l_drawn_eq c k
      generalize drawn c k = h at hh
      have d1 : divD (.int h) (.int 729) = some (.int (h / 729)) := div_sm (by decide)
      have d2 : divD (.int h) (.int 6561) = some (.int (h / 6561)) := div_sm (by decide)
      have d3 : divD (.int h) (.int 59049) = some (.int (h / 59049)) := div_sm (by decide)
      have d6 : divD (.int h) (.int 531441) = some (.int (h / 531441)) := div_sm (by decide)
      have m9 : ∀ x : Int, modD (.int x) (.int 9) = some (.int (x % 9)) := fun x => mod_pos (by decide)
      have m2 : modD (.int (h / 531441)) (.int 2) = some (.int (h / 531441 % 2)) := mod_pos (by decide)
      -- the box is put in
      have fin : ∀ (b : P3 × P3), BxOk b → ∃ (bs' : List Bx) (y4 y5 y6 y7 y8 : Lc), (appS 3 (tupF (consF (gv 8) (consF (bin eqD (bin modD (bin divD (gb 5) (kc (.int 531441))) (kc (.int 2))) (kc (.int 0))) nilF)))) [.d (.frl (ns.map .int)), .d (.int base), .d (.int m), .o (bs.map enB), .d (.int k), .d (.int h), .d (en (spotP h)), .d (en (hiP h)), .d (enX b)] = .ok (.nx [.d (.frl (ns.map .int)), .d (.int base), .d (.int m), .o (bs'.map enB), y4, y5, y6, y7, y8]) ∧ bs'.length = k + 1 ∧ ∀ b ∈ bs', BxOk b.1 := fun b ob => by
        refine ⟨bs ++ [(b, decide (h / 531441 % 2 = 0))], .d (.int k), .d (.int h), .d (en (spotP h)), .d (en (hiP h)), .d (enX b), ?_, by rw [List.length_append, hl]; rfl, fun b' hb' => ?_⟩
        · rw [q_app (ds := bs.map enB) (d := enB (b, decide (h / 531441 % 2 = 0))) rfl ?_ (by rw [List.length_map]; omega)]
          · rw [List.map_append]
            rfl
          · exact e_tup (e_cons rfl (e_cons (e_bin (e_bin (e_bin rfl rfl d6) rfl m2) rfl (eqD_int _ _)) rfl)) (by show 2 ≤ 16777216; decide)
        · rcases List.mem_append.mp hb' with z | z
          · exact hok b' z
          · rw [List.mem_singleton.mp z]; exact ob
      have goal : ∃ ε2, (seqS (stS 5 (callF 2 F_l_drawn (consF (callF 2 F_l_cell (consF (gv 0) (consF (bin addD (gb 4) (kc (.int 2))) nilF))) (consF (gv 4) nilF)))) (seqS (stS 6 (callF 1 F_l_spot (consF (gv 5) nilF))) (seqS (stS 7 (tupF (consF (bin addD (bin ixD (gb 6) (kc (.int 0))) (bin modD (bin divD (gb 5) (kc (.int 729))) (kc (.int 9)))) (consF (bin addD (bin ixD (gb 6) (kc (.int 1))) (bin modD (bin divD (gb 5) (kc (.int 6561))) (kc (.int 9)))) (consF (bin addD (bin ixD (gb 6) (kc (.int 2))) (bin modD (bin divD (gb 5) (kc (.int 59049))) (kc (.int 9)))) nilF))))) (seqS (stS 8 (tupF (consF (callF 2 F_l_put (consF (gv 6) (consF (gv 1) nilF))) (consF (callF 2 F_l_put (consF (gv 7) (consF (gv 1) nilF))) nilF)))) (seqS (ifS (andT (tst (bin eqD (gb 4) (kc (.int 1)))) (tst (bin eqD (bin modD (bin divD (gb 2) (kc (.int 5))) (kc (.int 4))) (kc (.int 0))))) (stS 8 (bin ixD (bin ixD (gb 3) (kc (.int 0))) (kc (.int 0)))) (fun ε => .ok (.nx ε))) (appS 3 (tupF (consF (gv 8) (consF (bin eqD (bin modD (bin divD (gb 5) (kc (.int 531441))) (kc (.int 2))) (kc (.int 0))) nilF))))))))) [.d (.frl (ns.map .int)), .d (.int base), .d (.int m), .o (bs.map enB), .d (.int k), x5, x6, x7, x8] = .ok (.nx ε2) ∧ ∃ (bs' : List Bx) (y4 y5 y6 y7 y8 : Lc), bs'.length = k + 1 ∧ (∀ b ∈ bs', BxOk b.1) ∧ ε2 = [.d (.frl (ns.map .int)), .d (.int base), .d (.int m), .o (bs'.map enB), y4, y5, y6, y7, y8] := by
        have st5 := c_1 (n := 2) (ε := [.d (.frl (ns.map .int)), .d (.int base), .d (.int m), .o (bs.map enB), .d (.int k), x5, x6, x7, x8]) (fs := consF (callF 2 F_l_cell (consF (gv 0) (consF (bin addD (gb 4) (kc (.int 2))) nilF))) (consF (gv 4) nilF)) (e_cons (c_1 (n := 2) rfl rfl hc rfl) rfl) rfl hh rfl
        have pl := F_l_put_eq (spot_bd h) (by decide) (by decide) base
        have ph := F_l_put_eq (hi_bd h) (by decide) (by decide) base
        have st7 : tupF (consF (bin addD (bin ixD (gb 6) (kc (.int 0))) (bin modD (bin divD (gb 5) (kc (.int 729))) (kc (.int 9)))) (consF (bin addD (bin ixD (gb 6) (kc (.int 1))) (bin modD (bin divD (gb 5) (kc (.int 6561))) (kc (.int 9)))) (consF (bin addD (bin ixD (gb 6) (kc (.int 2))) (bin modD (bin divD (gb 5) (kc (.int 59049))) (kc (.int 9)))) nilF))) [.d (.frl (ns.map .int)), .d (.int base), .d (.int m), .o (bs.map enB), .d (.int k), .d (.int h), .d (en (spotP h)), x7, x8] = .ok (en (hiP h)) :=
          e_tup (e_cons (e_bin (e_bin rfl rfl (en0 _)) (e_bin (e_bin rfl rfl d1) rfl (m9 _)) (add_int _ _)) (e_cons (e_bin (e_bin rfl rfl (en1 _)) (e_bin (e_bin rfl rfl d2) rfl (m9 _)) (add_int _ _)) (e_cons (e_bin (e_bin rfl rfl (en2 _)) (e_bin (e_bin rfl rfl d3) rfl (m9 _)) (add_int _ _)) rfl))) (by show 3 ≤ 16777216; decide)
        have st8 : tupF (consF (callF 2 F_l_put (consF (gv 6) (consF (gv 1) nilF))) (consF (callF 2 F_l_put (consF (gv 7) (consF (gv 1) nilF))) nilF)) [.d (.frl (ns.map .int)), .d (.int base), .d (.int m), .o (bs.map enB), .d (.int k), .d (.int h), .d (en (spotP h)), .d (en (hiP h)), x8] = .ok (enX (boxP h base)) :=
          e_tup (e_cons (c_1 (n := 2) rfl rfl pl rfl) (e_cons (c_1 (n := 2) rfl rfl ph rfl) rfl)) (by show 2 ≤ 16777216; decide)
        have e0 : tst (bin eqD (gb 4) (kc (.int 1))) [.d (.frl (ns.map .int)), .d (.int base), .d (.int m), .o (bs.map enB), .d (.int k), .d (.int h), .d (en (spotP h)), .d (en (hiP h)), .d (enX (boxP h base))] = .ok (decide ((k : Int) = 1)) := e_tst (e_bin rfl rfl (eqD_int _ _))
        have e1 : tst (bin eqD (bin modD (bin divD (gb 2) (kc (.int 5))) (kc (.int 4))) (kc (.int 0))) [.d (.frl (ns.map .int)), .d (.int base), .d (.int m), .o (bs.map enB), .d (.int k), .d (.int h), .d (en (spotP h)), .d (en (hiP h)), .d (enX (boxP h base))] = .ok (decide (m / 5 % 4 = 0)) := e_tst (e_bin (e_bin (e_bin rfl rfl d5) rfl m4) rfl (eqD_int _ _))
        have ea : andT (tst (bin eqD (gb 4) (kc (.int 1)))) (tst (bin eqD (bin modD (bin divD (gb 2) (kc (.int 5))) (kc (.int 4))) (kc (.int 0)))) [.d (.frl (ns.map .int)), .d (.int base), .d (.int m), .o (bs.map enB), .d (.int k), .d (.int h), .d (en (spotP h)), .d (en (hiP h)), .d (enX (boxP h base))] = .ok (decide ((k : Int) = 1) && decide (m / 5 % 4 = 0)) := by
          unfold andT
          rw [e0, Rz.bind_ok]
          cases decide ((k : Int) = 1)
          · rfl
          · show (tst _ _ : Rz Str Bool) = _
            rw [e1, Bool.true_and]
        by_cases hcase : (decide ((k : Int) = 1) && decide (m / 5 % 4 = 0)) = true
        · rw [hcase] at ea
          have hk1 : k = 1 := by
            have := of_decide_eq_true (Bool.and_eq_true_iff.mp hcase).1
            omega
          obtain ⟨b0, hb0⟩ : ∃ b0, bs[0]? = some b0 := ⟨bs[0]'(by omega), List.getElem?_eq_getElem (by omega)⟩
          obtain ⟨bs', y4, y5, y6, y7, y8, g1, g2, g3⟩ := fin b0.1 (hok b0 (List.mem_of_getElem? hb0))
          have i0 : ixD (.lst (bs.map enB)) (.int 0) = some (enB b0) := L2.atI_nat (j := 0) (by rw [List.getElem?_map, hb0]; rfl)
          refine ⟨_, ?_, bs', y4, y5, y6, y7, y8, g2, g3, rfl⟩
          refine (s_st st5).trans ?_
          refine (s_st (c_1 (n := 1) rfl rfl (F_l_spot_eq h) rfl)).trans ?_
          refine (s_st st7).trans ?_
          refine (s_st st8).trans ?_
          refine (s_ifT ea).trans ?_
          refine Eq.trans ?_ g1
          have : stS 8 (bin ixD (bin ixD (gb 3) (kc (.int 0))) (kc (.int 0))) [.d (.frl (ns.map .int)), .d (.int base), .d (.int m), .o (bs.map enB), .d (.int k), .d (.int h), .d (en (spotP h)), .d (en (hiP h)), .d (enX (boxP h base))] = .ok (.nx [.d (.frl (ns.map .int)), .d (.int base), .d (.int m), .o (bs.map enB), .d (.int k), .d (.int h), .d (en (spotP h)), .d (en (hiP h)), .d (enX b0.1)]) := by
            unfold stS
            rw [e_bin (e_bin (q_gbo rfl) rfl i0) rfl (show ixD (enB b0) (.int 0) = some (enX b0.1) from rfl)]
            rfl
          exact congrArg (fun r => seqR r _) this
        · rw [Bool.not_eq_true] at hcase
          rw [hcase] at ea
          obtain ⟨bs', y4, y5, y6, y7, y8, g1, g2, g3⟩ := fin (boxP h base) (box_ok h base)
          refine ⟨_, ?_, bs', y4, y5, y6, y7, y8, g2, g3, rfl⟩
          refine (s_st st5).trans ?_
          refine (s_st (c_1 (n := 1) rfl rfl (F_l_spot_eq h) rfl)).trans ?_
          refine (s_st st7).trans ?_
          refine (s_st st8).trans ?_
          exact (s_ifF ea).trans g1
      obtain ⟨ε2, hb, hI⟩ := goal
      exact ⟨_, rfl, .inl ⟨ε2, .inl hb, hI⟩⟩
    · rintro ε ⟨bs, x4, x5, x6, x7, x8, hl, hok, rfl⟩
      rw [List.length_map, List.length_range] at hl
      exact ⟨bs, x4, x5, x6, x7, x8, hl, hok, rfl⟩
  obtain ⟨bs, x4, x5, x6, x7, x8, hl, hok, hf⟩ := main
  refine ⟨bs, by omega, by omega, hok, ?_⟩
  unfold F_l_boxes bodyF g_l_boxes
  show bodyR (seqS _ _ [.d (.frl (ns.map .int)), .u, .u, .u, .u, .u, .u, .u, .u]) = _
  rw [s_st (c_1 (n := 2) rfl rfl c0 rfl)]
  show bodyR (seqS _ _ [.d (.frl (ns.map .int)), .d (.int base), .u, .u, .u, .u, .u, .u, .u]) = _
  rw [s_st (c_1 (n := 2) (e_cons (c_1 (n := 2) rfl rfl c1 rfl) rfl) rfl hm rfl)]
  show bodyR (seqR ((exS _ (rngF _ [.d (.frl (ns.map .int)), .d (.int base), .d (.int m), .o [], .u, .u, .u, .u, .u])).bind fun xs => forGo _ _ xs _) _) = _
  rw [hcnt, q_exS, q_okB]
  show bodyR (seqR (forGo _ _ _ [.d (.frl (ns.map .int)), .d (.int base), .d (.int m), .o [], .u, .u, .u, .u, .u]) _) = _
  rw [hf, q_nx]
  rfl
/-! ### a point about a box -/
theorem F_l_point_2_eq {l h : P3} {n : Nat} (b1 : BdN n l) (b2 : BdN n h) (h0 : 1 ≤ n) (m : Int) : ∃ p : P3, F_l_point_2 [enX (l, h), .int m] = .ok (.va (en p)) ∧ BdN (n + 1) p := by
  have main : ∃ (vs : List Int) (x3 x4 : Lc), vs.length = 3 ∧ (∀ v ∈ vs, Bd (n + 1) v) ∧ forGo (setN 3) (seqS (stS 4 (bin divD (bin addD (bin ixD (bin ixD (gb 0) (kc (.int 0))) (gb 3)) (bin ixD (bin ixD (gb 0) (kc (.int 1))) (gb 3))) (kc (.int 2)))) (appS 2 (bin ixD (lstF (lsF (consF (bin ixD (bin ixD (gb 0) (kc (.int 0))) (gb 3)) (consF (bin ixD (bin ixD (gb 0) (kc (.int 1))) (gb 3)) (consF (gv 4) (consF (gv 4) (consF (gv 4) (consF (bin subD (bin ixD (bin ixD (gb 0) (kc (.int 0))) (gb 3)) (kc (.int 1))) nilF)))))))) (bin modD (bin divD (gb 1) (bin ixD (lstF (lsF (consF (kc (.int 1)) (consF (kc (.int 7)) (consF (kc (.int 49)) nilF))))) (gb 3))) (kc (.int 6)))))) ((List.range 3).map fun k : Nat => Dt.int k)
      [.d (enX (l, h)), .d (.int m), .o [], .u, .u] = .ok (.nx [.d (enX (l, h)), .d (.int m), .o (vs.map .int), x3, x4]) := by
    refine for_ind (I := fun i ε => ∃ (vs : List Int) (x3 x4 : Lc), vs.length = i ∧ (∀ v ∈ vs, Bd (n + 1) v) ∧ ε = [.d (enX (l, h)), .d (.int m), .o (vs.map .int), x3, x4])
      (O := fun r => ∃ (vs : List Int) (x3 x4 : Lc), vs.length = 3 ∧ (∀ v ∈ vs, Bd (n + 1) v) ∧ r = .ok (.nx [.d (enX (l, h)), .d (.int m), .o (vs.map .int), x3, x4])) ?_ ⟨[], _, _, rfl, (fun _ z => nomatch z), rfl⟩ ?_
    · rintro k d ε hd ⟨vs, x3, x4, hl, hv, rfl⟩
      have hk : k < 3 := by
        have := (List.getElem?_eq_some_iff.mp hd).1
        simpa using this
      have hd' : d = .int k := by
        rw [List.getElem?_map, List.getElem?_range hk] at hd
        exact (Option.some.inj hd).symm
      subst hd'
      have il : ixD (en l) (.int k) = some (.int (co k l)) := en_ix l k hk
      have ih : ixD (en h) (.int k) = some (.int (co k h)) := en_ix h k hk
      have bl : Bd n (co k l) := by
        match k, hk with
        | 0, _ => exact b1.1
        | 1, _ => exact b1.2.1
        | 2, _ => exact b1.2.2
      have bh : Bd n (co k h) := by
        match k, hk with
        | 0, _ => exact b2.1
        | 1, _ => exact b2.2.1
        | 2, _ => exact b2.2.2
      generalize co k l = a at il bl
      generalize co k h = b at ih bh
      have d2 : divD (.int (a + b)) (.int 2) = some (.int ((a + b) / 2)) := div_sm (by decide)
      obtain ⟨q, hq, hq2⟩ : ∃ q : Int, ixD (.lst [.int 1, .int 7, .int 49]) (.int (k : Int)) = some (.int q) ∧ 0 < q ∧ q < 4611686018427387904 := by
        match k, hk with
        | 0, _ => exact ⟨1, rfl, by decide⟩
        | 1, _ => exact ⟨7, rfl, by decide⟩
        | 2, _ => exact ⟨49, rfl, by decide⟩
      have dq : divD (.int m) (.int q) = some (.int (m / q)) := div_sm hq2
      have m6 : modD (.int (m / q)) (.int 6) = some (.int (m / q % 6)) := mod_pos (by decide)
      have bhalf : Bd (n + 1) ((a + b) / 2) := by
        have := bl.add bh
        unfold Bd at *
        omega
      have ba : Bd (n + 1) a := bl.mono (by omega)
      have bb : Bd (n + 1) b := bh.mono (by omega)
      have bs : Bd (n + 1) (a - 1) := bl.sub (Bd.mono (n := 1) (show (1 : Int).natAbs < 2 ^ 1 by decide) h0)
      obtain ⟨v, hv1, hv2⟩ : ∃ v : Int, ixD (.lst [.int a, .int b, .int ((a + b) / 2), .int ((a + b) / 2), .int ((a + b) / 2), .int (a - 1)]) (.int (m / q % 6)) = some (.int v) ∧ Bd (n + 1) v := by
        have lo : 0 ≤ m / q % 6 := Int.emod_nonneg _ (by decide)
        have hi : m / q % 6 < 6 := Int.emod_lt_of_pos _ (by decide)
        rcases (show m / q % 6 = 0 ∨ m / q % 6 = 1 ∨ m / q % 6 = 2 ∨ m / q % 6 = 3 ∨ m / q % 6 = 4 ∨ m / q % 6 = 5 by omega) with e | e | e | e | e | e
        · rw [e]; exact ⟨a, rfl, ba⟩
        · rw [e]; exact ⟨b, rfl, bb⟩
        · rw [e]; exact ⟨_, rfl, bhalf⟩
        · rw [e]; exact ⟨_, rfl, bhalf⟩
        · rw [e]; exact ⟨_, rfl, bhalf⟩
        · rw [e]; exact ⟨_, rfl, bs⟩
      refine ⟨[.d (enX (l, h)), .d (.int m), .o (vs.map .int), .d (.int k), x4], rfl, .inl ⟨[.d (enX (l, h)), .d (.int m), .o ((vs ++ [v]).map .int), .d (.int k), .d (.int ((a + b) / 2))], .inl ?_, vs ++ [v], _, _, by rw [List.length_append, hl]; rfl, fun u hu => ?_, rfl⟩⟩
      · refine (s_st (e_bin (e_bin (e_bin (e_bin rfl rfl rfl) rfl il) (e_bin (e_bin rfl rfl rfl) rfl ih) (add_int _ _)) rfl d2)).trans ?_
        rw [List.map_append]
        refine q_app (ds := vs.map .int) (d := .int v) rfl ?_ (by rw [List.length_map]; omega)
        refine e_bin (x := .lst [.int a, .int b, .int ((a + b) / 2), .int ((a + b) / 2), .int ((a + b) / 2), .int (a - 1)]) ?_ (e_bin (e_bin rfl (e_bin (x := .lst [.int 1, .int 7, .int 49]) rfl rfl hq) dq) rfl m6) hv1
        have ea : bin ixD (bin ixD (gb 0) (kc (.int 0))) (gb 3) [.d (enX (l, h)), .d (.int m), .o (vs.map .int), .d (.int k), .d (.int ((a + b) / 2))] = .ok (.int a) := e_bin (e_bin rfl rfl rfl) rfl il
        have eb : bin ixD (bin ixD (gb 0) (kc (.int 1))) (gb 3) [.d (enX (l, h)), .d (.int m), .o (vs.map .int), .d (.int k), .d (.int ((a + b) / 2))] = .ok (.int b) := e_bin (e_bin rfl rfl rfl) rfl ih
        have ec : lsF (consF (bin ixD (bin ixD (gb 0) (kc (.int 0))) (gb 3)) (consF (bin ixD (bin ixD (gb 0) (kc (.int 1))) (gb 3)) (consF (gv 4) (consF (gv 4) (consF (gv 4) (consF (bin subD (bin ixD (bin ixD (gb 0) (kc (.int 0))) (gb 3)) (kc (.int 1))) nilF)))))) [.d (enX (l, h)), .d (.int m), .o (vs.map .int), .d (.int k), .d (.int ((a + b) / 2))] = .ok [.int a, .int b, .int ((a + b) / 2), .int ((a + b) / 2), .int ((a + b) / 2), .int (a - 1)] := by
          unfold lsF
          rw [e_cons ea (e_cons eb (e_cons rfl (e_cons rfl (e_cons rfl (e_cons (e_bin ea rfl (sub_int _ _)) rfl)))))]
          rfl
        exact e_lst ec
      · rcases List.mem_append.mp hu with z | z
        · exact hv u z
        · rw [List.mem_singleton.mp z]; exact hv2
    · rintro ε ⟨vs, x3, x4, hl, hv, rfl⟩
      exact ⟨vs, x3, x4, by simpa using hl, hv, rfl⟩
  obtain ⟨vs, x3, x4, hl, hv, hf⟩ := main
  match vs, hl, hv, hf with
  | [a, b, c], _, hv, hf =>
    refine ⟨(a, b, c), ?_, hv a (by simp), hv b (by simp), hv c (by simp)⟩
    unfold F_l_point_2 bodyF g_l_point_2
    show bodyR (seqR ((exS _ (rngF _ [.d (enX (l, h)), .d (.int m), .o [], .u, .u])).bind fun xs => forGo _ _ xs [.d (enX (l, h)), .d (.int m), .o [], .u, .u]) _) = _
    rw [rng3, q_exS, q_okB, hf, q_nx]
    rfl
/-! ### what is due -/
def sumB (p : P3) (bs : List Bx) : Int := (bs.map fun b => (if b.2 then -1 else 1) * if inB p b.1.1 b.1.2 then 1 else 0).sum
open Classical in
noncomputable def dueB (p : P3) (bs : List Bx) : Int := if ∃ b ∈ bs, ¬ offB p b.1.1 b.1.2 then 0 else if sumB p bs = 0 then -1 else 1
theorem all3 (f : Nat → Bool) : (List.range 3).all f = (f 0 && (f 1 && f 2)) := by
  show (f 0 && (f 1 && (f 2 && true))) = _
  rw [Bool.and_true]
theorem e_andV {f g : Fn} {ε : Ev} {a b : Bool} (h1 : f ε = .ok (.bl a)) (h2 : g ε = .ok (.bl b)) : andV f g ε = .ok (.bl (a && b)) := by
  unfold andV
  rw [h1]
  cases a
  · rfl
  · show g ε = _
    rw [h2, Bool.true_and]
theorem F_l_due_2_eq {p : P3} {bs : List Bx} (hl : bs.length ≤ 3) : F_l_due_2 [en p, .lst (bs.map enB)] = .ok (.va (.int (dueB p bs))) := by
  have lcS : ∀ (b : Bx) (f : Int) (x4 : Lc), lcF (rngF (kc (.int 3))) [5] (setN 5) yes (andV (bin ltD (bin ixD (bin ixD (gb 3) (kc (.int 0))) (gb 5)) (bin ixD (gb 0) (gb 5))) (bin ltD (bin ixD (gb 0) (gb 5)) (bin ixD (bin ixD (gb 3) (kc (.int 1))) (gb 5)))) [.d (en p), .d (.lst (bs.map enB)), .d (.int f), .d (enX b.1), x4, .u]
      = .ok ((List.range 3).map fun k => .bl (decide (co k b.1.1 < co k p) && decide (co k p < co k b.1.2))) := fun b f x4 => by
    refine lcF_rng (n := 3) rfl (by decide) fun k hk => ?_
    exact e_andV (e_bin (e_bin (e_bin rfl rfl rfl) rfl (en_ix b.1.1 k hk)) (e_bin rfl rfl (en_ix p k hk)) (lt_int _ _)) (e_bin (e_bin rfl rfl (en_ix p k hk)) (e_bin (e_bin rfl rfl rfl) rfl (en_ix b.1.2 k hk)) (lt_int _ _))
  have lcC : ∀ (b : Bx) (f : Int) (x4 : Lc), lcF (rngF (kc (.int 3))) [5] (setN 5) yes (andV (bin leD (bin ixD (bin ixD (gb 3) (kc (.int 0))) (gb 5)) (bin ixD (gb 0) (gb 5))) (bin leD (bin ixD (gb 0) (gb 5)) (bin ixD (bin ixD (gb 3) (kc (.int 1))) (gb 5)))) [.d (en p), .d (.lst (bs.map enB)), .d (.int f), .d (enX b.1), x4, .u]
      = .ok ((List.range 3).map fun k => .bl (decide (co k b.1.1 ≤ co k p) && decide (co k p ≤ co k b.1.2))) := fun b f x4 => by
    refine lcF_rng (n := 3) rfl (by decide) fun k hk => ?_
    exact e_andV (e_bin (e_bin (e_bin rfl rfl rfl) rfl (en_ix b.1.1 k hk)) (e_bin rfl rfl (en_ix p k hk)) (le_int _ _)) (e_bin (e_bin rfl rfl (en_ix p k hk)) (e_bin (e_bin rfl rfl rfl) rfl (en_ix b.1.2 k hk)) (le_int _ _))
  have tS : ∀ (b : Bx) (f : Int) (x4 : Lc), tst (un allD (lstF (lcF (rngF (kc (.int 3))) [5] (setN 5) yes (andV (bin ltD (bin ixD (bin ixD (gb 3) (kc (.int 0))) (gb 5)) (bin ixD (gb 0) (gb 5))) (bin ltD (bin ixD (gb 0) (gb 5)) (bin ixD (bin ixD (gb 3) (kc (.int 1))) (gb 5))))))) [.d (en p), .d (.lst (bs.map enB)), .d (.int f), .d (enX b.1), x4, .u] = .ok (decide (inB p b.1.1 b.1.2)) := fun b f x4 => by
    refine e_tst (e_un (e_lst (lcS b f x4)) ?_)
    rw [allD_bls, all3]
    refine congrArg (fun b => some (Dt.bl b)) ?_
    rw [Bool.eq_iff_iff]
    simp only [Bool.and_eq_true, decide_eq_true_eq]
    unfold inB
    show (b.1.1.1 < p.1 ∧ p.1 < b.1.2.1) ∧ (b.1.1.2.1 < p.2.1 ∧ p.2.1 < b.1.2.2.1) ∧ (b.1.1.2.2 < p.2.2 ∧ p.2.2 < b.1.2.2.2) ↔ _
    exact ⟨fun ⟨⟨h1, h2⟩, ⟨h3, h4⟩, h5, h6⟩ => ⟨h1, h2, h3, h4, h5, h6⟩, fun ⟨h1, h2, h3, h4, h5, h6⟩ => ⟨⟨h1, h2⟩, ⟨h3, h4⟩, h5, h6⟩⟩
  have tC : ∀ (b : Bx) (f : Int) (x4 : Lc), ∃ r : Bool, tst (un allD (lstF (lcF (rngF (kc (.int 3))) [5] (setN 5) yes (andV (bin leD (bin ixD (bin ixD (gb 3) (kc (.int 0))) (gb 5)) (bin ixD (gb 0) (gb 5))) (bin leD (bin ixD (gb 0) (gb 5)) (bin ixD (bin ixD (gb 3) (kc (.int 1))) (gb 5))))))) [.d (en p), .d (.lst (bs.map enB)), .d (.int f), .d (enX b.1), x4, .u] = .ok r ∧ (¬ inB p b.1.1 b.1.2 → (r = true ↔ ¬ offB p b.1.1 b.1.2)) := fun b f x4 => by
    refine ⟨_, e_tst (e_un (e_lst (lcC b f x4)) (allD_bls _ _)), fun hb => ?_⟩
    rw [all3]
    unfold inB at hb
    unfold offB
    rw [Classical.not_not]
    simp only [Bool.and_eq_true, decide_eq_true_eq, co]
    omega
  have off_in : ∀ b : Bx, inB p b.1.1 b.1.2 → offB p b.1.1 b.1.2 := fun b h => by
    unfold inB at h
    unfold offB
    omega
  have main : ((∃ b ∈ bs, ¬ offB p b.1.1 b.1.2) ∧ forGo (setT 2 (setCons (setN 3) (setCons (setN 4) setNil))) (ifS (tst (un allD (lstF (lcF (rngF (kc (.int 3))) [5] (setN 5) yes (andV (bin ltD (bin ixD (bin ixD (gb 3) (kc (.int 0))) (gb 5)) (bin ixD (gb 0) (gb 5))) (bin ltD (bin ixD (gb 0) (gb 5)) (bin ixD (bin ixD (gb 3) (kc (.int 1))) (gb 5)))))))) (stS 2 (bin subD (bin addD (gb 2) (kc (.int 1))) (bin mulD (kc (.int 2)) (un intD (gb 4))))) (ifS (tst (un allD (lstF (lcF (rngF (kc (.int 3))) [5] (setN 5) yes (andV (bin leD (bin ixD (bin ixD (gb 3) (kc (.int 0))) (gb 5)) (bin ixD (gb 0) (gb 5))) (bin leD (bin ixD (gb 0) (gb 5)) (bin ixD (bin ixD (gb 3) (kc (.int 1))) (gb 5)))))))) (rtS (kc (.int 0))) (fun ε => .ok (.nx ε)))) (bs.map enB) [.d (en p), .d (.lst (bs.map enB)), .d (.int 0), .u, .u, .u] = .ok (.rt (.int 0))) ∨
      ((∀ b ∈ bs, offB p b.1.1 b.1.2) ∧ ∃ x3 x4 x5, forGo (setT 2 (setCons (setN 3) (setCons (setN 4) setNil))) (ifS (tst (un allD (lstF (lcF (rngF (kc (.int 3))) [5] (setN 5) yes (andV (bin ltD (bin ixD (bin ixD (gb 3) (kc (.int 0))) (gb 5)) (bin ixD (gb 0) (gb 5))) (bin ltD (bin ixD (gb 0) (gb 5)) (bin ixD (bin ixD (gb 3) (kc (.int 1))) (gb 5)))))))) (stS 2 (bin subD (bin addD (gb 2) (kc (.int 1))) (bin mulD (kc (.int 2)) (un intD (gb 4))))) (ifS (tst (un allD (lstF (lcF (rngF (kc (.int 3))) [5] (setN 5) yes (andV (bin leD (bin ixD (bin ixD (gb 3) (kc (.int 0))) (gb 5)) (bin ixD (gb 0) (gb 5))) (bin leD (bin ixD (gb 0) (gb 5)) (bin ixD (bin ixD (gb 3) (kc (.int 1))) (gb 5)))))))) (rtS (kc (.int 0))) (fun ε => .ok (.nx ε)))) (bs.map enB) [.d (en p), .d (.lst (bs.map enB)), .d (.int 0), .u, .u, .u] = .ok (.nx [.d (en p), .d (.lst (bs.map enB)), .d (.int (sumB p bs)), x3, x4, x5])) := by
    refine for_ind (I := fun i ε => (∀ b ∈ bs.take i, offB p b.1.1 b.1.2) ∧ ∃ x3 x4, ε = [.d (en p), .d (.lst (bs.map enB)), .d (.int (sumB p (bs.take i))), x3, x4, .u])
      (O := fun r => ((∃ b ∈ bs, ¬ offB p b.1.1 b.1.2) ∧ r = .ok (.rt (.int 0))) ∨ ((∀ b ∈ bs, offB p b.1.1 b.1.2) ∧ ∃ x3 x4 x5, r = .ok (.nx [.d (en p), .d (.lst (bs.map enB)), .d (.int (sumB p bs)), x3, x4, x5]))) ?_ ⟨(fun _ z => by rw [List.take_zero] at z; cases z), _, _, rfl⟩ ?_
    · rintro i d ε hd ⟨ho, x3, x4, rfl⟩
      rw [List.getElem?_map] at hd
      obtain ⟨b, hb, rfl⟩ := Option.map_eq_some_iff.mp hd
      have ts := tS b (sumB p (bs.take i)) (.d (.bl b.2))
      obtain ⟨r, tc, hr⟩ := tC b (sumB p (bs.take i)) (.d (.bl b.2))
      have s1 : sumB p (bs.take (i + 1)) = sumB p (bs.take i) + (if b.2 then -1 else 1) * if inB p b.1.1 b.1.2 then 1 else 0 := by
        rw [List.take_succ, hb]
        unfold sumB
        simp [List.sum_append]
      have next : offB p b.1.1 b.1.2 → ∀ b' ∈ bs.take (i + 1), offB p b'.1.1 b'.1.2 := fun o b' h => by
        rw [List.take_succ, hb] at h
        rcases List.mem_append.mp h with h | h
        · exact ho b' h
        · have : b' = b := by simpa using h
          rw [this]; exact o
      refine ⟨[.d (en p), .d (.lst (bs.map enB)), .d (.int (sumB p (bs.take i))), .d (enX b.1), .d (.bl b.2), .u], rfl, ?_⟩
      by_cases hin : inB p b.1.1 b.1.2
      · rw [decide_eq_true hin] at ts
        refine .inl ⟨[.d (en p), .d (.lst (bs.map enB)), .d (.int (sumB p (bs.take (i + 1)))), .d (enX b.1), .d (.bl b.2), .u], .inl ?_, next (off_in b hin), _, _, rfl⟩
        refine (i_T ts).trans ?_
        rw [s1, if_pos hin]
        have i1 : un intD (gb 4) [.d (en p), .d (.lst (bs.map enB)), .d (.int (sumB p (bs.take i))), .d (enX b.1), .d (.bl b.2), .u] = .ok (.int (if b.2 then 1 else 0)) := e_un rfl (by cases b.2 <;> rfl)
        have m2 : mulD (.int 2) (.int (if b.2 then 1 else 0)) = some (.int (2 * (if b.2 then 1 else 0))) := mul_left (by decide)
        unfold stS
        rw [e_bin (e_bin rfl rfl (add_int _ _)) (e_bin rfl i1 m2) (sub_int _ _), q_exS, q_okB]
        refine congrArg (fun z => Rz.ok (Re.nx [.d (en p), .d (.lst (bs.map enB)), .d (.int z), .d (enX b.1), .d (.bl b.2), .u])) ?_
        cases b.2 <;> simp <;> omega
      · rw [decide_eq_false hin] at ts
        cases r with
        | true =>
          refine .inr ⟨.int 0, (i_F ts).trans ((i_T tc).trans rfl), .inl ⟨⟨b, List.mem_of_getElem? hb, (hr hin).mp rfl⟩, rfl⟩⟩
        | false =>
          refine .inl ⟨[.d (en p), .d (.lst (bs.map enB)), .d (.int (sumB p (bs.take (i + 1)))), .d (enX b.1), .d (.bl b.2), .u], .inl ?_, next (Classical.byContradiction fun z => nomatch (hr hin).mpr z), _, _, rfl⟩
          refine (i_F ts).trans ((i_F tc).trans ?_)
          rw [s1, if_neg hin, Int.mul_zero, Int.add_zero]
    · rintro ε ⟨ho, x3, x4, rfl⟩
      rw [List.length_map, List.take_length] at ho ⊢
      exact .inr ⟨ho, x3, x4, .u, rfl⟩
  unfold F_l_due_2 dueB
  refine b_rt ?_
  unfold g_l_due_2
  refine (s_st (d := .int 0) rfl).trans ?_
  show seqR (forGo _ _ (bs.map enB) [.d (en p), .d (.lst (bs.map enB)), .d (.int 0), .u, .u, .u]) _ = _
  rcases main with ⟨ex, hf⟩ | ⟨al, x3, x4, x5, hf⟩
  · rw [hf, if_pos ex]
    rfl
  · rw [hf, if_neg (fun ⟨b, h1, h2⟩ => h2 (al b h1)), q_nx]
    have e0 : tst (bin eqD (gb 2) (kc (.int 0))) [.d (en p), .d (.lst (bs.map enB)), .d (.int (sumB p bs)), x3, x4, x5] = .ok (decide (sumB p bs = 0)) := e_tst (e_bin rfl rfl (eqD_int _ _))
    by_cases z : sumB p bs = 0
    · rw [if_pos z]
      rw [decide_eq_true z] at e0
      refine (s_ifT e0).trans ?_
      rfl
    · rw [if_neg z]
      rw [decide_eq_false z] at e0
      refine (s_ifF e0).trans ?_
      rfl
/-! ### the skins of several boxes -/
def skinB (bs : List Bx) : List T3 := bs.flatMap fun b => skinT b.2 b.1.1 b.1.2
theorem skin_len (ab : Bool) (l h : P3) : (skinT ab l h).length = 12 := by cases ab <;> rfl
theorem skinB_len (bs : List Bx) : (skinB bs).length = 12 * bs.length := by
  unfold skinB
  induction bs with
  | nil => rfl
  | cons q l ih => rw [List.flatMap_cons, List.length_append, ih, List.length_cons, skin_len]; omega
theorem skinB_shut (bs : List Bx) : Shut (skinB bs) := by
  induction bs with
  | nil => exact List.Perm.refl _
  | cons q l ih => exact shut_app (skin_shut _ _ _) ih
theorem skinB_bd {bs : List Bx} (h : ∀ b ∈ bs, BxOk b.1) : ∀ t ∈ skinB bs, BdT 60 t := by
  intro t ht
  obtain ⟨b, hb, ht⟩ := List.mem_flatMap.mp ht
  exact skin_bd (h b hb).lo (h b hb).hi b.2 t ht
theorem BxOk.o {b : P3 × P3} (k : BxOk b) : ∀ j, j < 3 → co j b.1 ≤ co j b.2 := fun j hj => by
  match j, hj with
  | 0, _ => exact k.o0
  | 1, _ => exact k.o1
  | 2, _ => exact k.o2
theorem skinB_on {p : P3} {bs : List Bx} (h : ∀ b ∈ bs, BxOk b.1) : OnT p (skinB bs) ↔ ∃ b ∈ bs, ¬ offB p b.1.1 b.1.2 := by
  constructor
  · rintro ⟨t, ht, h3⟩
    obtain ⟨b, hb, ht⟩ := List.mem_flatMap.mp ht
    exact ⟨b, hb, (offB_iff (ab := b.2) (h b hb).o).mp ⟨t, ht, h3⟩⟩
  · rintro ⟨b, hb, ho⟩
    obtain ⟨t, ht, h3⟩ := (offB_iff (ab := b.2) (h b hb).o).mpr ho
    exact ⟨t, List.mem_flatMap.mpr ⟨b, hb, ht⟩, h3⟩
theorem skinB_wind {p w : P3} {L : List P3} (g : Gen p w L) (bz : Base p w L) : ∀ {bs : List Bx}, (∀ b ∈ bs, BxOk b.1) → (∀ c ∈ crn (skinB bs), c ∈ L) → (∀ b ∈ bs, offB p b.1.1 b.1.2) → windT p w (skinB bs) = sumB p bs
  | [], _, _, _ => rfl
  | b :: bs, ok, sub, off => by
    have e : skinB (b :: bs) = skinT b.2 b.1.1 b.1.2 ++ skinB bs := rfl
    have c : ∀ {x : P3}, x ∈ crn (skinT b.2 b.1.1 b.1.2) ∨ x ∈ crn (skinB bs) → x ∈ L := fun h => sub _ (by
      rw [e]
      unfold crn at *
      rw [List.flatMap_append]
      exact List.mem_append.mpr h)
    have k := ok b List.mem_cons_self
    have ih := skinB_wind g bz (fun b' h => ok b' (List.mem_cons_of_mem _ h)) (fun x hx => c (.inr hx)) fun b' h => off b' (List.mem_cons_of_mem _ h)
    have w1 := skin_wind g bz (fun x hx => c (.inl hx)) k.o0 k.o1 k.o2 (off b List.mem_cons_self)
    have e2 : windT p w (skinT b.2 b.1.1 b.1.2 ++ skinB bs) = windT p w (skinT b.2 b.1.1 b.1.2) + windT p w (skinB bs) := by
      unfold windT
      rw [List.map_append, List.sum_append]
    rw [e, e2, ih, w1]
    unfold sumB
    rw [List.map_cons, List.sum_cons]
theorem place_boxes {p : P3} {bs : List Bx} (ok : ∀ b ∈ bs, BxOk b.1) (hl : bs.length ≤ 3) (bp : BdN 61 p) : F_place_of [en p, .lst ((skinB bs).map enT)] = .ok (.va (.int (dueB p bs))) := by
  obtain ⟨w, ⟨gen, base⟩, hon, hoff⟩ := F_place_of_eqB (skinB_shut bs) bp (fun t ht => ⟨(skinB_bd ok t ht).1.mono (by decide), (skinB_bd ok t ht).2.1.mono (by decide), (skinB_bd ok t ht).2.2.mono (by decide)⟩) (by decide) (by decide) (by rw [skinB_len]; omega)
  unfold dueB
  by_cases on : OnT p (skinB bs)
  · rw [hon on, if_pos ((skinB_on ok).mp on)]
  · have off : ¬ ∃ b ∈ bs, ¬ offB p b.1.1 b.1.2 := fun z => on ((skinB_on ok).mpr z)
    rw [hoff on, if_neg off, skinB_wind gen base ok (fun _ h => h) fun b hb => Classical.byContradiction fun z => off ⟨b, hb, z⟩]
end DL
end
section
set_option Elab.async false
set_option linter.all false
set_option maxRecDepth 100000
set_option maxHeartbeats 4000000
set_option autoImplicit false
namespace DL
variable [TbC]
open PySem
theorem enTs_okq (ts : List T3) : okqs 2 (ts.map enT) = true := by
  induction ts with
  | nil => rfl
  | cons a l ih => rw [List.map_cons, okqs, ih]; rfl
theorem eqq_enT (t : T3) : eqq (enT t) (enT t) = true := by
  unfold enT
  rw [eqq_tup, eqqs_cons, eqqs_cons, eqqs_cons, eqqs_nil, eqq_en, eqq_en, eqq_en]
  simp
theorem ne_enTs (ts : List T3) : neD (.lst (ts.map enT)) (.lst (ts.map enT)) = some (.bl false) := by
  rw [neD_of (n := 3) (show okq 3 (.lst (ts.map enT)) = true from enTs_okq ts) (show okq 3 (.lst (ts.map enT)) = true from enTs_okq ts) (by decide), eqq_lst]
  have : eqqs (ts.map enT) (ts.map enT) = true := by
    induction ts with
    | nil => rfl
    | cons a l ih => rw [List.map_cons, eqqs_cons, ih, eqq_enT]; rfl
  rw [this]; rfl
theorem c_ex {n : Nat} {G : Fd} {fs : Fs} {ε : Ev} {c : Str} {ds : List Dt} (h1 : fs ε = .ok ds) (h2 : ds.length = n) (h3 : G ds = .ex c) : callF n G fs ε = .ex c := by
  unfold callF
  rw [h1, Rz.bind_ok, if_pos h2, h3]
  rfl
theorem place_open {p : P3} {us : List T3} (hl : us.length < 1000000) (h : closedB (edgs us) = false) : F_place_of [en p, .lst (us.map enT)] = .ex "NotClosed" := by
  have hc := F_is_closed_eq hl
  rw [h] at hc
  unfold F_place_of bodyF g_place_of
  show bodyR (seqS _ _ [.d (en p), .d (.lst (us.map enT))]) = _
  rw [s_ifT (by simp only [bodyF, startE, seqS, stS, stO, rtS, roS, roV, asS, ifS, xpS, bin, un, unN, lstF, lsF, consF, nilF, tupF, kc, gv, gb, tst, andT, orT, notT, andV, orV, notV, ifV, callF, callN, iterF, rngF, walked, slF, noP, soP, setN, setT, setCons, setNil, wipeE, yes, forS, prS, Rz.bind_ok, q_ofO, q_ofN, q_bad, q_ex, q_exS, q_exX, q_exB, q_okB, q_nx, q_rt, q_ro, q_bk, q_ct, q_sx, q_anx, q_act, q_abk, q_art, q_bnx, q_brt, q_bro, q_bex, q_va, q_ow, q_boo, add_int, sub_int, lt_int, le_int, gt_int, ge_int, neg_int, List.map_cons, List.map_nil, List.length_cons, List.length_nil, List.nil_append, List.cons_append, List.replicate, List.getElem?_cons_zero, List.getElem?_cons_succ, env_set0, env_setS, Option.bind_some, Option.map_some, if_true, Bool.false_eq_true, if_false, Nat.reduceAdd, Nat.reduceSub, sizeLine_eq, Nat.reduceLeDiff, Nat.zero_le, hc, Bool.not_false])]
  rfl
theorem law_true (ns : List Int) (hn : ns.length ≤ 63) : F_law_k22 [.frl (ns.map .int)] = .ok (.va (.bl true)) := by
  obtain ⟨bs, hb1, hb2, ok, hboxes⟩ := F_l_boxes_eq ns hn
  have slen := skinB_len bs
  have hS : ∀ ab (b : P3 × P3), F_l_skin [enX b, .bl ab] = .ok (.ow ((skinT ab b.1 b.2).map enT)) := fun ab b => F_l_skin_eq ab b.1 b.2
  -- the triangles
  have tris : ∃ x3 x4, forGo (setT 2 (setCons (setN 3) (setCons (setN 4) setNil))) (stS 2 (bin addD (gb 2) (callF 2 F_l_skin (consF (gv 3) (consF (gv 4) nilF))))) (bs.map enB) [.d (.frl (ns.map .int)), .d (.lst (bs.map enB)), .d (.lst []), .u, .u, .u, .u, .u, .u, .u, .u] = .ok (.nx [.d (.frl (ns.map .int)), .d (.lst (bs.map enB)), .d (.lst ((skinB bs).map enT)), x3, x4, .u, .u, .u, .u, .u, .u]) := by
    refine for_ind (I := fun i ε => ∃ x3 x4, ε = [.d (.frl (ns.map .int)), .d (.lst (bs.map enB)), .d (.lst ((skinB (bs.take i)).map enT)), x3, x4, .u, .u, .u, .u, .u, .u])
      (O := fun r => ∃ x3 x4, r = .ok (.nx [.d (.frl (ns.map .int)), .d (.lst (bs.map enB)), .d (.lst ((skinB bs).map enT)), x3, x4, .u, .u, .u, .u, .u, .u])) ?_ ⟨_, _, rfl⟩ ?_
    · rintro i d ε hd ⟨x3, x4, rfl⟩
      rw [List.getElem?_map] at hd
      obtain ⟨b, hb, rfl⟩ := Option.map_eq_some_iff.mp hd
      have l1 := skinB_len (bs.take i)
      have l2 : (bs.take i).length ≤ 3 := by rw [List.length_take]; omega
      have e1 : skinB (bs.take (i + 1)) = skinB (bs.take i) ++ skinT b.2 b.1.1 b.1.2 := by
        rw [List.take_succ, hb]
        unfold skinB
        rw [List.flatMap_append]
        simp
      have av : addD (.lst ((skinB (bs.take i)).map enT)) (.lst ((skinT b.2 b.1.1 b.1.2).map enT)) = some (.lst ((skinB (bs.take (i + 1))).map enT)) := by
        rw [e1, List.map_append]
        exact if_pos (by rw [List.length_map, List.length_map, l1, skin_len, sizeLine_eq]; omega)
      refine ⟨[.d (.frl (ns.map .int)), .d (.lst (bs.map enB)), .d (.lst ((skinB (bs.take i)).map enT)), .d (enX b.1), .d (.bl b.2), .u, .u, .u, .u, .u, .u], rfl, .inl ⟨[.d (.frl (ns.map .int)), .d (.lst (bs.map enB)), .d (.lst ((skinB (bs.take (i + 1))).map enT)), .d (enX b.1), .d (.bl b.2), .u, .u, .u, .u, .u, .u], .inl ?_, _, _, rfl⟩⟩
      unfold stS
      rw [e_bin (x := .lst ((skinB (bs.take i)).map enT)) (y := .lst ((skinT b.2 b.1.1 b.1.2).map enT)) (q_gb rfl) (c_1 (n := 2) (ds := [enX b.1, .bl b.2]) rfl rfl (hS _ _) rfl) av, q_exS, q_okB]
      rfl
    · rintro ε ⟨x3, x4, rfl⟩
      rw [List.length_map, List.take_length]
      exact ⟨x3, x4, rfl⟩
  obtain ⟨x3, x4, htris⟩ := tris
  have ll : lenD (.lst (bs.map enB)) = some (.int bs.length) := by
    show some (Dt.int (bs.map enB).length) = _
    rw [List.length_map]
  -- the two rounds
  have rounds : ∃ x6 x7 x8 x9, forGo (setN 6) (seqS (stS 7 (callF 2 F_l_drawn (consF (callF 2 F_l_cell (consF (gv 0) (consF (bin addD (gb 6) (kc (.int 6))) nilF))) (consF (gv 6) nilF)))) (seqS (stS 8 (callF 2 F_l_point_2 (consF (bin ixD (bin ixD (gb 1) (bin modD (gb 7) (un lenD (gb 1)))) (kc (.int 0))) (consF (bin divD (gb 7) (kc (.int 6))) nilF)))) (seqS (stS 9 (callF 2 F_place_of (consF (gv 8) (consF (gv 2) nilF)))) (ifS (orT (tst (bin neD (gb 9) (callF 2 F_l_due_2 (consF (gv 8) (consF (gv 1) nilF))))) (orT (notT (tst (callF 1 F_l_whole (consF (gv 9) nilF)))) (tst (bin neD (gb 2) (gb 5))))) (rtS (kc (.bl false))) (fun ε => .ok (.nx ε))))))
      ((List.range 2).map fun k : Nat => Dt.int k) [.d (.frl (ns.map .int)), .d (.lst (bs.map enB)), .d (.lst ((skinB bs).map enT)), x3, x4, .d (.lst ((skinB bs).map enT)), .u, .u, .u, .u, .u] = .ok (.nx [.d (.frl (ns.map .int)), .d (.lst (bs.map enB)), .d (.lst ((skinB bs).map enT)), x3, x4, .d (.lst ((skinB bs).map enT)), x6, x7, x8, x9, .u]) := by
    refine for_ind (I := fun i ε => ∃ x6 x7 x8 x9, ε = [.d (.frl (ns.map .int)), .d (.lst (bs.map enB)), .d (.lst ((skinB bs).map enT)), x3, x4, .d (.lst ((skinB bs).map enT)), x6, x7, x8, x9, .u])
      (O := fun r => ∃ x6 x7 x8 x9, r = .ok (.nx [.d (.frl (ns.map .int)), .d (.lst (bs.map enB)), .d (.lst ((skinB bs).map enT)), x3, x4, .d (.lst ((skinB bs).map enT)), x6, x7, x8, x9, .u])) ?_ ⟨_, _, _, _, rfl⟩ ?_
    · rintro k d ε hd ⟨x6, x7, x8, x9, rfl⟩
      have hk : k < 2 := by
        have := (List.getElem?_eq_some_iff.mp hd).1
        simpa using this
      have hd' : d = .int k := by
        rw [List.getElem?_map, List.getElem?_range hk] at hd
        exact (Option.some.inj hd).symm
      subst hd'
      refine ⟨[.d (.frl (ns.map .int)), .d (.lst (bs.map enB)), .d (.lst ((skinB bs).map enT)), x3, x4, .d (.lst ((skinB bs).map enT)), .d (.int k), x7, x8, x9, .u], rfl, .inl ?_⟩
      have hc := F_l_cell_eq ns hn (k + 6) (by omega)
      generalize cell ns (k + 6) = c at hc
      have hm := F_l_drawn_eq c k
      generalize drawn c k = h at hm
      have p0 : (0 : Int) < bs.length := by omega
      have a1 := Int.emod_nonneg h (show (bs.length : Int) ≠ 0 by omega)
      have a2 := Int.emod_lt_of_pos h p0
      obtain ⟨i, hi⟩ : ∃ i : Nat, h % bs.length = i := ⟨(h % bs.length).toNat, by omega⟩
      have hil : i < bs.length := by omega
      have md : modD (.int h) (.int bs.length) = some (.int (i : Int)) := by rw [mod_pos p0, hi]
      obtain ⟨b, hb⟩ : ∃ b, b = bs[i] := ⟨_, rfl⟩
      have ix : ixD (.lst (bs.map enB)) (.int (i : Int)) = some (enB b) := L2.atI_nat (by rw [List.getElem?_map, List.getElem?_eq_getElem hil, ← hb]; rfl)
      have kb := ok b (hb ▸ List.getElem_mem hil)
      obtain ⟨p, hpt, bp⟩ := F_l_point_2_eq (l := b.1.1) (h := b.1.2) kb.lo kb.hi (by decide) (h / 6)
      have d6 : divD (.int h) (.int 6) = some (.int (h / 6)) := div_sm (by decide)
      have pl := place_boxes ok hb2 bp
      have du := F_l_due_2_eq (p := p) hb2
      have nn : ∀ v : Int, neD (.int v) (.int v) = some (.bl false) := fun v => by rw [neD_int]; simp
      have wh := whole_int (dueB p bs)
      have nt := ne_enTs (skinB bs)
      refine ⟨[.d (.frl (ns.map .int)), .d (.lst (bs.map enB)), .d (.lst ((skinB bs).map enT)), x3, x4, .d (.lst ((skinB bs).map enT)), .d (.int k), .d (.int h), .d (en p), .d (.int (dueB p bs)), .u], .inl ?_, _, _, _, _, rfl⟩
      refine (s_st (c_1 (n := 2) (e_cons (c_1 (n := 2) (ds := [.frl (ns.map .int), .int ((k + 6 : Nat) : Int)]) (e_cons (q_gv rfl) (e_cons (e_bin (q_gb rfl) rfl rfl) rfl)) rfl hc rfl) (e_cons (q_gv rfl) rfl)) rfl hm rfl)).trans ?_
      refine (s_st (d := en p) (c_1 (n := 2) (ds := [enX b.1, .int (h / 6)]) (e_cons (e_bin (e_bin (q_gb rfl) (e_bin (q_gb rfl) (e_un (q_gb rfl) ll) md) ix) rfl (show ixD (enB b) (.int 0) = some (enX b.1) from rfl)) (e_cons (e_bin (q_gb rfl) rfl d6) rfl)) rfl hpt rfl)).trans ?_
      refine (s_st (d := .int (dueB p bs)) (c_1 (n := 2) rfl rfl pl rfl)).trans ?_
      refine i_F ?_
      simp only [bodyF, startE, seqS, stS, stO, rtS, roS, roV, asS, ifS, xpS, bin, un, unN, lstF, lsF, consF, nilF, tupF, kc, gv, gb, tst, andT, orT, notT, andV, orV, notV, ifV, callF, callN, iterF, rngF, walked, slF, noP, soP, setN, setT, setCons, setNil, wipeE, yes, forS, prS, Rz.bind_ok, q_ofO, q_ofN, q_bad, q_ex, q_exS, q_exX, q_exB, q_okB, q_nx, q_rt, q_ro, q_bk, q_ct, q_sx, q_anx, q_act, q_abk, q_art, q_bnx, q_brt, q_bro, q_bex, q_va, q_ow, q_boo, add_int, sub_int, lt_int, le_int, gt_int, ge_int, neg_int, List.map_cons, List.map_nil, List.length_cons, List.length_nil, List.nil_append, List.cons_append, List.replicate, List.getElem?_cons_zero, List.getElem?_cons_succ, env_set0, env_setS, Option.bind_some, Option.map_some, if_true, Bool.false_eq_true, if_false, Nat.reduceAdd, Nat.reduceSub, sizeLine_eq, Nat.reduceLeDiff, Nat.zero_le, du, nn, wh, nt, Bool.not_true]
    · rintro ε ⟨x6, x7, x8, x9, rfl⟩
      exact ⟨_, _, _, _, rfl⟩
  obtain ⟨x6, x7, x8, x9, hrounds⟩ := rounds
  -- behind them
  obtain ⟨b0, hb0⟩ : ∃ b0, bs[0]? = some b0 := ⟨bs[0], List.getElem?_eq_getElem hb1⟩
  have i0 : ixD (.lst (bs.map enB)) (.int 0) = some (enB b0) := L2.atI_nat (j := 0) (by rw [List.getElem?_map, hb0]; rfl)
  have k0 := ok b0 (List.mem_of_getElem? hb0)
  have c8 : F_l_cell [.frl (ns.map .int), .int 8] = .ok (.va (.int (cell ns 8))) := F_l_cell_eq ns hn 8 (by decide)
  generalize cell ns 8 = c at c8
  have h8 := F_l_drawn_eq c 8
  generalize drawn c 8 = h at h8
  have d2 : divD (.int h) (.int 2) = some (.int (h / 2)) := div_sm (by decide)
  have m2 : modD (.int h) (.int 2) = some (.int (h % 2)) := mod_pos (by decide)
  have d6 : divD (.int h) (.int 6) = some (.int (h / 6)) := div_sm (by decide)
  have m5 : mulD (.int (h / 2)) (.int 5) = some (.int (h / 2 * 5)) := mul_right (by decide)
  obtain ⟨us, hed, hul, _⟩ := F_l_edited_eq (n := 60) (ts := skinT false b0.1.1 b0.1.2) (skin_bd k0.lo k0.hi false) (by rw [skin_len]; decide) (by rw [skin_len]; decide) (m := h / 2 * 5 + h % 2)
  have hcl := F_l_closed_eq (ts := us) (by rw [skin_len] at hul; omega)
  obtain ⟨p, hpt, bp⟩ := F_l_point_2_eq (l := b0.1.1) (h := b0.1.2) k0.lo k0.hi (by decide) (h / 6)
  have lst2 : listD (.lst ((skinB bs).map enT)) = some ((skinB bs).map enT) := rfl
  unfold F_law_k22
  refine b_rt ?_
  unfold g_law_k22
  show seqS _ _ [.d (.frl (ns.map .int)), .u, .u, .u, .u, .u, .u, .u, .u, .u, .u] = _
  refine (s_st (d := .lst (bs.map enB)) (c_1 (n := 1) rfl rfl hboxes rfl)).trans ?_
  refine (s_st (d := .lst []) rfl).trans ?_
  show seqR (forS (iterF (gv 1)) _ _ [.d (.frl (ns.map .int)), .d (.lst (bs.map enB)), .d (.lst []), .u, .u, .u, .u, .u, .u, .u, .u]) _ = _
  unfold forS
  rw [show iterF (gv 1) [.d (.frl (ns.map .int)), .d (.lst (bs.map enB)), .d (.lst []), .u, .u, .u, .u, .u, .u, .u, .u] = .ok (bs.map enB) from rfl, q_exS, q_okB, htris, q_nx]
  refine (s_st (d := .lst ((skinB bs).map enT)) (e_lst (e_unN (q_gb rfl) lst2))).trans ?_
  show seqR ((exS _ (rngF (kc (.int 2)) _)).bind _) _ = _
  have rng2 : ∀ ε : Ev, rngF (kc (.int 2)) ε = .ok ((List.range 2).map fun k : Nat => Dt.int k) := fun _ => rfl
  rw [rng2, q_exS, q_okB]
  show seqR (forGo _ _ _ [.d (.frl (ns.map .int)), .d (.lst (bs.map enB)), .d (.lst ((skinB bs).map enT)), x3, x4, .d (.lst ((skinB bs).map enT)), .u, .u, .u, .u, .u]) _ = _
  rw [hrounds, q_nx]
  refine (s_st (d := .int h) (c_1 (n := 2) (e_cons (c_1 (n := 2) rfl rfl c8 rfl) rfl) rfl h8 rfl)).trans ?_
  refine (s_st (d := .lst (us.map enT)) (c_1 (n := 2) (ds := [.lst ((skinT false b0.1.1 b0.1.2).map enT), .int (h / 2 * 5 + h % 2)]) (e_cons (c_1 (n := 2) (ds := [enX b0.1, .bl false]) (e_cons (e_bin (e_bin (q_gb rfl) rfl i0) rfl (show ixD (enB b0) (.int 0) = some (enX b0.1) from rfl)) rfl) rfl (hS _ _) rfl) (e_cons (e_bin (e_bin (e_bin (q_gb rfl) rfl d2) rfl m5) (e_bin (q_gb rfl) rfl m2) (add_int _ _)) rfl)) rfl hed rfl)).trans ?_
  have tcl : tst (callF 1 F_l_closed (consF (gv 10) nilF)) [.d (.frl (ns.map .int)), .d (.lst (bs.map enB)), .d (.lst ((skinB bs).map enT)), x3, x4, .d (.lst ((skinB bs).map enT)), x6, .d (.int h), x8, x9, .d (.lst (us.map enT))] = .ok (closedB (edgs us)) := e_tst (c_1 (n := 1) (ds := [.lst (us.map enT)]) rfl rfl hcl rfl)
  cases hcb : closedB (edgs us) with
  | true =>
    rw [hcb] at tcl
    exact (s_ifT tcl).trans rfl
  | false =>
    rw [hcb] at tcl
    refine (s_ifF tcl).trans ?_
    refine (s_st (d := en p) (c_1 (n := 2) (ds := [enX b0.1, .int (h / 6)]) (e_cons (e_bin (e_bin (q_gb rfl) rfl i0) rfl (show ixD (enB b0) (.int 0) = some (enX b0.1) from rfl)) (e_cons (e_bin (q_gb rfl) rfl d6) rfl)) rfl hpt rfl)).trans ?_
    have po := place_open (p := p) (us := us) (by rw [skin_len] at hul; omega) hcb
    have ft : toldF [("NoRay", .str "NoRay"), ("NoShape", .str "NoShape"), ("NotClosed", .str "NotClosed")] toldR (callF 2 F_place_of (consF (gv 8) (consF (gv 10) nilF))) [.d (.frl (ns.map .int)), .d (.lst (bs.map enB)), .d (.lst ((skinB bs).map enT)), x3, x4, .d (.lst ((skinB bs).map enT)), x6, .d (.int h), .d (en p), x9, .d (.lst (us.map enT))] = .ok (.tup [.str "refused", .str "NotClosed"]) := by
      have : callF 2 F_place_of (consF (gv 8) (consF (gv 10) nilF)) (lamE [.d (.frl (ns.map .int)), .d (.lst (bs.map enB)), .d (.lst ((skinB bs).map enT)), x3, x4, .d (.lst ((skinB bs).map enT)), x6, .d (.int h), .d (en p), x9, .d (.lst (us.map enT))]) = .ex "NotClosed" := by
        exact c_ex (ds := [en p, .lst (us.map enT)]) rfl rfl po
      unfold toldF
      rw [this]
      kernel_rfl
    refine s_rt (e_bin ft (y := .tup [.str "refused", .str "NotClosed"]) ?_ ?_)
    · exact e_tup (e_cons rfl (e_cons rfl rfl)) (by show 2 ≤ 16777216; decide)
    · kernel_rfl
end DL
end
set_option maxHeartbeats 0
namespace Lw
open PySem PySem.Spec PyProof.Rows L2 DL
abbrev R : PySem.W.OpenRow := PySem.W.OpenLaw.row PySem.Challenge.rw_firsthit_k22_whole_place_in_boxes
abbrev hk : PySem.W.Hook := He.hookX 4 fa fn [] tf (exOf xs)
def ob (s : PySem.W.SharedT) : He.AlX := He.obsX 4 fa fn [] tf (exOf xs) (HandSHeadRun.getT s)
theorem ob_eq (s : PySem.W.SharedT) : ob s = hk.obs s.abs := He.obsX_eq (HandSHeadRun.getT_eq s)
theorem run (w : World) : HandSHeadRun.RunEq R (PySem.W.view R.prog [45]) hk ob 6000 ("HitError" :: "NoRay" :: "NoShape" :: "NotClosed" :: "BadRow" :: "minus" :: "dot" :: "cross" :: "sign" :: "ratio" :: "is_less" :: "lesser" :: "turn" :: "ZERO" :: "along" :: "on_line" :: "meets_segment" :: "is_within" :: "meets_flat" :: "meets_triangle" :: "edges" :: "is_closed" :: "is_on" :: "far_way" :: "wound" :: "place_of" :: "_law_cell" :: "_law_drawn" :: "_law_whole" :: "_law_spot" :: "_law_put" :: "_law_face" :: "_law_skin" :: "_law_closed" :: "_law_edited" :: "_law_word" :: "_law_told" :: "_law_boxes" :: "_law_point" :: "_law_due" :: []) w := by
  intro os
  kernel_rfl
theorem facts {w : World} {K : PySem.W.Frag} {h : Heap} {mg : Str → Option Value} {f : Addr} (X : K.In h) (G : h.Ns mainGlobals mg) (hfa : mg ("law" : Str) = some (.ref f)) (c : He.SaysX fa fn [] tf (exOf xs) w h K) :
    LamX.LawAtS PySem.Challenge.rw_firsthit_k22_whole_place_in_boxes w K CX0 11 63 "_law_script" mg f h := by
  obtain ⟨fd, F⟩ : ∃ fd, FunD K h_law.name h_law.qual h_law.params h_law.body h_law.scope (h_law.dvs K) (h_law.kws K) (He.fAd K h_law.at_) fd := c.t.d.def_ 34 (d := h_law) rfl
  have g : mg "law" = some (.ref (He.ga K "law")) := He.glo_ok X G (c.t.d.fact 54)
  have e := hfa.symm.trans g
  cases e
  have b := FunD.bindsA (ps := ["_law_script"]) F fun _ _ _ _ _ _ us hl => match us, hl with | [_], _ => rfl
  refine law_at (ts := ts) rfl X c (fun s v => b s [v] rfl) fun base _ _ tb => ?_
  letI : TbC := ⟨tabsOf K ts, w⟩
  exact law_ok (law_df (tx_of X G c.more c.t.d tb) F) law_true
end Lw
open PySem PySem.W PySem.Calls PyProof.Rows
theorem PySem.Challenge.cw_firsthit_k22_whole_place_in_boxes_holds : PySem.Challenge.rw_firsthit_k22_whole_place_in_boxes.Holds := by
  w_on; o_law
  refine HandSHeadRun.head_any (r := OpenLaw.row PySem.Challenge.rw_firsthit_k22_whole_place_in_boxes) (q := view (OpenLaw.row PySem.Challenge.rw_firsthit_k22_whole_place_in_boxes).prog [45]) (H := Lw.hk) (ob := Lw.ob) (M := 6000) (loose := ("HitError" :: "NoRay" :: "NoShape" :: "NotClosed" :: "BadRow" :: "minus" :: "dot" :: "cross" :: "sign" :: "ratio" :: "is_less" :: "lesser" :: "turn" :: "ZERO" :: "along" :: "on_line" :: "meets_segment" :: "is_within" :: "meets_flat" :: "meets_triangle" :: "edges" :: "is_closed" :: "is_on" :: "far_way" :: "wound" :: "place_of" :: "_law_cell" :: "_law_drawn" :: "_law_whole" :: "_law_spot" :: "_law_put" :: "_law_face" :: "_law_skin" :: "_law_closed" :: "_law_edited" :: "_law_word" :: "_law_told" :: "_law_boxes" :: "_law_point" :: "_law_due" :: [])) (d := HandSHeadRun.topDef (OpenLaw.row PySem.Challenge.rw_firsthit_k22_whole_place_in_boxes).prog 45) (kwd := []) Lw.ob_eq
    (by kernel_rfl) (fun s => by kernel_rfl) Lw.run (by kernel_rfl) (by kernel_rfl) (by kernel_rfl) (by rfl) (by first | assumption | decide +kernel) (by decide +kernel) ⟨rfl, rfl, rfl, rfl, rfl, by decide +kernel⟩ ?hw ?hc
  case hw => w_witness2
  case hc =>
    refine LamX.walk_ofTsE (l := PySem.Challenge.rw_firsthit_k22_whole_place_in_boxes) (n := 63) (k := 11) (x := "_law_script") (CX := fun _ => L2.CX0) rfl (by decide) (by kernel_rfl) ⟨rfl, by decide, by decide⟩ ?F (fun _ _ _ _ _ z => z)
    intro w mg fa h Y G hmg0
    obtain ⟨K, KX, c⟩ := Y
    have hmg : mg ("law" : PySem.Str) = some (.ref fa) := by
      have e : (HandSHeadRun.topDef (OpenLaw.row PySem.Challenge.rw_firsthit_k22_whole_place_in_boxes).prog 45).name = ("law" : PySem.Str) := by kernel_rfl
      rw [← e]
      exact hmg0
    exact ⟨K, KX, Lw.facts KX G hmg c⟩
