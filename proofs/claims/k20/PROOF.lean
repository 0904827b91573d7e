import PyProof.Rows.All
import HandS.Lambda
import Wide.All
import OpenK.AllK
import Wide.FinOn
import HandS.ForMost
import HandS.ForExc
import HandS.Wide
import KE.KDictKeyed
import HandS.Exc
import HandS.SortInts
import HandS.More
import HandS.Defaults
import HandS.Style
import HandS.IsInst
import HandS.ExcOwn
import HandS.HeadHook2
import HandS.HeadWalk
import HandS.HeadHook4
import HandS.NestedK
import HandS.Iter
import KE.KDictWalk
import HandS.Deep
import KE.DataFind
import HandS.HotCalls
import HandS.ExcIs
import KE.SortKeyHeap
import KE.KSortKey
import HandS.SortKw
import PyProof.NeKinds
import HandS.Conv
import HandS.Text
import HandS.ExcValue
import KE.KExcStr
import KE.KStateDown
import HandS.Head0
import HandS.Head1
import HandS.Head2
import HandS.HeadEnd
import HandS.HeadHook1
import HandS.HeadHook3
import PySem.Challenge.RW_firsthit_k20_whole_views
section
set_option Elab.async false
set_option linter.all false
set_option autoImplicit false
namespace DL
/-- the tables of code objects that are kept an eye on, each with the name that its code objects bear -/
class TbC where
  T : List (PySem.Addr × PySem.Str)
  /-- the world (for the hashes of a dict's keys) -/
  w : PySem.World
end DL
end
section
set_option Elab.async false
set_option linter.all false
set_option maxRecDepth 100000
set_option autoImplicit false
/-! DL: a layer of plain data over the layer of readings: an expression is a function of the slots' data. -/
namespace DL
open PySem PySem.Spec PyProof.Rows L2
variable [TbC]

abbrev St := L2.St
/-! ### data -/
inductive Dt where
  | non | bl (b : Bool) | int (i : Int) | str (x : Str)
  | tup (xs : List Dt) | lst (xs : List Dt) | frl (xs : List Dt)
  | ins (c : Str) (ks : List Str) (xs : List Dt)
  /-- a function made of a lambda: its object, its code object, its name, what it captured -/
  | fn (f c : Addr) (q : Str) (vs : List V) (xs : List Dt)
  /-- a refusal of the class c, made of a text -/
  | exn (c m : Str)
/-- what a slot holds: nothing that is known, data, a list of one's own, an instance of one's own -/
inductive Lc where
  | u | d (x : Dt) | o (xs : List Dt) | i (a : Addr) (c : Str) (ks : List Str) (xs : List Dt)
  /-- a dict of one's own, from tuples to whole numbers; mf: while it is walked -/
  | m (xs : List (Dt × Int)) | mf (xs : List (Dt × Int))
abbrev Ev := List Lc
/-- an outcome: not served, an exception, a value -/
inductive Rz (ε α : Type) where
  | bad | ex (e : ε) | ok (a : α)
def Rz.bind {ε α β : Type} (x : Rz ε α) (f : α → Rz ε β) : Rz ε β := match x with
  | .bad => .bad | .ex e => .ex e | .ok a => f a
def Rz.ofO {ε α : Type} : Option α → Rz ε α
  | none => .bad | some a => .ok a
abbrev Fn := Ev → Rz Str Dt
theorem Rz.bind_ok {ε α β : Type} (a : α) (f : α → Rz ε β) : (Rz.ok a).bind f = f a := rfl

/-! ### heaps -/
abbrev Mg := Str → Option Value
abbrev Pv := Addr → Prop
/-- all but the tables of code objects, and but what is in M, stays -/
structure Xt (M : Pv) (H H' : Hp) : Prop where
  keep : ∀ b o, H b = some o → (∀ ps, o ≠ .tbl ps) → ¬ M b → H' b = some o
  tabS : ∀ b q, (b, q) ∈ TbC.T → LamX.TabS H b q → LamX.TabS H' b q
instance {M : Pv} {H H' : Hp} : CoeFun (Xt M H H') fun _ => ∀ b o, H b = some o → (∀ ps, o ≠ .tbl ps) → ¬ M b → H' b = some o := ⟨Xt.keep⟩
abbrev no : Pv := fun _ => False
abbrev Ext (H H' : Hp) : Prop := Xt no H H'
section
variable {M : Pv} {H H1 H2 : Hp} {p : Addr} {o : HO}
theorem Xt.refl : Xt M H H := ⟨fun _ _ h _ _ => h, fun _ _ _ h => h⟩
theorem Xt.trans (a : Xt M H H1) (b : Xt M H1 H2) : Xt M H H2 := ⟨fun c u h n m => b.keep c u (a.keep c u h n m) n m, fun P q m h => b.tabS P q m (a.tabS P q m h)⟩
theorem Ext.refl : Ext H H := Xt.refl
/-- nothing but perhaps a table stands there -/
def Fresh (H : Hp) (p : Addr) : Prop := ∀ u, H p = some u → ∃ ps, u = .tbl ps
theorem Fresh.of (h : H p = none) : Fresh H p := fun u e => nomatch (show none = some u from h.symm.trans e)
theorem Fresh.ne (h : Fresh H p) {b : Addr} {u : HO} (q : H b = some u) (n : ∀ ps, u ≠ .tbl ps) : b ≠ p := fun e => by
  rw [e] at q
  obtain ⟨ps, z⟩ := h u q
  exact n ps z
/-- all stays, but what stands at p -/
theorem Xt.upd (hp : ∀ u, H p = some u → (∀ ps, u ≠ .tbl ps) ∧ (∀ c q, u ≠ LamX.CodeO c q) ∧ M p) : Xt M H (upd H p o) := by
  have ne : ∀ b u, H b = some u → ¬ ((∀ ps, u ≠ .tbl ps) ∧ (∀ c q, u ≠ LamX.CodeO c q) ∧ M p) → b ≠ p := fun b u e n z => by
    rw [z] at e
    exact n (hp u e)
  refine ⟨fun b u h n m => ?_, fun P q _ h => ?_⟩
  · rw [upd_ne (fun e => ?_)]
    · exact h
    · rw [e] at h m
      exact m (hp u h).2.2
  · obtain ⟨ps, h1, h2, h3⟩ := h
    refine ⟨ps, by rw [upd_ne (ne P _ h1 fun z => z.1 ps rfl)]; exact h1, h2, fun pos cv hc => ?_⟩
    obtain ⟨c, e1, e2⟩ := h3 pos cv hc
    exact ⟨c, e1, by rw [upd_ne (ne c _ e2 fun z => z.2.1 c q rfl)]; exact e2⟩
theorem Ext.new (hp : H p = none) : Ext H (L2.upd H p o) := Xt.upd fun u e => nomatch (show none = some u from Eq.trans (Eq.symm hp) e)
theorem Xt.tabs (a : Xt M H H1) (t : LamX.Tabs TbC.T H) : LamX.Tabs TbC.T H1 := fun p hp => a.tabS p.1 p.2 hp (t p hp)
/-- a dict, by its entries: keys, their tuples, whole numbers -/
def dcV (w : World) (a : Addr) (ys : List (NestedKey × Addr × Int)) : Heap → Prop := fun h => ∃ (o : Obj) (es : Array DictEntry) (ep : Nat) (vs : List (NestedKey × Addr × Value)), h.get? a = some o ∧ o.ExactDict ∧ o.data = .dict es ep ∧
  es.toList = vs.map (fun y => (⟨y.1.hash w, .ref y.2.1, y.2.2⟩ : DictEntry)) ∧ Paired (fun (y : NestedKey × Addr × Int) (v : NestedKey × Addr × Value) => y.1 = v.1 ∧ y.2.1 = v.2.1 ∧ RelV (.int y.2.2) v.2.2) ys vs ∧ (ys.map (·.1)).Nodup ∧ ys.length ≤ sizeLine ∧ (a == sysModules) = false
def dcO (w : World) (a : Addr) (ys : List (NestedKey × Addr × Int)) : HO := .ext (dcV w a ys)
theorem dcO_ne_code {w : World} {a c : Addr} {q : Str} {ys : List (NestedKey × Addr × Int)} : dcO w a ys ≠ LamX.CodeO c q := fun z => by
  have e : dcV w a ys = fun h => ∃ (oc : Obj) (vs : Array Value) (t : Tok), h.get? c = some oc ∧ oc.data = .fields vs ∧ vs[1]? = some (.str q t) := HO.ext.inj z
  let ob : Obj := { cls := .none, data := .fields #[.none, .str q default] }
  have all : ∀ b o, (⟨Array.replicate (c + 1) ob, {}⟩ : Heap).get? b = some o → o = ob := fun b o h => by
    unfold Heap.get? at h
    by_cases hb : b < c + 1
    · rw [Array.getElem?_replicate, if_pos hb] at h
      exact (Option.some.inj h).symm
    · rw [Array.getElem?_replicate, if_neg hb] at h
      cases h
  have hc : (⟨Array.replicate (c + 1) ob, {}⟩ : Heap).get? c = some ob := by
    unfold Heap.get?
    rw [Array.getElem?_replicate, if_pos (Nat.lt_succ_self c)]
  have k : dcV w a ys (⟨Array.replicate (c + 1) ob, {}⟩ : Heap) := by
    rw [e]
    exact ⟨ob, _, default, hc, rfl, rfl⟩
  obtain ⟨o, es, ep, vs, h1, _, h3, _⟩ := k
  rw [all a o h1] at h3
  cases h3
/-- what may be one's own: a list, an instance, a dict -/
def OwnK (H : Hp) (p : Addr) : Prop := (∃ xs, H p = some (.lst xs)) ∨ (∃ C dx fs, H p = some (.ins C dx fs)) ∨ ∃ w a ys, H p = some (dcO w a ys)
theorem OwnK.not {H : Hp} {p : Addr} (k : OwnK H p) {u : HO} (e : H p = some u) : (∀ ps, u ≠ .tbl ps) ∧ (∀ c q, u ≠ LamX.CodeO c q) ∧ (∀ o v, u ≠ .frz o v) ∧ ∀ xs, u ≠ .tup xs := by
  rcases k with ⟨xs, h⟩ | ⟨C, dx, fs, h⟩ | ⟨w, a, ys, h⟩ <;> (rw [h] at e; cases e)
  · exact ⟨fun _ z => (nomatch z), fun _ _ z => (nomatch z), fun _ _ z => (nomatch z), fun _ z => (nomatch z)⟩
  · exact ⟨fun _ z => (nomatch z), fun _ _ z => (nomatch z), fun _ _ z => (nomatch z), fun _ z => (nomatch z)⟩
  · exact ⟨fun _ z => (nomatch z), fun _ _ => dcO_ne_code, fun _ _ z => (nomatch z), fun _ z => (nomatch z)⟩
/-- what is one's own, or new since, is changed -/
theorem Xt.put (a : Xt M H H1) (hp : Fresh H p ∨ M p) (k : OwnK H1 p) : Xt M H (L2.upd H1 p o) := by
  have b : Xt (fun b => b = p) H1 (L2.upd H1 p o) := Xt.upd fun u e => ⟨(k.not e).1, (k.not e).2.1, rfl⟩
  refine ⟨fun c u h n m => b.keep c u (a.keep c u h n m) n fun e => ?_, fun P q m h => b.tabS P q m (a.tabS P q m h)⟩
  rcases hp with z | z
  · exact z.ne h n e
  · exact m (by rw [e]; exact z)
theorem Xt.putL (a : Xt M H H1) (hp : Fresh H p ∨ M p) {xs ys : List V} (h1 : H1 p = some (.lst xs)) : Xt M H (L2.upd H1 p (.lst ys)) := a.put hp (.inl ⟨_, h1⟩)
/-- a frame within a frame -/
theorem Xt.join {M' : Pv} (a : Xt M H H1) (b : Xt M' H1 H2) (h : ∀ c u, H c = some u → (∀ ps, u ≠ .tbl ps) → ¬ M c → ¬ M' c) : Xt M H H2 :=
  ⟨fun c u e n m => b.keep c u (a.keep c u e n m) n (h c u e n m), fun P q m h => b.tabS P q m (a.tabS P q m h)⟩
theorem Ext.to (a : Ext H H1) : Xt M H H1 := ⟨fun c u h n _ => a.keep c u h n fun z => z, a.tabS⟩
theorem Xt.fresh (a : Xt M H H1) (hp : Fresh H1 p) (hm : ¬ M p) : Fresh H p := fun u q => by
  by_cases n : ∃ ps, u = .tbl ps
  · exact n
  · exact absurd (hp u (a.keep p u q (fun ps z => n ⟨ps, z⟩) hm)) n
theorem Ext.fresh (a : Ext H H1) (hp : Fresh H1 p) : Fresh H p := Xt.fresh a hp fun z => z
theorem Ext.at_ (a : Ext H H1) {b : Addr} {u : HO} (h : H b = some u) (n : ∀ ps, u ≠ .tbl ps) : H1 b = some u := a.keep b u h n fun z => z
end
theorem nt_lst {xs : List V} : ∀ ps, HO.lst xs ≠ .tbl ps := fun _ z => nomatch z
theorem nt_tup {xs : List V} : ∀ ps, HO.tup xs ≠ .tbl ps := fun _ z => nomatch z
theorem nt_frz {a : Obj} {u : HO} : ∀ ps, HO.frz a u ≠ .tbl ps := fun _ z => nomatch z
theorem nt_ins {C dx : Addr} {fs : List (Str × V)} : ∀ ps, HO.ins C dx fs ≠ .tbl ps := fun _ z => nomatch z
theorem Ext.rdT {H H1 : Hp} (a : Ext H H1) {b : Addr} {xs : List V} (h : Rd H b (.tup xs)) : Rd H1 b (.tup xs) := by
  rcases h with h | ⟨o, h⟩
  · exact .inl (a.at_ h nt_tup)
  · exact .inr ⟨o, a.at_ h nt_frz⟩
theorem Ext.rdL {H H1 : Hp} (a : Ext H H1) {b : Addr} {xs : List V} (h : Rd H b (.lst xs)) : Rd H1 b (.lst xs) := by
  rcases h with h | ⟨o, h⟩
  · exact .inl (a.at_ h nt_lst)
  · exact .inr ⟨o, a.at_ h nt_frz⟩
theorem Ext.sqT {K : PySem.W.Frag} {H H1 : Hp} (a : Ext H H1) {b : Addr} {xs : List V} (h : SqT K H b xs) : SqT K H1 b xs := by
  rcases h with h | h
  · exact .inl (a.rdT h)
  · exact .inr h
theorem Ext.sqL {K : PySem.W.Frag} {H H1 : Hp} (a : Ext H H1) {b : Addr} {xs : List V} (h : SqL K H b xs) : SqL K H1 b xs := by
  rcases h with h | h
  · exact .inl (a.rdL h)
  · exact .inr h

/-! ### how data is borne -/
/-- a refusal of the class at C, made of what the tuple at ta holds -/
def ExM (C a ta : Addr) : HO := .ext fun h => ∃ (oe : Obj) (vs : Array Value), h.get? a = some oe ∧ Zc (.ref C) none oe ∧ oe.data = .fields vs ∧ vs[0]? = some (.ref ta)
theorem nt_exm {C a ta : Addr} : ∀ ps, ExM C a ta ≠ .tbl ps := fun _ z => nomatch z
/-- a list that is not written here: another's, frozen, or of the written part -/
def SqF (K : PySem.W.Frag) (H : Hp) (P : Pv) (a : Addr) (xs : List V) : Prop := (H a = some (.lst xs) ∧ ¬ P a) ∨ (∃ o, H a = some (.frz o (.lst xs))) ∨
  ∃ (o : Obj) (its : Array Value) (n : Nat), K.lookup a = some o ∧ o.cls = .type "list" ∧ o.dict = none ∧ o.data = .seq its n ∧ its.size ≤ sizeLine ∧ Vals xs its.toList
theorem SqF.sq {K : PySem.W.Frag} {H : Hp} {P : Pv} {a : Addr} {xs : List V} (h : SqF K H P a xs) : SqL K H a xs := by
  rcases h with h | h | h
  · exact .inl (.inl h.1)
  · exact .inl (.inr h)
  · exact .inr h
theorem SqF.of {K : PySem.W.Frag} {H : Hp} {a : Addr} {xs : List V} (h : SqL K H a xs) : SqF K H no a xs := by
  rcases h with (h | h) | h
  · exact .inl ⟨h, fun z => z⟩
  · exact .inr (.inl h)
  · exact .inr (.inr h)
mutual
def Rep (K : PySem.W.Frag) (mg : Mg) (H : Hp) (P : Pv) : Dt → V → Prop
  | .non, v => v = .non
  | .bl b, v => v = .bl b
  | .int i, v => v = .int i
  | .str x, v => v = .str x
  | .tup ds, v => ∃ a vs, v = .ref a ∧ SqT K H a vs ∧ Reps K mg H P ds vs
  | .lst ds, v => ∃ a vs, v = .ref a ∧ H a = some (.lst vs) ∧ ¬ P a ∧ Reps K mg H P ds vs
  | .frl ds, v => ∃ a vs, v = .ref a ∧ SqF K H P a vs ∧ Reps K mg H P ds vs
  | .ins c ks ds, v => ∃ a C dx vs, v = .ref a ∧ mg c = some (.ref C) ∧ H a = some (.ins C dx (ks.zip vs)) ∧ ¬ P a ∧ ks.length = vs.length ∧ Reps K mg H P ds vs
  | .fn f c q ws ds, v => v = .ref f ∧ H c = some (LamX.CodeO c q) ∧ Reps K mg H P ds ws
  | .exn c m, v => ∃ a C ta, v = .ref a ∧ mg c = some (.ref C) ∧ H a = some (ExM C a ta) ∧ ¬ P a ∧ H ta = some (.tup [.str m])
def Reps (K : PySem.W.Frag) (mg : Mg) (H : Hp) (P : Pv) : List Dt → List V → Prop
  | [], vs => vs = []
  | d :: ds, vs => ∃ v r, vs = v :: r ∧ Rep K mg H P d v ∧ Reps K mg H P ds r
end
/-- the same, but the thing itself may be a private one -/
def RepB (K : PySem.W.Frag) (mg : Mg) (H : Hp) (P : Pv) (d : Dt) (v : V) : Prop := match d with
  | .lst ds => ∃ a vs, v = .ref a ∧ H a = some (.lst vs) ∧ Reps K mg H P ds vs
  | .ins c ks ds => ∃ a C dx vs, v = .ref a ∧ mg c = some (.ref C) ∧ H a = some (.ins C dx (ks.zip vs)) ∧ ks.length = vs.length ∧ Reps K mg H P ds vs
  | d => Rep K mg H P d v
section
variable {K : PySem.W.Frag} {mg : Mg} {H H' : Hp} {P P' : Pv}
/-- from one heap to another: what is not private stays -/
structure Tr (P P' : Pv) (H H' : Hp) : Prop where
  keep : ∀ b o, H b = some o → (∀ ps, o ≠ .tbl ps) → ¬ P b → H' b = some o
  frz : ∀ b o u, H b = some (.frz o u) → (∀ w a ys, u ≠ dcO w a ys) → H' b = some (.frz o u)
  tup : ∀ b xs, H b = some (.tup xs) → H' b = some (.tup xs)
  pv : ∀ b o, H b = some o → (∀ ps, o ≠ .tbl ps) → ¬ P b → ¬ P' b
  cd : ∀ b c q, H b = some (LamX.CodeO c q) → H' b = some (LamX.CodeO c q)
theorem Tr.sqT (t : Tr P P' H H') {a : Addr} {xs : List V} (h : SqT K H a xs) : SqT K H' a xs := by
  rcases h with (h | ⟨o, h⟩) | h
  · exact .inl (.inl (t.tup _ _ h))
  · exact .inl (.inr ⟨o, t.frz _ _ _ h fun _ _ _ z => nomatch z⟩)
  · exact .inr h
theorem Tr.sqF (t : Tr P P' H H') {a : Addr} {xs : List V} (h : SqF K H P a xs) : SqF K H' P' a xs := by
  rcases h with ⟨h, n⟩ | ⟨o, h⟩ | h
  · exact .inl ⟨t.keep _ _ h nt_lst n, t.pv _ _ h nt_lst n⟩
  · exact .inr (.inl ⟨o, t.frz _ _ _ h fun _ _ _ z => nomatch z⟩)
  · exact .inr (.inr h)
mutual
theorem Rep.tr (t : Tr P P' H H') : ∀ (d : Dt) (v : V), Rep K mg H P d v → Rep K mg H' P' d v
  | .non, _, h => h
  | .bl _, _, h => h
  | .int _, _, h => h
  | .str _, _, h => h
  | .tup ds, _, ⟨a, vs, e, h1, h2⟩ => ⟨a, vs, e, t.sqT h1, Reps.tr t ds vs h2⟩
  | .lst ds, _, ⟨a, vs, e, h1, n, h2⟩ => ⟨a, vs, e, t.keep _ _ h1 nt_lst n, t.pv _ _ h1 nt_lst n, Reps.tr t ds vs h2⟩
  | .frl ds, _, ⟨a, vs, e, h1, h2⟩ => ⟨a, vs, e, t.sqF h1, Reps.tr t ds vs h2⟩
  | .ins c ks ds, _, ⟨a, C, dx, vs, e, h1, h2, n, l, h3⟩ => ⟨a, C, dx, vs, e, h1, t.keep _ _ h2 nt_ins n, t.pv _ _ h2 nt_ins n, l, Reps.tr t ds vs h3⟩
  | .fn f c q ws ds, _, ⟨e, h1, h2⟩ => ⟨e, t.cd _ _ _ h1, Reps.tr t ds ws h2⟩
  | .exn c m, _, ⟨a, C, ta, e, h1, h2, n, h3⟩ => ⟨a, C, ta, e, h1, t.keep _ _ h2 nt_exm n, t.pv _ _ h2 nt_exm n, t.tup _ _ h3⟩
theorem Reps.tr (t : Tr P P' H H') : ∀ (ds : List Dt) (vs : List V), Reps K mg H P ds vs → Reps K mg H' P' ds vs
  | [], _, h => h
  | d :: ds, _, ⟨v, r, e, h1, h2⟩ => ⟨v, r, e, Rep.tr t d v h1, Reps.tr t ds r h2⟩
end
theorem Tr.of (e : Ext H H') : Tr P P H H' := ⟨fun b o h n _ => e b o h n fun z => z, fun _ _ _ h _ => e.at_ h nt_frz, fun _ _ h => e.at_ h nt_tup, fun _ _ _ _ n => n, fun _ _ _ h => e.at_ h LamX.codeO_ne⟩
/-- fewer private things -/
theorem Tr.less (h : ∀ a, P' a → P a) : Tr P P' H H := ⟨fun _ _ h _ _ => h, fun _ _ _ h _ => h, fun _ _ h => h, fun _ _ _ _ n z => n (h _ z), fun _ _ _ h => h⟩
/-- one more, new -/
def more (P : Pv) (p : Addr) : Pv := fun a => P a ∨ a = p
theorem Tr.more {p : Addr} (h : Fresh H p) : Tr P (more P p) H H := ⟨fun _ _ h _ _ => h, fun _ _ _ h _ => h, fun _ _ h => h, fun b o q t n z => z.elim n fun e => h.ne q t e, fun _ _ _ h => h⟩
/-- a private thing is written -/
theorem Tr.write {p : Addr} {o : HO} (hp : P p) (hn : OwnK H p) : Tr P P H (upd H p o) := by
  have key : ∀ b u, H b = some u → (b = p → False) → upd H p o b = some u := fun b u h n => by
    rw [upd_ne n]; exact h
  have at_ : ∀ {b u}, H b = some u → b = p → H p = some u := fun h e => by rw [← e]; exact h
  exact ⟨fun b u h _ n => key b u h fun e => n (by rw [e]; exact hp), fun b u w h _ => key b _ h fun e => (hn.not (at_ h e)).2.2.1 _ _ rfl, fun b xs h => key b _ h fun e => (hn.not (at_ h e)).2.2.2 _ rfl, fun _ _ _ _ n => n,
    fun b c q h => key b _ h fun e => (hn.not (at_ h e)).2.1 _ _ rfl⟩
theorem Rep.ext (e : Ext H H') {d : Dt} {v : V} (h : Rep K mg H P d v) : Rep K mg H' P d v := Rep.tr (Tr.of e) d v h
theorem Reps.ext (e : Ext H H') {ds : List Dt} {vs : List V} (h : Reps K mg H P ds vs) : Reps K mg H' P ds vs := Reps.tr (Tr.of e) ds vs h
theorem Rep.toB {d : Dt} {v : V} (h : Rep K mg H P d v) : RepB K mg H P d v := by
  cases d with
  | lst ds => obtain ⟨a, vs, e, h1, n, h2⟩ := h; exact ⟨a, vs, e, h1, h2⟩
  | ins c ks ds => obtain ⟨a, C, dx, vs, e, h1, h2, n, l, h3⟩ := h; exact ⟨a, C, dx, vs, e, h1, h2, l, h3⟩
  | _ => exact h
theorem RepB.ext (e : Ext H H') {d : Dt} {v : V} (h : RepB K mg H P d v) : RepB K mg H' P d v := by
  cases d with
  | lst ds => obtain ⟨a, vs, q, h1, h2⟩ := h; exact ⟨a, vs, q, e.at_ h1 nt_lst, h2.ext e⟩
  | ins c ks ds => obtain ⟨a, C, dx, vs, q, h1, h2, l, h3⟩ := h; exact ⟨a, C, dx, vs, q, h1, e.at_ h2 nt_ins, l, h3.ext e⟩
  | _ => exact Rep.ext e h
theorem Reps.length : ∀ {ds : List Dt} {vs : List V}, Reps K mg H P ds vs → ds.length = vs.length
  | [], _, h => by rw [show _ = [] from h]; rfl
  | d :: ds, _, ⟨v, r, e, _, h2⟩ => by rw [e, List.length_cons, List.length_cons, Reps.length h2]
theorem Reps.get : ∀ {ds : List Dt} {vs : List V} {i : Nat} {d : Dt}, Reps K mg H P ds vs → ds[i]? = some d → ∃ v, vs[i]? = some v ∧ Rep K mg H P d v
  | [], _, _, _, _, e => by simp at e
  | d :: ds, _, 0, x, ⟨v, r, e, h1, _⟩, q => by simp at q; subst q; subst e; exact ⟨v, rfl, h1⟩
  | d :: ds, _, i + 1, x, ⟨v, r, e, _, h2⟩, q => by subst e; obtain ⟨w, h3, h4⟩ := Reps.get (i := i) h2 (by simpa using q); exact ⟨w, by simpa using h3, h4⟩
theorem Reps.gone : ∀ {ds : List Dt} {vs : List V} {i : Nat}, Reps K mg H P ds vs → ds[i]? = none → vs[i]? = none := fun h e => by
  rw [List.getElem?_eq_none_iff] at e ⊢
  rw [← h.length]; exact e
theorem Reps.append : ∀ {ds es : List Dt} {vs ws : List V}, Reps K mg H P ds vs → Reps K mg H P es ws → Reps K mg H P (ds ++ es) (vs ++ ws)
  | [], _, _, _, h, q => by rw [show _ = [] from h]; exact q
  | d :: ds, _, _, _, ⟨v, r, e, h1, h2⟩, q => by subst e; exact ⟨v, _, rfl, h1, Reps.append h2 q⟩
theorem Reps.one {d : Dt} {v : V} (h : Rep K mg H P d v) : Reps K mg H P [d] [v] := ⟨v, [], rfl, h, rfl⟩
theorem Reps.take : ∀ (n : Nat) {ds : List Dt} {vs : List V}, Reps K mg H P ds vs → Reps K mg H P (ds.take n) (vs.take n)
  | 0, _, _, _ => by rw [List.take_zero, List.take_zero]; rfl
  | n + 1, [], _, h => by rw [show _ = [] from h]; rfl
  | n + 1, d :: ds, _, ⟨v, r, e, h1, h2⟩ => by subst e; exact ⟨v, _, rfl, h1, Reps.take n h2⟩
theorem Reps.drop : ∀ (n : Nat) {ds : List Dt} {vs : List V}, Reps K mg H P ds vs → Reps K mg H P (ds.drop n) (vs.drop n)
  | 0, _, _, h => h
  | n + 1, [], _, h => by rw [show _ = [] from h]; rfl
  | n + 1, d :: ds, _, ⟨v, r, e, h1, h2⟩ => by subst e; exact Reps.drop n h2
theorem Reps.set : ∀ {ds : List Dt} {vs : List V} {d : Dt} {v : V} (i : Nat), Reps K mg H P ds vs → Rep K mg H P d v → Reps K mg H P (ds.set i d) (vs.set i v)
  | [], _, _, _, _, h, _ => by rw [show _ = [] from h]; rfl
  | _ :: _, _, _, _, 0, ⟨v, r, e, _, h2⟩, q => by subst e; exact ⟨_, _, rfl, q, h2⟩
  | _ :: _, _, _, _, i + 1, ⟨v, r, e, h1, h2⟩, q => by subst e; exact ⟨_, _, rfl, h1, Reps.set i h2 q⟩
theorem Reps.mk : ∀ {ds : List Dt} {vs : List V}, ds.length = vs.length → (∀ (i : Nat) (d : Dt) (v : V), ds[i]? = some d → vs[i]? = some v → Rep K mg H P d v) → Reps K mg H P ds vs
  | [], [], _, _ => rfl
  | d :: ds, v :: vs, l, h => ⟨v, vs, rfl, h 0 d v rfl rfl, Reps.mk (by simpa using l) fun i d v a b => h (i + 1) d v (by simpa using a) (by simpa using b)⟩
  | [], _ :: _, l, _ => by simp at l
  | _ :: _, [], l, _ => by simp at l
theorem Reps.mem {ds : List Dt} {vs : List V} (h : Reps K mg H P ds vs) {v : V} (hv : v ∈ vs) : ∃ d ∈ ds, Rep K mg H P d v := by
  obtain ⟨i, hi⟩ := List.mem_iff_getElem?.mp hv
  cases e : ds[i]? with
  | none => rw [Reps.gone h e] at hi; cases hi
  | some d => obtain ⟨w, h1, h2⟩ := Reps.get h e; rw [h1] at hi; cases hi; exact ⟨d, List.mem_of_getElem? e, h2⟩
theorem Reps.ints : ∀ {ns : List Int} {vs : List V}, Reps K mg H P (ns.map Dt.int) vs → vs = ns.map V.int
  | [], _, h => h
  | n :: ns, _, ⟨v, r, e, h1, h2⟩ => by subst e; rw [show v = _ from h1, Reps.ints h2]; rfl
theorem Reps.ofInts : ∀ (ns : List Int), Reps K mg H P (ns.map Dt.int) (ns.map V.int)
  | [] => rfl
  | n :: ns => ⟨_, _, rfl, rfl, Reps.ofInts ns⟩
theorem Reps.bls : ∀ {ns : List Bool} {vs : List V}, Reps K mg H P (ns.map Dt.bl) vs → vs = ns.map V.bl
  | [], _, h => h
  | n :: ns, _, ⟨v, r, e, h1, h2⟩ => by subst e; rw [show v = _ from h1, Reps.bls h2]; rfl
end

/-! ### keys -/
mutual
def nk : Dt → Option NestedKey
  | .non => some .none
  | .int i => some (.num i)
  | .str x => some (.text x)
  | .tup ds => (nks ds).map .tup
  | _ => none
def nks : List Dt → Option (List NestedKey)
  | [] => some []
  | d :: ds => (nk d).bind fun k => (nks ds).map fun ks => k :: ks
end
def DcOk (K : PySem.W.Frag) (mg : Mg) (H : Hp) (P : Pv) (xs : List (Dt × Int)) (ys : List (NestedKey × Addr × Int)) : Prop :=
  Reps K mg H P (xs.map (·.1)) (ys.map fun y => .ref y.2.1) ∧ (xs.map fun x => (nk x.1, x.2)) = ys.map fun y => (some y.1, y.2.2)
theorem DcOk.tr {K : PySem.W.Frag} {mg : Mg} {H H' : Hp} {P P' : Pv} (t : Tr P P' H H') {xs : List (Dt × Int)} {ys : List (NestedKey × Addr × Int)} (h : DcOk K mg H P xs ys) : DcOk K mg H' P' xs ys := ⟨Reps.tr t _ _ h.1, h.2⟩
/-! ### slots -/
def SlotOk (K : PySem.W.Frag) (mg : Mg) (H : Hp) (P : Pv) (l : Lc) (x : Option V) : Prop := match l with
  | .u => True
  | .d d => ∃ v, x = some v ∧ Rep K mg H P d v
  | .o ds => ∃ a vs, x = some (.ref a) ∧ P a ∧ H a = some (.lst vs) ∧ Reps K mg H P ds vs
  | .i a c ks ds => ∃ C dx vs, x = some (.ref a) ∧ P a ∧ mg c = some (.ref C) ∧ H a = some (.ins C dx (ks.zip vs)) ∧ ks.length = vs.length ∧ Reps K mg H P ds vs
  | .m xs => ∃ a ys, x = some (.ref a) ∧ P a ∧ H a = some (dcO TbC.w a ys) ∧ DcOk K mg H P xs ys
  | .mf xs => ∃ a o ys, x = some (.ref a) ∧ H a = some (.frz o (dcO TbC.w a ys)) ∧ DcOk K mg H P xs ys
theorem nt_dc {w : World} {a : Addr} {ys : List (NestedKey × Addr × Int)} : ∀ ps, dcO w a ys ≠ .tbl ps := fun _ z => nomatch z
/-- the slots' data, P: what is private here and around -/
structure EOk (K : PySem.W.Frag) (mg : Mg) (P : Pv) (σ : St) (H : Hp) (ε : Ev) : Prop where
  ln : ε.length = σ.length
  tk : ∀ a, P a → ∃ o, H a = some o ∧ ∀ ps, o ≠ .tbl ps
  sl : ∀ (i : Nat) (l : Lc), ε[i]? = some l → SlotOk K mg H P l (σ[i]?.join)
  tb : LamX.Tabs (TbC.T) H
section
variable {K : PySem.W.Frag} {mg : Mg} {P P' : Pv} {σ : St} {H H' : Hp} {ε : Ev}
theorem SlotOk.ext (e : Ext H H') {l : Lc} {x : Option V} (h : SlotOk K mg H P l x) : SlotOk K mg H' P l x := by
  cases l with
  | u => trivial
  | d d => obtain ⟨v, q, r⟩ := h; exact ⟨v, q, r.ext e⟩
  | o ds => obtain ⟨a, vs, q, p, h1, r⟩ := h; exact ⟨a, vs, q, p, e.at_ h1 nt_lst, r.ext e⟩
  | i a c ks ds => obtain ⟨C, dx, vs, q, p, h1, h2, l, r⟩ := h; exact ⟨C, dx, vs, q, p, h1, e.at_ h2 nt_ins, l, r.ext e⟩
  | m xs => obtain ⟨a, ys, q, p, h1, r⟩ := h; exact ⟨a, ys, q, p, e.at_ h1 nt_dc, r.tr (Tr.of e)⟩
  | mf xs => obtain ⟨a, o, ys, q, h1, r⟩ := h; exact ⟨a, o, ys, q, e.at_ h1 nt_frz, r.tr (Tr.of e)⟩
theorem SlotOk.more {p : Addr} (hp : Fresh H p) {l : Lc} {x : Option V} (h : SlotOk K mg H P l x) : SlotOk K mg H (more P p) l x := by
  cases l with
  | u => trivial
  | d d => obtain ⟨v, q, r⟩ := h; exact ⟨v, q, Rep.tr (Tr.more hp) _ _ r⟩
  | o ds => obtain ⟨a, vs, q, h0, h1, r⟩ := h; exact ⟨a, vs, q, .inl h0, h1, Reps.tr (Tr.more hp) _ _ r⟩
  | i a c ks ds => obtain ⟨C, dx, vs, q, h0, h1, h2, l, r⟩ := h; exact ⟨C, dx, vs, q, .inl h0, h1, h2, l, Reps.tr (Tr.more hp) _ _ r⟩
  | m xs => obtain ⟨a, ys, q, p, h1, r⟩ := h; exact ⟨a, ys, q, .inl p, h1, r.tr (Tr.more hp)⟩
  | mf xs => obtain ⟨a, o, ys, q, h1, r⟩ := h; exact ⟨a, o, ys, q, h1, r.tr (Tr.more hp)⟩
theorem EOk.ext (E : EOk K mg P σ H ε) (e : Ext H H') : EOk K mg P σ H' ε :=
  ⟨E.ln, fun a h => let ⟨o, q, n⟩ := E.tk a h; ⟨o, e.at_ q n, n⟩, fun i l h => (E.sl i l h).ext e, e.tabs E.tb⟩
theorem EOk.ne (E : EOk K mg P σ H ε) {p : Addr} (hp : Fresh H p) : ¬ P p := fun z => by
  obtain ⟨o, q, n⟩ := E.tk p z
  exact hp.ne q n rfl
/-- a new private thing -/
theorem EOk.new (E : EOk K mg P σ H ε) {p : Addr} {o : HO} (hp : H p = none) (ho : ∀ ps, o ≠ .tbl ps) : EOk K mg (more P p) σ (upd H p o) ε :=
  ⟨E.ln, fun a h => h.elim (fun h => let ⟨u, q, n⟩ := E.tk a h; ⟨u, (Ext.new hp).at_ q n, n⟩) fun h => ⟨o, by rw [h, upd_same], ho⟩, fun i l h => ((E.sl i l h).more (.of hp)).ext (Ext.new hp), (Ext.new hp).tabs E.tb⟩
end

/-! ### readings: a function of the slots' data -/
/-- what is wanted of an outcome -/
def Out (X : Cx) (W : WX) (σ : St) (H : Hp) {α : Type} (r : Rz Str α) (k : α → Prop) : Prop := match r with
  | .bad => False
  | .ex c => ∃ C, X.mg c = some (.ref C) ∧ ∀ H', Ext H H' → W (.ref C) none σ H'
  | .ok a => k a
section
variable {X : Cx} {W : WX} {σ : St} {H H1 : Hp} {α β : Type}
theorem Out.mono {r : Rz Str α} {k k' : α → Prop} (h : Out X W σ H r k) (i : ∀ a, k a → k' a) : Out X W σ H r k' := by
  cases r with
  | bad => exact h
  | ex c => exact h
  | ok a => exact i a h
theorem Out.ext {r : Rz Str α} {k : α → Prop} (h : Out X W σ H r k) (e : Ext H H1) : Out X W σ H1 r k := by
  cases r with
  | bad => exact h
  | ex c => obtain ⟨C, h1, h2⟩ := h; exact ⟨C, h1, fun H' x => h2 H' (e.trans x)⟩
  | ok a => exact h
theorem Out.bind {r : Rz Str α} {f : α → Rz Str β} {k : β → Prop} (h : Out X W σ H (r.bind f) k) : Out X W σ H r fun a => Out X W σ H (f a) k := by
  cases r with
  | bad => exact h
  | ex c => exact h
  | ok a => exact h
theorem Out.ofO {o : Option α} {k : α → Prop} (h : Out X W σ H (.ofO o) k) : ∃ a, o = some a ∧ k a := by
  cases o with
  | none => exact h.elim
  | some a => exact ⟨a, rfl, h⟩
end
section
variable (X : Cx) (W : WX)
def tD (f : Fn) : TE := fun σ H Q => ∃ P ε, EOk X.K X.mg P σ H ε ∧ Out X W σ H (f ε) fun d => ∀ v H', Ext H H' → Rep X.K X.mg H' P d v → Q v H'
def tB (f : Fn) : TE := fun σ H Q => ∃ P ε, EOk X.K X.mg P σ H ε ∧ Out X W σ H (f ε) fun d => ∀ v H', Ext H H' → RepB X.K X.mg H' P d v → Q v H'
/-- a new list -/
def tN (f : Ev → Rz Str (List Dt)) : TE := fun σ H Q => ∃ P ε, EOk X.K X.mg P σ H ε ∧ Out X W σ H (f ε) fun ds => ∀ p vs H', Ext H H' → Fresh H p → H' p = some (.lst vs) → Reps X.K X.mg H' (more P p) ds vs → Q (.ref p) H'
/-- arguments -/
def tA (f : Ev → Rz Str (List Dt)) : TA := fun σ H Q => ∃ P ε, EOk X.K X.mg P σ H ε ∧ Out X W σ H (f ε) fun ds => ∀ vs H', Ext H H' → Reps X.K X.mg H' P ds vs → Q vs H'
/-- a test -/
def tT (f : Ev → Rz Str Bool) : TT := fun σ H Q => ∃ P ε, EOk X.K X.mg P σ H ε ∧ Out X W σ H (f ε) fun b => ∀ H', Ext H H' → Q b H'
def PD (e : Expr) (f : Fn) : Prop := PE X e (tD X W f)
def PB (e : Expr) (f : Fn) : Prop := PE X e (tB X W f)
def PN (e : Expr) (f : Ev → Rz Str (List Dt)) : Prop := PE X e (tN X W f)
def AD (es : List Expr) (f : Ev → Rz Str (List Dt)) : Prop := PA X es (tA X W f)
def TD (e : Expr) (f : Ev → Rz Str Bool) : Prop := PT X e (tT X W f)
end
theorem pe_weak {X : Cx} {e : Expr} {t t' : TE} (h : PE X e t) (k : ∀ σ H Q, t' σ H Q → t σ H Q) : PE X e t' := ⟨fun pins s σ H Q I q => h.run pins s σ H Q I (k σ H Q q)⟩
theorem pt_weak {X : Cx} {e : Expr} {t t' : TT} (h : PT X e t) (k : ∀ σ H Q, t' σ H Q → t σ H Q) : PT X e t' := ⟨fun pins s σ H Q I q => h.run pins s σ H Q I (k σ H Q q)⟩
theorem pw_weak {X : Cx} {e : Expr} {t t' : TT} (h : PW X e t) (k : ∀ σ H Q, t' σ H Q → t σ H Q) : PW X e t' := ⟨fun wh pins s σ H Q I q => h.run wh pins s σ H Q I (k σ H Q q)⟩
theorem pa_weak {X : Cx} {es : List Expr} {t t' : TA} (h : PA X es t) (k : ∀ σ H Q, t' σ H Q → t σ H Q) : PA X es t' := ⟨fun pos pins s σ H Q I q => h.run pos pins s σ H Q I (k σ H Q q)⟩
theorem ps_weak {X : Cx} {e : Stmt} {t t' : TS} (h : PS X e t) (k : ∀ D σ H, t' D σ H → t D σ H) : PS X e t' := ⟨fun pins s σ H D I q => h.run pins s σ H D I (k D σ H q)⟩
theorem pss_weak {X : Cx} {e : List Stmt} {t t' : TS} (h : PSs X e t) (k : ∀ D σ H, t' D σ H → t D σ H) : PSs X e t' := ⟨fun pins s σ H D I q => h.run pins s σ H D I (k D σ H q)⟩
section
variable {X : Cx} {W : WX} {e a b : Expr} {f g : Fn} {pos : Pos}
theorem pb_of (h : PD X W e f) : PB X W e f := pe_weak h fun σ H Q ⟨P, ε, E, q⟩ => ⟨P, ε, E, q.mono fun d q v H' x r => q v H' x r.toB⟩
/-- a new list as data -/
def lstF (f : Ev → Rz Str (List Dt)) : Fn := fun ε => (f ε).bind fun ds => .ok (.lst ds)
theorem pd_new {f : Ev → Rz Str (List Dt)} (h : PN X W e f) : PD X W e (lstF f) := pe_weak h fun σ H Q ⟨P, ε, E, q⟩ =>
  ⟨P, ε, E, q.bind.mono fun ds q p vs H' x hp hl r => q (.ref p) H' x ⟨p, vs, rfl, hl, E.ne hp, Reps.tr (Tr.less fun a z => .inl z) _ _ r⟩⟩
/-- a name -/
def gv (i : Nat) : Fn := fun ε => match ε[i]? with
  | some (.d x) => .ok x
  | _ => .bad
def gb (i : Nat) : Fn := fun ε => match ε[i]? with
  | some (.d x) => .ok x
  | some (.o xs) => .ok (.lst xs)
  | some (.i _ c ks xs) => .ok (.ins c ks xs)
  | _ => .bad
theorem slot_some {σ : St} {i : Nat} {v : V} (h : σ[i]?.join = some v) : σ[i]? = some (some v) := by
  cases e : σ[i]? with
  | none => rw [e] at h; cases h
  | some o => rw [e] at h; exact congrArg some h
theorem pdv (i : Nat) {x : Str} {pos : Pos} (hN : X.N[i]? = some x := by rfl) (hv : Vis X.env.scope x := by first | exact Or.inl rfl | exact Or.inr (Or.inl rfl) | exact Or.inr (Or.inr rfl)) (hd : (x == ("__debug__" : Str)) = false := by decide)
    (hcd : (x == ("__classdict__" : Str)) = false := by decide) : PD X W (.Name x pos) (gv i) := pe_weak (pe_var (i := i) hN hv hd hcd) fun σ H Q ⟨P, ε, E, q⟩ => by
  cases hy : ε[i]? with
  | none => simp [gv, hy, Out] at q
  | some l =>
    have s := E.sl i l hy
    cases l with
    | d d =>
      simp only [gv, hy, Out] at q
      obtain ⟨v, h1, h2⟩ := s
      exact ⟨v, slot_some h1, q v H Ext.refl h2⟩
    | _ => simp [gv, hy, Out] at q
theorem pbv (i : Nat) {x : Str} {pos : Pos} (hN : X.N[i]? = some x := by rfl) (hv : Vis X.env.scope x := by first | exact Or.inl rfl | exact Or.inr (Or.inl rfl) | exact Or.inr (Or.inr rfl)) (hd : (x == ("__debug__" : Str)) = false := by decide)
    (hcd : (x == ("__classdict__" : Str)) = false := by decide) : PB X W (.Name x pos) (gb i) := pe_weak (pe_var (i := i) hN hv hd hcd) fun σ H Q ⟨P, ε, E, q⟩ => by
  cases hy : ε[i]? with
  | none => simp [gb, hy, Out] at q
  | some l =>
    have s := E.sl i l hy
    cases l with
    | u => simp [gb, hy, Out] at q
    | d d =>
      simp only [gb, hy, Out] at q
      obtain ⟨v, h1, h2⟩ := s
      exact ⟨v, slot_some h1, q v H Ext.refl h2.toB⟩
    | o ds =>
      simp only [gb, hy, Out] at q
      obtain ⟨p, vs, h1, h2, h3, h4⟩ := s
      exact ⟨.ref p, slot_some h1, q _ H Ext.refl ⟨p, vs, rfl, h3, h4⟩⟩
    | i p c ks ds =>
      simp only [gb, hy, Out] at q
      obtain ⟨C, dx, vs, h1, h2, h3, h4, h5, h6⟩ := s
      exact ⟨.ref p, slot_some h1, q _ H Ext.refl ⟨p, C, dx, vs, rfl, h3, h4, h5, h6⟩⟩
    | m xs => simp [gb, hy, Out] at q
    | mf xs => simp [gb, hy, Out] at q
def kc (d : Dt) : Fn := fun _ => .ok d
theorem pd_int {i j pos} : PD X W (.Constant (.int i) j pos) (kc (.int i)) := pe_weak pe_int fun σ H Q ⟨P, ε, E, q⟩ => q _ H Ext.refl rfl
theorem pd_bl {i j pos} : PD X W (.Constant (.bool i) j pos) (kc (.bl i)) := pe_weak pe_bl fun σ H Q ⟨P, ε, E, q⟩ => q _ H Ext.refl rfl
theorem pd_non {j pos} : PD X W (.Constant .none j pos) (kc .non) := pe_weak pe_non fun σ H Q ⟨P, ε, E, q⟩ => q _ H Ext.refl rfl
theorem pd_str {i j pos} : PD X W (.Constant (.str i) j pos) (kc (.str i)) := pe_weak pe_str fun σ H Q ⟨P, ε, E, q⟩ => q _ H Ext.refl rfl

/-! ### operators -/
abbrev O2 := Dt → Dt → Option Dt
def bin (h : O2) (f g : Fn) : Fn := fun ε => (f ε).bind fun x => (g ε).bind fun y => .ofO (h x y)
/-- a rule by values serves an operation on data -/
def OpD (X : Cx) (r : R2) (h : O2) : Prop := ∀ (x y : V) (H : Hp) (Q : VK) (P : Pv) (dx dy d : Dt), (∀ a, P a → ∃ o, H a = some o ∧ ∀ ps, o ≠ .tbl ps) → RepB X.K X.mg H P dx x → RepB X.K X.mg H P dy y → h dx dy = some d →
  (∀ v H', Ext H H' → Rep X.K X.mg H' P d v → Q v H') → r x y H Q
/-- two expressions one after another -/
theorem two_of {α : Type} {T : Ev → Pv → Hp → α → Prop} {h : Dt → Dt → Rz Str α} {σ : St} {H : Hp} {R : V → V → Hp → Prop} {P : Pv} {ε : Ev} (E : EOk X.K X.mg P σ H ε) (q : Out X W σ H ((f ε).bind fun x => (g ε).bind fun y => h x y) (T ε P H))
    (hr : ∀ (x y : V) (H1 : Hp) (dx dy : Dt), EOk X.K X.mg P σ H1 ε → Ext H H1 → RepB X.K X.mg H1 P dx x → RepB X.K X.mg H1 P dy y → Out X W σ H1 (h dx dy) (T ε P H) → R x y H1) : tB X W f σ H fun x H1 => tB X W g σ H1 fun y H2 => R x y H2 :=
  ⟨P, ε, E, q.bind.mono fun dx q x H1 e1 r1 => ⟨P, ε, E.ext e1, (q.bind.ext e1).mono fun dy q y H2 e2 r2 => hr x y H2 dx dy ((E.ext e1).ext e2) (e1.trans e2) (r1.ext e2) r2 (q.ext (e1.trans e2))⟩⟩
theorem opD_of {r : R2} {h : O2} (hr : OpD X r h) {σ : St} {H : Hp} {Q : VK} (q : tD X W (bin h f g) σ H Q) : tB X W f σ H fun x H1 => tB X W g σ H1 fun y H2 => r x y H2 Q := by
  obtain ⟨P, ε, E, q⟩ := q
  refine two_of (T := fun _ P H d => ∀ v H', Ext H H' → Rep X.K X.mg H' P d v → Q v H') E q fun x y H1 dx dy E1 e r1 r2 q => ?_
  obtain ⟨d, hh, q⟩ := q.ofO
  exact hr x y H1 Q P dx dy d E1.tk r1 r2 hh fun v H' x => q v H' (e.trans x)
theorem pd_op {op : Operator} {r : R2} {h : O2} (ho : OpR X (binaryOp op) r) (hr : OpD X r h) (ha : PB X W a f) (hb : PB X W b g) : PD X W (.BinOp a op b pos) (bin h f g) := pe_weak (pe_op ho ha hb) fun _ _ _ q => opD_of hr q
theorem pd_cmp {op : CmpOp} {r : R2} {h : O2} (ho : OpR X (compareOp op) r) (hr : OpD X r h) (ha : PB X W a f) (hb : PB X W b g) (hm : behindInMarks op b = false) : PD X W (.Compare a [op] [b] pos) (bin h f g) := pe_weak (pe_cmpR ho ha hb hm) fun _ _ _ q => opD_of hr q
end
end DL
end
section
set_option Elab.async false
set_option linter.all false
set_option maxRecDepth 100000
set_option autoImplicit false
namespace DL
open PySem PySem.Spec PyProof.Rows L2
variable [TbC]
variable {X : Cx} {W : WX} {e a b : Expr} {f g : Fn} {pos : Pos}

/-! ### arithmetic -/
open Classical in
noncomputable def mulD : O2
  | .int i, .int j => if IntMulOk i j then some (.int (i * j)) else none
  | _, _ => none
def addD : O2
  | .int i, .int j => some (.int (i + j))
  | .str x, .str y => if x.length + y.length ≤ sizeLine then some (.str (x ++ y)) else none
  | .lst xs, .lst ys => if xs.length + ys.length ≤ sizeLine then some (.lst (xs ++ ys)) else none
  | .tup xs, .tup ys => if xs ≠ [] ∧ ys ≠ [] ∧ xs.length + ys.length ≤ sizeLine then some (.tup (xs ++ ys)) else none
  | _, _ => none
def subD : O2
  | .int i, .int j => some (.int (i - j))
  | _, _ => none
def modD : O2
  | .int i, .int j => if j ≠ 0 then some (.int (i.fmod j)) else none
  | _, _ => none
def divD : O2
  | .int i, .int j => if j ≠ 0 ∧ j.natAbs.log2 < 9000 then some (.int (i.fdiv j)) else none
  | _, _ => none
theorem op_fdivAll : OpR X (binaryOp .FloorDiv) (rI (fun _ j => j ≠ 0 ∧ j.natAbs.log2 < 9000) fun i j => .int (i.fdiv j)) := opI fun i j _ _ _ _ _ hc q => floordiv_int hc.1 q (.inl (PyProof.noPylong_of_log2 hc.2))
theorem op_mulAll : OpR X (binaryOp .Mult) (rI IntMulOk fun i j => .int (i * j)) := opI fun _ _ _ _ _ _ _ hc q => mul_int q hc
theorem opD_I {C : Int → Int → Prop} {k : Int → Int → V} {h : O2} {k' : Int → Int → Dt} (hh : ∀ x y d, h x y = some d → ∃ i j, x = .int i ∧ y = .int j ∧ C i j ∧ d = k' i j) (hk : ∀ K mg H P i j, Rep K mg H P (k' i j) (k i j)) : OpD X (rI C k) h := fun x y H Q P dx dy d _ r1 r2 e q => by
  obtain ⟨i, j, rfl, rfl, c, rfl⟩ := hh _ _ _ e
  exact ⟨i, j, r1, r2, c, q _ H Ext.refl (hk _ _ _ _ _ _)⟩
theorem mul_ok : OpD X (rI IntMulOk fun i j => .int (i * j)) mulD := opD_I (k' := fun i j => .int (i * j)) (fun x y d e => by
  unfold mulD at e
  split at e
  · split at e
    · exact ⟨_, _, rfl, rfl, by assumption, (Option.some.inj e).symm⟩
    · cases e
  · cases e) fun _ _ _ _ _ _ => rfl
theorem mod_ok : OpD X (rI (fun _ j => j ≠ 0) fun i j => .int (i.fmod j)) modD := opD_I (k' := fun i j => .int (i.fmod j)) (fun x y d e => by
  unfold modD at e
  split at e
  · split at e
    · exact ⟨_, _, rfl, rfl, by assumption, (Option.some.inj e).symm⟩
    · cases e
  · cases e) fun _ _ _ _ _ _ => rfl
theorem div_ok : OpD X (rI (fun _ j => j ≠ 0 ∧ j.natAbs.log2 < 9000) fun i j => .int (i.fdiv j)) divD := opD_I (k' := fun i j => .int (i.fdiv j)) (fun x y d e => by
  unfold divD at e
  split at e
  · split at e
    · exact ⟨_, _, rfl, rfl, by assumption, (Option.some.inj e).symm⟩
    · cases e
  · cases e) fun _ _ _ _ _ _ => rfl
theorem sub_ok : OpD X (rI0 fun i j => .int (i - j)) subD := fun x y H Q P dx dy d _ r1 r2 e q => by
  unfold subD at e
  split at e
  · cases e
    exact ⟨_, _, r1, r2, q _ H Ext.refl rfl⟩
  · cases e
def rAddAll (K : PySem.W.Frag) : R2 := fun x y H Q => (∃ i j, x = .int i ∧ y = .int j ∧ Q (.int (i + j)) H) ∨ (∃ i j, x = .str i ∧ y = .str j ∧ i.length + j.length ≤ sizeLine ∧ Q (.str (i ++ j)) H) ∨ rCat x y H Q ∨ rCatT K x y H Q
theorem op_addAll : OpR X (binaryOp .Add) (rAddAll X.K) := op_add.or (op_add_str.or (op_cat.or op_catT))
theorem add_ok : OpD X (rAddAll X.K) addD := fun x y H Q P dx dy d tk r1 r2 e q => by
  unfold addD at e
  split at e
  · cases e
    exact .inl ⟨_, _, r1, r2, q _ H Ext.refl rfl⟩
  · split at e
    · cases e
      exact .inr (.inl ⟨_, _, r1, r2, by assumption, q _ H Ext.refl rfl⟩)
    · cases e
  · split at e
    · cases e
      obtain ⟨p, vs, rfl, h1, s1⟩ := r1
      obtain ⟨p', vs', rfl, h1', s1'⟩ := r2
      refine .inr (.inr (.inl ⟨p, p', vs, vs', rfl, rfl, h1, h1', by rw [← s1.length, ← s1'.length]; assumption, fun l hl => q _ _ (Ext.new hl) ⟨l, _, rfl, upd_same, fun z => ?_, (s1.append s1').ext (Ext.new hl)⟩⟩))
      obtain ⟨o, z', _⟩ := tk l z
      rw [hl] at z'; cases z'
    · cases e
  · split at e
    · rename_i hz
      cases e
      obtain ⟨p, vs, rfl, h1, s1⟩ := r1
      obtain ⟨p', vs', rfl, h1', s1'⟩ := r2
      have n1 : vs ≠ [] := fun z => hz.1 (List.eq_nil_of_length_eq_zero (by rw [s1.length, z]; rfl))
      have n2 : vs' ≠ [] := fun z => hz.2.1 (List.eq_nil_of_length_eq_zero (by rw [s1'.length, z]; rfl))
      exact .inr (.inr (.inr ⟨p, p', vs, vs', rfl, rfl, h1, h1', n1, by rw [← s1.length, ← s1'.length]; exact hz.2.2, fun z => absurd z n2, fun _ l hl => q _ _ (Ext.new hl) ⟨l, _, rfl, .of upd_same, (s1.append s1').ext (Ext.new hl)⟩⟩))
    · cases e
  · cases e
theorem dAdd (ha : PB X W a f) (hb : PB X W b g) : PD X W (.BinOp a .Add b pos) (bin addD f g) := pd_op op_addAll add_ok ha hb
theorem dSub (ha : PB X W a f) (hb : PB X W b g) : PD X W (.BinOp a .Sub b pos) (bin subD f g) := pd_op op_sub sub_ok ha hb
theorem dMul (ha : PB X W a f) (hb : PB X W b g) : PD X W (.BinOp a .Mult b pos) (bin mulD f g) := pd_op op_mulAll mul_ok ha hb
theorem dMod (ha : PB X W a f) (hb : PB X W b g) : PD X W (.BinOp a .Mod b pos) (bin modD f g) := pd_op op_modN mod_ok ha hb
theorem dDiv (ha : PB X W a f) (hb : PB X W b g) : PD X W (.BinOp a .FloorDiv b pos) (bin divD f g) := pd_op op_fdivAll div_ok ha hb
/-- shifts of small numbers -/
def shlD : O2
  | .int i, .int j => if 0 ≤ j ∧ j ≤ 1000000 ∧ i.natAbs < 2 ^ 64 then some (.int (i * 2 ^ j.toNat)) else none
  | _, _ => none
theorem shl_ok : OpD X (rI CPow fun i j => .int (i * 2 ^ j.toNat)) shlD := opD_I (k' := fun i j => .int (i * 2 ^ j.toNat)) (fun x y d e => by
  unfold shlD at e
  split at e
  · split at e
    · exact ⟨_, _, rfl, rfl, by assumption, (Option.some.inj e).symm⟩
    · cases e
  · cases e) fun _ _ _ _ _ _ => rfl
theorem dShl (ha : PB X W a f) (hb : PB X W b g) : PD X W (.BinOp a .LShift b pos) (bin shlD f g) := pd_op op_shl shl_ok ha hb
def powD : O2
  | .int i, .int j => if 0 ≤ j ∧ j ≤ 1000000 ∧ i.natAbs < 2 ^ 64 then some (.int (i ^ j.toNat)) else none
  | _, _ => none
theorem pow_ok : OpD X (rI CPow fun i j => .int (i ^ j.toNat)) powD := opD_I (k' := fun i j => .int (i ^ j.toNat)) (fun x y d e => by
  unfold powD at e
  split at e
  · split at e
    · exact ⟨_, _, rfl, rfl, by assumption, (Option.some.inj e).symm⟩
    · cases e
  · cases e) fun _ _ _ _ _ _ => rfl
theorem dPow (ha : PB X W a f) (hb : PB X W b g) : PD X W (.BinOp a .Pow b pos) (bin powD f g) := pd_op op_pow pow_ok ha hb
/-! ### comparisons -/
def cmpD (p : Int → Int → Bool) : O2
  | .int i, .int j => some (.bl (p i j))
  | _, _ => none
theorem cmp_ok {p : Int → Int → Bool} : OpD X (rI0 fun i j => .bl (p i j)) (cmpD p) := fun x y H Q P dx dy d _ r1 r2 e q => by
  unfold cmpD at e
  split at e
  · cases e
    exact ⟨_, _, r1, r2, q _ H Ext.refl rfl⟩
  · cases e
def ltD : O2 := cmpD fun i j => decide (i < j)
def leD : O2 := cmpD fun i j => decide (i ≤ j)
def gtD : O2 := cmpD fun i j => decide (j < i)
def geD : O2 := cmpD fun i j => decide (j ≤ i)
theorem dLt (ha : PB X W a f) (hb : PB X W b g) : PD X W (.Compare a [.Lt] [b] pos) (bin ltD f g) := pd_cmp op_lt cmp_ok ha hb (nomark _)
theorem dLe (ha : PB X W a f) (hb : PB X W b g) : PD X W (.Compare a [.LtE] [b] pos) (bin leD f g) := pd_cmp op_le cmp_ok ha hb (nomark _)
theorem dGt (ha : PB X W a f) (hb : PB X W b g) : PD X W (.Compare a [.Gt] [b] pos) (bin gtD f g) := pd_cmp op_gt cmp_ok ha hb (nomark _)
theorem dGe (ha : PB X W a f) (hb : PB X W b g) : PD X W (.Compare a [.GtE] [b] pos) (bin geD f g) := pd_cmp op_ge cmp_ok ha hb (nomark _)
/-! as plain data of the library -/
mutual
def py : Dt → Option PyData
  | .non => some .none
  | .bl b => some (.bool b)
  | .int i => some (.int i)
  | .str x => some (.str x)
  | .tup xs => (pys xs).map .tuple
  | .lst xs => (pys xs).map .list
  | .frl xs => (pys xs).map .list
  | .ins _ _ _ => none
  | .fn _ _ _ _ _ => none
  | .exn _ _ => none
def pys : List Dt → Option (List PyData)
  | [] => some []
  | d :: ds => (py d).bind fun x => (pys ds).map fun r => x :: r
end
section
variable {K : PySem.W.Frag} {mg : Mg} {H : Hp} {P : Pv}
mutual
theorem rep_py : ∀ (d : Dt) (v : V) (x : PyData), Rep K mg H P d v → py d = some x → Dp K H v x
  | .non, v, x, h, e => by cases e; rw [show v = _ from h]; exact .non
  | .bl b, v, x, h, e => by cases e; rw [show v = _ from h]; exact .bl b
  | .int b, v, x, h, e => by cases e; rw [show v = _ from h]; exact .int b
  | .str b, v, x, h, e => by cases e; rw [show v = _ from h]; exact .str b
  | .tup ds, v, x, ⟨a, vs, q, h1, h2⟩, e => by
    subst q
    rw [py] at e
    cases q : pys ds with
    | none => rw [q] at e; cases e
    | some xs => rw [q] at e; cases e; exact .tup h1 (reps_py ds vs xs h2 q)
  | .lst ds, v, x, ⟨a, vs, q, h1, _, h2⟩, e => by
    subst q
    rw [py] at e
    cases q : pys ds with
    | none => rw [q] at e; cases e
    | some xs => rw [q] at e; cases e; exact .lst (.of h1) (reps_py ds vs xs h2 q)
  | .frl ds, v, x, ⟨a, vs, q, h1, h2⟩, e => by
    subst q
    rw [py] at e
    cases q : pys ds with
    | none => rw [q] at e; cases e
    | some xs => rw [q] at e; cases e; exact .lst h1.sq (reps_py ds vs xs h2 q)
  | .ins _ _ _, _, _, _, e => by cases e
  | .fn _ _ _ _ _, _, _, _, e => by cases e
  | .exn _ _, _, _, _, e => by cases e
theorem reps_py : ∀ (ds : List Dt) (vs : List V) (xs : List PyData), Reps K mg H P ds vs → pys ds = some xs → DpAll K H vs xs
  | [], vs, xs, h, e => by cases e; rw [show vs = _ from h]; exact .nil
  | d :: ds, vs, xs, ⟨v, r, q, h1, h2⟩, e => by
    subst q
    rw [pys] at e
    cases q : py d with
    | none => rw [q] at e; cases e
    | some y =>
      cases q2 : pys ds with
      | none => rw [q, q2] at e; cases e
      | some ys => rw [q, q2] at e; cases e; exact .cons (rep_py d v y h1 q) (reps_py ds r ys h2 q2)
end
theorem repB_py {d : Dt} {v : V} {x : PyData} (h : RepB K mg H P d v) (e : py d = some x) : Dp K H v x := by
  cases d with
  | lst ds =>
    obtain ⟨a, vs, q, h1, h2⟩ := h
    subst q
    rw [py] at e
    cases q : pys ds with
    | none => rw [q] at e; cases e
    | some xs => rw [q] at e; cases e; exact .lst (.of h1) (reps_py ds vs xs h2 q)
  | ins c ks ds => cases e
  | _ => exact rep_py _ _ _ h e
end
def eqB (x y : Dt) : Option Bool := (py x).bind fun a => (py y).bind fun b => if SeqAt.shaped a = true ∧ SeqAt.shaped b = true then some (PyData.eqv a b) else none
def eqD : O2 := fun x y => (eqB x y).map .bl
def neD : O2 := fun x y => (eqB x y).map fun b => .bl (!b)
theorem eqB_some {x y : Dt} {k : Bool} (h : eqB x y = some k) : ∃ a b, py x = some a ∧ py y = some b ∧ SeqAt.shaped a = true ∧ SeqAt.shaped b = true ∧ k = PyData.eqv a b := by
  unfold eqB at h
  cases e1 : py x with
  | none => rw [e1] at h; cases h
  | some a =>
    cases e2 : py y with
    | none => rw [e1, e2] at h; cases h
    | some b =>
      rw [e1, e2] at h
      simp only [Option.bind_some] at h
      split at h
      · rename_i hs
        exact ⟨a, b, rfl, rfl, hs.1, hs.2, (Option.some.inj h).symm⟩
      · cases h
theorem eq_ok : OpD X (rEqD X.K) eqD := fun x y H Q P dx dy d _ r1 r2 e q => by
  unfold eqD at e
  cases h : eqB dx dy with
  | none => rw [h] at e; cases e
  | some k =>
    rw [h] at e; cases e
    obtain ⟨u, v, h1, h2, h3, h4, rfl⟩ := eqB_some h
    exact ⟨u, v, repB_py r1 h1, repB_py r2 h2, h3, h4, q _ H Ext.refl rfl⟩
theorem ne_ok : OpD X (rNeD X.K) neD := fun x y H Q P dx dy d _ r1 r2 e q => by
  unfold neD at e
  cases h : eqB dx dy with
  | none => rw [h] at e; cases e
  | some k =>
    rw [h] at e; cases e
    obtain ⟨u, v, h1, h2, h3, h4, rfl⟩ := eqB_some h
    exact ⟨u, v, repB_py r1 h1, repB_py r2 h2, h3, h4, q _ H Ext.refl rfl⟩
theorem dEq {k : Nat} (hr : Room k X.A) (ha : PB X W a f) (hb : PB X W b g) : PD X W (.Compare a [.Eq] [b] pos) (bin eqD f g) := pd_cmp (op_eqD hr.units) eq_ok ha hb (nomark _)
theorem dNe {k : Nat} (hr : Room k X.A) (ha : PB X W a f) (hb : PB X W b g) : PD X W (.Compare a [.NotEq] [b] pos) (bin neD f g) := pd_cmp (op_neD hr.units) ne_ok ha hb (nomark _)
def Dt.isNon : Dt → Bool
  | .non => true
  | _ => false
theorem repB_non {K : PySem.W.Frag} {mg : Mg} {H : Hp} {P : Pv} {d : Dt} {v : V} (h : RepB K mg H P d v) : decide (v = .non) = d.isNon := by
  cases d with
  | non => have e : v = _ := h; rw [e]; rfl
  | bl b => have e : v = _ := h; rw [e]; rfl
  | int b => have e : v = _ := h; rw [e]; rfl
  | str b => have e : v = _ := h; rw [e]; rfl
  | tup ds => obtain ⟨a, vs, rfl, _⟩ := h; rfl
  | lst ds => obtain ⟨a, vs, rfl, _⟩ := h; rfl
  | frl ds => obtain ⟨a, vs, rfl, _⟩ := h; rfl
  | ins c ks ds => obtain ⟨a, C, dx, vs, rfl, _⟩ := h; rfl
  | fn f c q ws ds => obtain ⟨rfl, _⟩ := h; rfl
  | exn c m => obtain ⟨a, C, ta, rfl, _⟩ := h; rfl
/-- is None, is not None -/
def isND : O2 := fun x y => match y with
  | .non => some (.bl x.isNon)
  | _ => none
def notND : O2 := fun x y => match y with
  | .non => some (.bl (!x.isNon))
  | _ => none
theorem isN_ok : OpD X (fun x y H Q => y = .non ∧ Q (.bl (decide (x = .non))) H) isND := fun x y H Q P dx dy d _ r1 r2 e q => by
  unfold isND at e
  split at e
  · cases e
    exact ⟨r2, q _ H Ext.refl (by rw [repB_non r1]; rfl)⟩
  · cases e
theorem notN_ok : OpD X (fun x y H Q => y = .non ∧ Q (.bl (!decide (x = .non))) H) notND := fun x y H Q P dx dy d _ r1 r2 e q => by
  unfold notND at e
  split at e
  · cases e
    exact ⟨r2, q _ H Ext.refl (by rw [repB_non r1]; rfl)⟩
  · cases e
theorem dIsN (ha : PB X W a f) (hb : PB X W b g) : PD X W (.Compare a [.Is] [b] pos) (bin isND f g) := pd_cmp op_isN isN_ok ha hb (nomark _)
theorem dNotN (ha : PB X W a f) (hb : PB X W b g) : PD X W (.Compare a [.IsNot] [b] pos) (bin notND f g) := pd_cmp op_notN notN_ok ha hb (nomark _)
/-! ### subscripts -/
def ixD : O2
  | .lst xs, .int i => atI xs i
  | .frl xs, .int i => atI xs i
  | .tup xs, .int i => atI xs i
  | .str z, .int i => if z.length ≤ sizeLine then (atI z.cps.toList i).map fun c => .str ⟨#[c]⟩ else none
  | _, _ => none
theorem atI_rep {K : PySem.W.Frag} {mg : Mg} {H : Hp} {P : Pv} {ds : List Dt} {vs : List V} {i : Int} {d : Dt} (h : Reps K mg H P ds vs) (e : atI ds i = some d) : ∃ v, atI vs i = some v ∧ Rep K mg H P d v := by
  unfold atI at e ⊢
  rw [← h.length]
  cases q : ixN ds.length i with
  | none => rw [q] at e; cases e
  | some j => rw [q] at e; exact h.get e
theorem ix_ok {x y : V} {H : Hp} {Q : VK} {P : Pv} {dx dy d : Dt} (r1 : RepB X.K X.mg H P dx x) (r2 : RepB X.K X.mg H P dy y) (e : ixD dx dy = some d) (q : ∀ v, Rep X.K X.mg H P d v → Q v H) : rIx X.K x y H Q := by
  unfold ixD at e
  split at e
  · obtain ⟨p, vs, rfl, h1, s1⟩ := r1
    obtain ⟨v, h2, h3⟩ := atI_rep s1 e
    exact .inl ⟨p, vs, _, v, rfl, r2, .of h1, h2, q v h3⟩
  · obtain ⟨p, vs, rfl, h1, s1⟩ := r1
    obtain ⟨v, h2, h3⟩ := atI_rep s1 e
    exact .inl ⟨p, vs, _, v, rfl, r2, h1.sq, h2, q v h3⟩
  · obtain ⟨p, vs, rfl, h1, s1⟩ := r1
    obtain ⟨v, h2, h3⟩ := atI_rep s1 e
    exact .inr (.inl ⟨p, vs, _, v, rfl, r2, h1, h2, q v h3⟩)
  · split at e
    · rename_i z i hz
      cases h : atI z.cps.toList i with
      | none => rw [h] at e; cases e
      | some c => rw [h] at e; cases e; exact .inr (.inr ⟨z, i, c, r1, r2, hz, h, q _ rfl⟩)
    · cases e
  · cases e
theorem dIx (ha : PB X W a f) (hb : PB X W b g) (hs : PlainIx b := by exact fun _ _ => rfl) : PD X W (.Subscript a b pos) (bin ixD f g) := pe_weak (pe_ix ix_seq ha hb hs) fun σ H Q q =>
  opD_of (X := X) (r := rIx X.K) (fun x y H Q P dx dy d _ r1 r2 e q => ix_ok r1 r2 e fun v r => q v H Ext.refl r) q
end DL
end
section
set_option Elab.async false
set_option linter.all false
set_option maxRecDepth 100000
set_option autoImplicit false
namespace DL
open PySem PySem.Spec PyProof.Rows L2
variable [TbC]
variable {X : Cx} {W : WX} {e a b c : Expr} {es rest : List Expr} {f g h : Fn} {pos : Pos}

/-! ### tests -/
abbrev Tf := Ev → Rz Str Bool
def TW (X : Cx) (W : WX) (e : Expr) (f : Tf) : Prop := PW X e (tT X W f)
def Dt.boo : Dt → Rz Str Bool
  | .bl b => .ok b
  | _ => .bad
def tst (f : Fn) : Tf := fun ε => (f ε).bind Dt.boo
theorem Out.boo {σ : St} {H : Hp} {d : Dt} {k : Bool → Prop} (h : Out X W σ H d.boo k) : ∃ b, d = .bl b ∧ k b := by
  cases d with
  | bl b => exact ⟨b, rfl, h⟩
  | _ => exact h.elim
theorem td_cmp {op : CmpOp} {r : R2} {h : O2} (ho : OpR X (compareOp op) r) (hr : OpD X r h) (ha : PB X W a f) (hb : PB X W b g) (hm : behindInMarks op b = false) : TD X W (.Compare a [op] [b] pos) (tst (bin h f g)) := pt_weak (pt_cmpR ho ha hb hm) fun σ H Q ⟨P, ε, E, q⟩ =>
  opD_of hr ⟨P, ε, E, q.bind.mono fun d q v H' x r => by
    obtain ⟨k, rfl, q⟩ := q.boo
    exact ⟨k, r, q H' x⟩⟩
theorem td_val (h : PD X W e f) (he : ∀ whole, isTrue e X.env whole = (do let v ← whole; standAt e.pos; holding [v] (truthy v)) := by intro _; rfl) : TD X W e (tst f) := pt_weak (pt_val h he) fun σ H Q ⟨P, ε, E, q⟩ =>
  ⟨P, ε, E, q.bind.mono fun d q v H' x r => by
    obtain ⟨k, rfl, q⟩ := q.boo
    exact ⟨k, r, q H' x⟩⟩
theorem td_of {f : Tf} (h : TW X W e f) : TD X W e f := PW.pt h
def andT (f g : Tf) : Tf := fun ε => (f ε).bind fun b => if b = true then g ε else .ok false
def orT (f g : Tf) : Tf := fun ε => (f ε).bind fun b => if b = true then .ok true else g ε
def notT (f : Tf) : Tf := fun ε => (f ε).bind fun b => .ok (!b)
theorem tw_and1 {f : Tf} (ha : TD X W a f) : TW X W (.BoolOp .And [a] pos) f := pw_and1 ha
theorem tw_or1 {f : Tf} (ha : TD X W a f) : TW X W (.BoolOp .Or [a] pos) f := pw_or1 ha
theorem tw_and {f g : Tf} (ha : TD X W a f) (hb : TW X W (.BoolOp .And (b :: rest) pos) g) : TW X W (.BoolOp .And (a :: b :: rest) pos) (andT f g) := pw_weak (pw_and ha hb) fun σ H Q ⟨P, ε, E, q⟩ =>
  ⟨P, ε, E, q.bind.mono fun k q H1 e => by
    cases k with
    | false => exact q H1 e
    | true => exact ⟨P, ε, E.ext e, (Out.ext (show Out X W σ H (g ε) _ from q) e).mono fun k q H2 e2 => q H2 (e.trans e2)⟩⟩
theorem tw_or {f g : Tf} (ha : TD X W a f) (hb : TW X W (.BoolOp .Or (b :: rest) pos) g) : TW X W (.BoolOp .Or (a :: b :: rest) pos) (orT f g) := pw_weak (pw_or ha hb) fun σ H Q ⟨P, ε, E, q⟩ =>
  ⟨P, ε, E, q.bind.mono fun k q H1 e => by
    cases k with
    | true => exact q H1 e
    | false => exact ⟨P, ε, E.ext e, (Out.ext (show Out X W σ H (g ε) _ from q) e).mono fun k q H2 e2 => q H2 (e.trans e2)⟩⟩
theorem td_not {f : Tf} (ha : TD X W a f) : TD X W (.UnaryOp .Not a pos) (notT f) := pt_weak (pt_not ha) fun σ H Q ⟨P, ε, E, q⟩ => ⟨P, ε, E, q.bind⟩
/-- .. as values -/
def andV (f g : Fn) : Fn := fun ε => (f ε).bind fun x => x.boo.bind fun b => if b = true then g ε else .ok (.bl false)
def orV (f g : Fn) : Fn := fun ε => (f ε).bind fun x => x.boo.bind fun b => if b = true then .ok (.bl true) else g ε
def notV (f : Fn) : Fn := fun ε => (f ε).bind fun x => x.boo.bind fun b => .ok (.bl (!b))
theorem pd_one {op} (ha : PD X W a f) : PD X W (.BoolOp op [a] pos) f := pe_one ha
theorem pd_and (ha : PD X W a f) (hb : PD X W (.BoolOp .And (b :: rest) pos) g) : PD X W (.BoolOp .And (a :: b :: rest) pos) (andV f g) := pe_weak (pe_and ha hb) fun σ H Q ⟨P, ε, E, q⟩ =>
  ⟨P, ε, E, q.bind.mono fun d q v H1 e r => by
    obtain ⟨k, rfl, q⟩ := q.bind.boo
    refine ⟨k, r, ?_⟩
    cases k with
    | false => exact q _ H1 e rfl
    | true => exact ⟨P, ε, E.ext e, (Out.ext (show Out X W σ H (g ε) _ from q) e).mono fun k q v H2 e2 => q v H2 (e.trans e2)⟩⟩
theorem pd_or (ha : PD X W a f) (hb : PD X W (.BoolOp .Or (b :: rest) pos) g) : PD X W (.BoolOp .Or (a :: b :: rest) pos) (orV f g) := pe_weak (pe_or ha hb) fun σ H Q ⟨P, ε, E, q⟩ =>
  ⟨P, ε, E, q.bind.mono fun d q v H1 e r => by
    obtain ⟨k, rfl, q⟩ := q.bind.boo
    refine ⟨k, r, ?_⟩
    cases k with
    | true => exact q _ H1 e rfl
    | false => exact ⟨P, ε, E.ext e, (Out.ext (show Out X W σ H (g ε) _ from q) e).mono fun k q v H2 e2 => q v H2 (e.trans e2)⟩⟩
theorem pd_not (ha : PD X W a f) : PD X W (.UnaryOp .Not a pos) (notV f) := pe_weak (pe_not ha) fun σ H Q ⟨P, ε, E, q⟩ =>
  ⟨P, ε, E, q.bind.mono fun d q v H1 e r => by
    obtain ⟨k, rfl, q⟩ := q.bind.boo
    exact ⟨k, r, q _ H1 e rfl⟩⟩
def ifV (t : Tf) (f g : Fn) : Fn := fun ε => (t ε).bind fun b => if b = true then f ε else g ε
theorem pd_if {t : Tf} (hc : TD X W c t) (ha : PD X W a f) (hb : PD X W b g) : PD X W (.IfExp c a b pos) (ifV t f g) := pe_weak (pe_ifExp hc ha hb) fun σ H Q ⟨P, ε, E, q⟩ =>
  ⟨P, ε, E, q.bind.mono fun k q H1 e => by
    cases k with
    | true => exact ⟨P, ε, E.ext e, (Out.ext (show Out X W σ H (f ε) _ from q) e).mono fun k q v H2 e2 => q v H2 (e.trans e2)⟩
    | false => exact ⟨P, ε, E.ext e, (Out.ext (show Out X W σ H (g ε) _ from q) e).mono fun k q v H2 e2 => q v H2 (e.trans e2)⟩⟩
/-- a op b op' c -/
def chn (h h' : O2) (f g k : Fn) : Fn := fun ε => (f ε).bind fun x => (g ε).bind fun y => (Rz.ofO (h x y)).bind fun r => r.boo.bind fun b => if b = true then (k ε).bind fun z => .ofO (h' y z) else .ok (.bl false)
theorem chn_of {r r' : R2} {o o' : O2} (hr : OpD X r o) (hr' : OpD X r' o') {σ : St} {H : Hp} {Q : VK} (q : tD X W (chn o o' f g h) σ H Q) : tChain r r' (tB X W f) (tB X W g) (tB X W h) σ H Q := by
  obtain ⟨P, ε, E, q⟩ := q
  refine two_of (T := fun _ P H d => ∀ v H', Ext H H' → Rep X.K X.mg H' P d v → Q v H') E q fun x y H1 dx dy E1 e r1 r2 q => ?_
  obtain ⟨d, hh, q⟩ := q.bind.ofO
  refine hr x y H1 _ P dx dy d E1.tk r1 r2 hh fun v H2 e2 rv => ?_
  obtain ⟨k, rfl, q⟩ := q.bind.boo
  refine ⟨k, rv, ?_⟩
  cases k with
  | false => exact q _ H2 (e.trans e2) rfl
  | true =>
    refine ⟨P, ε, E1.ext e2, (Out.ext (Out.bind (show Out X W σ H1 ((h ε).bind fun z => .ofO (o' dy z)) _ from q)) e2).mono fun dz q z H3 e3 r3 => ?_⟩
    obtain ⟨d', hh', q⟩ := q.ofO
    exact hr' y z H3 Q P dy dz d' ((E1.ext e2).ext e3).tk ((r2.ext e2).ext e3) r3 hh' fun v H' x => q v H' (((e.trans e2).trans e3).trans x)
theorem td_chain {op op' : CmpOp} {r r' : R2} {o o' : O2} (ho : OpR X (compareOp op) r) (hr : OpD X r o) (ho' : OpR X (compareOp op') r') (hr' : OpD X r' o') (ha : PB X W a f) (hb : PB X W b g) (hc : PB X W c h) (hm : lastMarks [op, op'] [b, c] = false := by with_unfolding_all rfl) :
    TD X W (.Compare a [op, op'] [b, c] pos) (tst (chn o o' f g h)) := pt_weak (pt_chain ho ho' ha hb hc hm) fun σ H Q ⟨P, ε, E, q⟩ =>
  chn_of hr hr' ⟨P, ε, E, q.bind.mono fun d q v H' x r => by
    obtain ⟨k, rfl, q⟩ := q.boo
    exact ⟨k, r, q H' x⟩⟩

/-! ### arguments, displays -/
abbrev Fs := Ev → Rz Str (List Dt)
def nilF : Fs := fun _ => .ok []
def consF (f : Fn) (fs : Fs) : Fs := fun ε => (f ε).bind fun x => (fs ε).bind fun xs => .ok (x :: xs)
theorem ad_nil : AD X W [] nilF := pa_weak pa_nil fun σ H Q ⟨P, ε, E, q⟩ => q [] H Ext.refl rfl
theorem ad_cons {fs : Fs} (ha : PD X W e f) (hr : AD X W es fs) (hs : starEach (e :: es) X.env = (false, eval e X.env) :: starEach es X.env := by rfl) : AD X W (e :: es) (consF f fs) := pa_weak (pa_cons ha hr hs) fun σ H Q ⟨P, ε, E, q⟩ =>
  ⟨P, ε, E, q.bind.mono fun d q v H1 e1 r1 => ⟨P, ε, E.ext e1, (q.bind.ext e1).mono fun ds q vs H2 e2 r2 => q (v :: vs) H2 (e1.trans e2) ⟨v, vs, rfl, r1.ext e2, r2⟩⟩⟩
def tupF (fs : Fs) : Fn := fun ε => (fs ε).bind fun ds => if ds.length ≤ sizeLine then .ok (.tup ds) else .bad
def lsF (fs : Fs) : Fs := fun ε => (fs ε).bind fun ds => if ds.length ≤ sizeLine then .ok ds else .bad
theorem pd_tup {x1} {fs : Fs} (h : AD X W es fs) : PD X W (.Tuple es x1 pos) (tupF fs) := pe_weak (pe_tup h) fun σ H Q ⟨P, ε, E, q⟩ =>
  ⟨P, ε, E, q.bind.mono fun ds q vs H1 e r => by
    by_cases z : ds.length ≤ sizeLine
    · rw [if_pos z] at q
      exact ⟨by rw [← r.length]; exact z, fun p hp => q _ _ (e.trans (Ext.new hp)) ⟨p, vs, rfl, .of upd_same, r.ext (Ext.new hp)⟩⟩
    · rw [if_neg z] at q
      exact q.elim⟩
theorem pn_lst {fs : Fs} (h : AD X W es fs) : PN X W (.List es pos) (lsF fs) := pe_weak (pe_lst h) fun σ H Q ⟨P, ε, E, q⟩ =>
  ⟨P, ε, E, q.bind.mono fun ds q vs H1 e r => by
    by_cases z : ds.length ≤ sizeLine
    · rw [if_pos z] at q
      exact ⟨by rw [← r.length]; exact z, fun p hp => q _ _ _ (e.trans (Ext.new hp)) (e.fresh (.of hp)) upd_same ((Reps.tr (Tr.more (.of hp)) _ _ r).ext (Ext.new hp))⟩
    · rw [if_neg z] at q
      exact q.elim⟩
end DL
end
section
set_option Elab.async false
set_option linter.all false
set_option maxRecDepth 100000
set_option autoImplicit false
namespace DL
open PySem PySem.Spec PyProof.Rows L2
variable [TbC]
variable {X : Cx} {W : WX} {e a b c : Expr} {es rest : List Expr} {f g h : Fn} {pos p : Pos}

/-! ### built-ins of one argument, of two -/
def un (h : Dt → Option Dt) (f : Fn) : Fn := fun ε => (f ε).bind fun x => .ofO (h x)
def UnD (X : Cx) (r : List V → Hp → VK → Prop) (h : Dt → Option Dt) : Prop := ∀ (x : V) (H : Hp) (Q : VK) (P : Pv) (dx d : Dt), (∀ a, P a → ∃ o, H a = some o ∧ ∀ ps, o ≠ .tbl ps) → RepB X.K X.mg H P dx x → h dx = some d →
  (∀ v H', Ext H H' → Rep X.K X.mg H' P d v → Q v H') → r [x] H Q
def UnN (X : Cx) (r : List V → Hp → VK → Prop) (h : Dt → Option (List Dt)) : Prop := ∀ (x : V) (H : Hp) (Q : VK) (P : Pv) (dx : Dt) (ds : List Dt), (∀ a, P a → ∃ o, H a = some o ∧ ∀ ps, o ≠ .tbl ps) → RepB X.K X.mg H P dx x → h dx = some ds →
  (∀ p vs H', Ext H H' → Fresh H p → H' p = some (.lst vs) → Reps X.K X.mg H' (more P p) ds vs → Q (.ref p) H') → r [x] H Q
def BiD (X : Cx) (r : List V → Hp → VK → Prop) (h : O2) : Prop := ∀ (x y : V) (H : Hp) (Q : VK) (P : Pv) (dx dy d : Dt), (∀ a, P a → ∃ o, H a = some o ∧ ∀ ps, o ≠ .tbl ps) → RepB X.K X.mg H P dx x → RepB X.K X.mg H P dy y → h dx dy = some d →
  (∀ v H', Ext H H' → Rep X.K X.mg H' P d v → Q v H') → r [x, y] H Q
def unN (h : Dt → Option (List Dt)) (f : Fn) : Fs := fun ε => (f ε).bind fun x => .ofO (h x)
theorem una {r : List V → Hp → VK → Prop} {h : Dt → Option Dt} (hr : UnD X r h) {σ : St} {H : Hp} {Q : VK} (q : tD X W (un h f) σ H Q) : tCB r (tCons (tB X W f) tNil) σ H Q := by
  obtain ⟨P, ε, E, q⟩ := q
  exact ⟨P, ε, E, q.bind.mono fun dx q x H1 e1 r1 => by
    obtain ⟨d, hh, q⟩ := q.ofO
    exact hr x H1 Q P dx d (E.ext e1).tk r1 hh fun v H' x => q v H' (e1.trans x)⟩
theorem unaN {r : List V → Hp → VK → Prop} {h : Dt → Option (List Dt)} (hr : UnN X r h) {σ : St} {H : Hp} {Q : VK} (q : tN X W (unN h f) σ H Q) : tCB r (tCons (tB X W f) tNil) σ H Q := by
  obtain ⟨P, ε, E, q⟩ := q
  exact ⟨P, ε, E, q.bind.mono fun dx q x H1 e1 r1 => by
    obtain ⟨d, hh, q⟩ := q.ofO
    exact hr x H1 Q P dx d (E.ext e1).tk r1 hh fun p vs H' x fr => q p vs H' (e1.trans x) (e1.fresh fr)⟩
theorem bia {r : List V → Hp → VK → Prop} {h : O2} (hr : BiD X r h) {σ : St} {H : Hp} {Q : VK} (q : tD X W (bin h f g) σ H Q) : tCB r (tCons (tB X W f) (tCons (tB X W g) tNil)) σ H Q := by
  obtain ⟨P, ε, E, q⟩ := q
  refine two_of (T := fun _ P H d => ∀ v H', Ext H H' → Rep X.K X.mg H' P d v → Q v H') E q fun x y H1 dx dy E1 e r1 r2 q => ?_
  obtain ⟨d, hh, q⟩ := q.ofO
  exact hr x y H1 Q P dx dy d E1.tk r1 r2 hh fun v H' x => q v H' (e.trans x)
section
variable {x : Str} {id T : String} {r : List V → Hp → VK → Prop}
theorem pd_b1 {h : Dt → Option Dt} (hc : CallR X (.builtin id) r) (hr : UnD X r h) (hv : bootBuiltins x = some (.builtin id)) (hn : x ≠ "__name__") (hdb : (x == ("__debug__" : Str)) = false) (hm : X.mg x = none) (ha : PB X W e f) (hg : Gl X x)
    (he : starEach [e] X.env = [(false, eval e X.env)]) : PD X W (.Call (.Name x p) [e] [] pos) (un h f) := pe_weak (pe_callB hc hg hm hv (pa_cons ha pa_nil he) hn hdb he rfl) fun _ _ _ q => una hr q
theorem pd_t1 {h : Dt → Option Dt} (hc : CallR X (.type T) r) (hr : UnD X r h) (hv : bootBuiltins x = some (.type T)) (hn : x ≠ "__name__") (hdb : (x == ("__debug__" : Str)) = false) (hm : X.mg x = none) (ha : PB X W e f) (hg : Gl X x)
    (he : starEach [e] X.env = [(false, eval e X.env)]) : PD X W (.Call (.Name x p) [e] [] pos) (un h f) := pe_weak (pe_callTy hc hg hm hv (pa_cons ha pa_nil he) hn hdb he rfl) fun _ _ _ q => una hr q
theorem pn_b1 {h : Dt → Option (List Dt)} (hc : CallR X (.builtin id) r) (hr : UnN X r h) (hv : bootBuiltins x = some (.builtin id)) (hn : x ≠ "__name__") (hdb : (x == ("__debug__" : Str)) = false) (hm : X.mg x = none) (ha : PB X W e f) (hg : Gl X x)
    (he : starEach [e] X.env = [(false, eval e X.env)]) : PN X W (.Call (.Name x p) [e] [] pos) (unN h f) := pe_weak (pe_callB hc hg hm hv (pa_cons ha pa_nil he) hn hdb he rfl) fun _ _ _ q => unaN hr q
theorem pn_t1 {h : Dt → Option (List Dt)} (hc : CallR X (.type T) r) (hr : UnN X r h) (hv : bootBuiltins x = some (.type T)) (hn : x ≠ "__name__") (hdb : (x == ("__debug__" : Str)) = false) (hm : X.mg x = none) (ha : PB X W e f) (hg : Gl X x)
    (he : starEach [e] X.env = [(false, eval e X.env)]) : PN X W (.Call (.Name x p) [e] [] pos) (unN h f) := pe_weak (pe_callTy hc hg hm hv (pa_cons ha pa_nil he) hn hdb he rfl) fun _ _ _ q => unaN hr q
theorem pd_b2 {h : O2} (hc : CallR X (.builtin id) r) (hr : BiD X r h) (hv : bootBuiltins x = some (.builtin id)) (hn : x ≠ "__name__") (hdb : (x == ("__debug__" : Str)) = false) (hm : X.mg x = none) (ha : PB X W e f) (hb : PB X W b g) (hg : Gl X x)
    (he : starEach [e, b] X.env = (false, eval e X.env) :: starEach [b] X.env) (he2 : starEach [b] X.env = [(false, eval b X.env)]) (hpl : (backTo pos (starEach [b] X.env)).any (·.1) = false) :
    PD X W (.Call (.Name x p) [e, b] [] pos) (bin h f g) := pe_weak (pe_callB hc hg hm hv (pa_cons ha (pa_cons hb pa_nil he2) he) hn hdb he hpl) fun _ _ _ q => bia hr q
end
/-! the data's parts -/
def asI : List Dt → Option (List Int)
  | [] => some []
  | .int i :: r => (asI r).map fun xs => i :: xs
  | _ => none
def asB : List Dt → Option (List Bool)
  | [] => some []
  | .bl i :: r => (asB r).map fun xs => i :: xs
  | _ => none
theorem ints_some : ∀ {ds : List Dt} {ns : List Int}, asI ds = some ns → ds = ns.map .int
  | [], ns, h => by cases h; rfl
  | .int i :: r, ns, h => by
    rw [asI] at h
    cases q : asI r with
    | none => rw [q] at h; cases h
    | some xs => rw [q] at h; cases h; rw [ints_some q]; rfl
  | .non :: _, _, h | .bl _ :: _, _, h | .str _ :: _, _, h | .tup _ :: _, _, h | .lst _ :: _, _, h | .frl _ :: _, _, h | .ins _ _ _ :: _, _, h | .fn _ _ _ _ _ :: _, _, h | .exn _ _ :: _, _, h => by simp [asI] at h
theorem boos_some : ∀ {ds : List Dt} {ns : List Bool}, asB ds = some ns → ds = ns.map .bl
  | [], ns, h => by cases h; rfl
  | .bl i :: r, ns, h => by
    rw [asB] at h
    cases q : asB r with
    | none => rw [q] at h; cases h
    | some xs => rw [q] at h; cases h; rw [boos_some q]; rfl
  | .non :: _, _, h | .int _ :: _, _, h | .str _ :: _, _, h | .tup _ :: _, _, h | .lst _ :: _, _, h | .frl _ :: _, _, h | .ins _ _ _ :: _, _, h | .fn _ _ _ _ _ :: _, _, h | .exn _ _ :: _, _, h => by simp [asB] at h
theorem ints_map (ns : List Int) : asI (ns.map .int) = some ns := by
  induction ns with
  | nil => rfl
  | cons n ns ih => rw [List.map_cons, asI, ih]; rfl
theorem boos_map (ns : List Bool) : asB (ns.map .bl) = some ns := by
  induction ns with
  | nil => rfl
  | cons n ns ih => rw [List.map_cons, asB, ih]; rfl
/-- the items of a list -/
def Dt.items : Dt → Option (List Dt)
  | .lst xs => some xs
  | .frl xs => some xs
  | _ => none
theorem items_rep {H : Hp} {P : Pv} {d : Dt} {v : V} {ds : List Dt} (h : RepB X.K X.mg H P d v) (e : d.items = some ds) : ∃ a vs, v = .ref a ∧ SqL X.K H a vs ∧ Reps X.K X.mg H P ds vs := by
  cases d with
  | lst xs => cases e; obtain ⟨a, vs, q, h1, h2⟩ := h; exact ⟨a, vs, q, .of h1, h2⟩
  | frl xs => cases e; obtain ⟨a, vs, q, h1, h2⟩ := h; exact ⟨a, vs, q, h1.sq, h2⟩
  | _ => cases e
def lenD : Dt → Option Dt
  | .lst xs => some (.int xs.length)
  | .frl xs => some (.int xs.length)
  | .tup xs => some (.int xs.length)
  | .str z => if z.length ≤ sizeLine then some (.int z.length) else none
  | _ => none
theorem len_ok : UnD X (fun xs H Q => ∃ x n, xs = [x] ∧ LenV X.K x H n ∧ Q (.int n) H) lenD := fun x H Q P dx d _ r1 e q => by
  unfold lenD at e
  split at e
  · cases e
    obtain ⟨a, vs, rfl, h1, h2⟩ := r1
    exact ⟨_, vs.length, rfl, .inl ⟨vs, .of h1, rfl⟩, q _ H Ext.refl (by rw [h2.length]; rfl)⟩
  · cases e
    obtain ⟨a, vs, rfl, h1, h2⟩ := r1
    exact ⟨_, vs.length, rfl, .inl ⟨vs, h1.sq, rfl⟩, q _ H Ext.refl (by rw [h2.length]; rfl)⟩
  · cases e
    obtain ⟨a, vs, rfl, h1, h2⟩ := r1
    exact ⟨_, vs.length, rfl, .inr ⟨vs, h1, rfl⟩, q _ H Ext.refl (by rw [h2.length]; rfl)⟩
  · split at e
    · rename_i z hz
      cases e
      have e1 : x = V.str z := r1
      subst e1
      exact ⟨_, z.length, rfl, ⟨hz, rfl⟩, q _ H Ext.refl rfl⟩
    · cases e
  · cases e
theorem dLen (hm : X.mg "len" = none) (ha : PB X W e f) (hg : Gl X "len" := by rfl) (he : starEach [e] X.env = [(false, eval e X.env)] := by rfl) : PD X W (.Call (.Name "len" p) [e] [] pos) (un lenD f) :=
  pd_b1 call_len len_ok PySem.boot_len (by decide) (by decide) hm ha hg he
def absD : Dt → Option Dt
  | .int i => some (.int (if i < 0 then -i else i))
  | _ => none
theorem abs_ok : UnD X (fun xs H Q => ∃ i, xs = [.int i] ∧ Q (.int (if i < 0 then -i else i)) H) absD := fun x H Q P dx d _ r1 e q => by
  unfold absD at e
  split at e
  · cases e
    have e1 : x = V.int _ := r1
    exact ⟨_, by rw [e1], q _ H Ext.refl rfl⟩
  · cases e
theorem dAbs (hm : X.mg "abs" = none) (ha : PB X W e f) (hg : Gl X "abs" := by rfl) (he : starEach [e] X.env = [(false, eval e X.env)] := by rfl) : PD X W (.Call (.Name "abs" p) [e] [] pos) (un absD f) :=
  pd_b1 call_abs abs_ok (by decide +kernel) (by decide) (by decide) hm ha hg he
def intD : Dt → Option Dt
  | .int i => some (.int i)
  | .bl k => some (.int (if k then 1 else 0))
  | _ => none
theorem int_ok : UnD X (fun xs H Q => (∃ i, xs = [.int i] ∧ Q (.int i) H) ∨ ∃ k, xs = [.bl k] ∧ Q (.int (if k then 1 else 0)) H) intD := fun x H Q P dx d _ r1 e q => by
  unfold intD at e
  split at e
  · cases e
    have e1 : x = V.int _ := r1
    exact .inl ⟨_, by rw [e1], q _ H Ext.refl rfl⟩
  · cases e
    have e1 : x = V.bl _ := r1
    exact .inr ⟨_, by rw [e1], q _ H Ext.refl rfl⟩
  · cases e
theorem dInt (hm : X.mg "int" = none) (ha : PB X W e f) (hg : Gl X "int" := by rfl) (he : starEach [e] X.env = [(false, eval e X.env)] := by rfl) : PD X W (.Call (.Name "int" p) [e] [] pos) (un intD f) :=
  pd_t1 call_int1 int_ok (by decide +kernel) (by decide) (by decide) hm ha hg he
def strD : Dt → Option Dt
  | .int i => if i.natAbs.log2 < 1920 then some (.str (toString i)) else none
  | _ => none
theorem str_ok : UnD X (fun xs H Q => ∃ i, xs = [.int i] ∧ i.natAbs.log2 < 1920 ∧ Q (.str (toString i)) H) strD := fun x H Q P dx d _ r1 e q => by
  unfold strD at e
  split at e
  · split at e
    · cases e
      have e1 : x = V.int _ := r1
      exact ⟨_, by rw [e1], by assumption, q _ H Ext.refl rfl⟩
    · cases e
  · cases e
theorem dStr (hm : X.mg "str" = none) (ha : PB X W e f) (hg : Gl X "str" := by rfl) (he : starEach [e] X.env = [(false, eval e X.env)] := by rfl) : PD X W (.Call (.Name "str" p) [e] [] pos) (un strD f) :=
  pd_t1 call_str_int str_ok (by decide +kernel) (by decide) (by decide) hm ha hg he
/-! sums and the like -/
def minL : List Int → Int
  | [] => 0
  | x :: r => r.foldl (fun a b => if b < a then b else a) x
def maxL : List Int → Int
  | [] => 0
  | x :: r => r.foldl (fun a b => if a < b then b else a) x
theorem minF : ∀ (r : List Int) (x : Int), (r.foldl (fun a b => if b < a then b else a) x = x ∨ r.foldl (fun a b => if b < a then b else a) x ∈ r) ∧ r.foldl (fun a b => if b < a then b else a) x ≤ x ∧ ∀ y ∈ r, r.foldl (fun a b => if b < a then b else a) x ≤ y
  | [], x => ⟨.inl rfl, Int.le_refl _, by simp⟩
  | y :: r, x => by
    obtain ⟨h1, h2, h3⟩ := minF r (if y < x then y else x)
    have hz : (if y < x then y else x) ≤ x ∧ (if y < x then y else x) ≤ y := by split <;> omega
    rw [List.foldl_cons]
    refine ⟨?_, Int.le_trans h2 hz.1, ?_⟩
    · rcases h1 with h1 | h1
      · rw [h1]
        by_cases z : y < x
        · rw [if_pos z]; exact .inr List.mem_cons_self
        · rw [if_neg z]; exact .inl rfl
      · exact .inr (List.mem_cons_of_mem _ h1)
    · intro w hw
      rcases List.mem_cons.mp hw with rfl | hw
      · exact Int.le_trans h2 hz.2
      · exact h3 w hw
theorem maxF : ∀ (r : List Int) (x : Int), (r.foldl (fun a b => if a < b then b else a) x = x ∨ r.foldl (fun a b => if a < b then b else a) x ∈ r) ∧ x ≤ r.foldl (fun a b => if a < b then b else a) x ∧ ∀ y ∈ r, y ≤ r.foldl (fun a b => if a < b then b else a) x
  | [], x => ⟨.inl rfl, Int.le_refl _, by simp⟩
  | y :: r, x => by
    obtain ⟨h1, h2, h3⟩ := maxF r (if x < y then y else x)
    have hz : x ≤ (if x < y then y else x) ∧ y ≤ (if x < y then y else x) := by split <;> omega
    rw [List.foldl_cons]
    refine ⟨?_, Int.le_trans hz.1 h2, ?_⟩
    · rcases h1 with h1 | h1
      · rw [h1]
        by_cases z : x < y
        · rw [if_pos z]; exact .inr List.mem_cons_self
        · rw [if_neg z]; exact .inl rfl
      · exact .inr (List.mem_cons_of_mem _ h1)
    · intro w hw
      rcases List.mem_cons.mp hw with rfl | hw
      · exact Int.le_trans hz.2 h2
      · exact h3 w hw
theorem minL_mem {ns : List Int} (h : ns ≠ []) : minL ns ∈ ns ∧ ∀ y ∈ ns, minL ns ≤ y := by
  cases ns with
  | nil => exact absurd rfl h
  | cons x r =>
    obtain ⟨h1, h2, h3⟩ := minF r x
    refine ⟨?_, fun y hy => ?_⟩
    · rcases h1 with h1 | h1
      · rw [show minL (x :: r) = x from h1]; exact List.mem_cons_self
      · exact List.mem_cons_of_mem _ h1
    · rcases List.mem_cons.mp hy with rfl | hy
      · exact h2
      · exact h3 y hy
theorem maxL_mem {ns : List Int} (h : ns ≠ []) : maxL ns ∈ ns ∧ ∀ y ∈ ns, y ≤ maxL ns := by
  cases ns with
  | nil => exact absurd rfl h
  | cons x r =>
    obtain ⟨h1, h2, h3⟩ := maxF r x
    refine ⟨?_, fun y hy => ?_⟩
    · rcases h1 with h1 | h1
      · rw [show maxL (x :: r) = x from h1]; exact List.mem_cons_self
      · exact List.mem_cons_of_mem _ h1
    · rcases List.mem_cons.mp hy with rfl | hy
      · exact h2
      · exact h3 y hy
theorem minL_of {ns : List Int} {m : Int} (h : m ∈ ns) (k : ∀ y ∈ ns, m ≤ y) : minL ns = m := by
  have hn : ns ≠ [] := fun z => by rw [z] at h; cases h
  obtain ⟨h1, h2⟩ := minL_mem hn
  have := h2 m h
  have := k _ h1
  omega
theorem maxL_of {ns : List Int} {m : Int} (h : m ∈ ns) (k : ∀ y ∈ ns, y ≤ m) : maxL ns = m := by
  have hn : ns ≠ [] := fun z => by rw [z] at h; cases h
  obtain ⟨h1, h2⟩ := maxL_mem hn
  have := h2 m h
  have := k _ h1
  omega
def overI (k : List Int → Option Dt) : Dt → Option Dt := fun x => x.items.bind fun ds => (asI ds).bind k
def overB (k : List Bool → Option Dt) : Dt → Option Dt := fun x => x.items.bind fun ds => (asB ds).bind k
theorem overI_some {k : List Int → Option Dt} {x d : Dt} (h : overI k x = some d) : ∃ ns, x.items = some (ns.map .int) ∧ k ns = some d := by
  unfold overI at h
  cases e : x.items with
  | none => rw [e] at h; cases h
  | some ds =>
    rw [e] at h
    cases e2 : asI ds with
    | none => rw [Option.bind_some, e2] at h; cases h
    | some ns => rw [Option.bind_some, e2] at h; exact ⟨ns, by rw [ints_some e2], h⟩
theorem overB_some {k : List Bool → Option Dt} {x d : Dt} (h : overB k x = some d) : ∃ ns, x.items = some (ns.map .bl) ∧ k ns = some d := by
  unfold overB at h
  cases e : x.items with
  | none => rw [e] at h; cases h
  | some ds =>
    rw [e] at h
    cases e2 : asB ds with
    | none => rw [Option.bind_some, e2] at h; cases h
    | some ns => rw [Option.bind_some, e2] at h; exact ⟨ns, by rw [boos_some e2], h⟩
def sumD : Dt → Option Dt := overI fun ns => some (.int ns.sum)
def minD : Dt → Option Dt := overI fun ns => if ns = [] then none else some (.int (minL ns))
def maxD : Dt → Option Dt := overI fun ns => if ns = [] then none else some (.int (maxL ns))
def allD : Dt → Option Dt := overB fun bs => some (.bl (bs.all id))
def anyD : Dt → Option Dt := overB fun bs => some (.bl (bs.any id))
theorem sum_ok : UnD X (rSum X.K) sumD := fun x H Q P dx d _ r1 e q => by
  obtain ⟨ns, h1, h2⟩ := overI_some e
  cases h2
  obtain ⟨a, vs, rfl, h3, h4⟩ := items_rep r1 h1
  exact ⟨a, ns, rfl, by rw [← h4.ints]; exact h3, q _ H Ext.refl rfl⟩
theorem min_ok : UnD X (rMin X.K) minD := fun x H Q P dx d _ r1 e q => by
  obtain ⟨ns, h1, h2⟩ := overI_some e
  split at h2
  · cases h2
  · rename_i hn
    cases h2
    obtain ⟨a, vs, rfl, h3, h4⟩ := items_rep r1 h1
    exact ⟨a, ns, rfl, by rw [← h4.ints]; exact h3, List.length_pos_iff.mpr hn, fun m hm hk => q _ H Ext.refl (by rw [minL_of hm hk]; rfl)⟩
theorem max_ok : UnD X (rMax X.K) maxD := fun x H Q P dx d _ r1 e q => by
  obtain ⟨ns, h1, h2⟩ := overI_some e
  split at h2
  · cases h2
  · rename_i hn
    cases h2
    obtain ⟨a, vs, rfl, h3, h4⟩ := items_rep r1 h1
    exact ⟨a, ns, rfl, by rw [← h4.ints]; exact h3, List.length_pos_iff.mpr hn, fun m hm hk => q _ H Ext.refl (by rw [maxL_of hm hk]; rfl)⟩
theorem all_ok : UnD X (rAll X.K) allD := fun x H Q P dx d _ r1 e q => by
  obtain ⟨ns, h1, h2⟩ := overB_some e
  cases h2
  obtain ⟨a, vs, rfl, h3, h4⟩ := items_rep r1 h1
  exact ⟨a, ns, rfl, by rw [← h4.bls]; exact h3, q _ H Ext.refl rfl⟩
theorem any_ok : UnD X (rAny X.K) anyD := fun x H Q P dx d _ r1 e q => by
  obtain ⟨ns, h1, h2⟩ := overB_some e
  cases h2
  obtain ⟨a, vs, rfl, h3, h4⟩ := items_rep r1 h1
  exact ⟨a, ns, rfl, by rw [← h4.bls]; exact h3, q _ H Ext.refl rfl⟩
theorem dSum (hm : X.mg "sum" = none) (ha : PB X W e f) (hc : X.calm = true := by rfl) (hg : Gl X "sum" := by rfl) (he : starEach [e] X.env = [(false, eval e X.env)] := by rfl) : PD X W (.Call (.Name "sum" p) [e] [] pos) (un sumD f) :=
  pd_b1 (cr_sum hc) sum_ok (by decide +kernel) (by decide) (by decide) hm ha hg he
theorem dMin (hm : X.mg "min" = none) (ha : PB X W e f) (hc : X.calm = true := by rfl) (hg : Gl X "min" := by rfl) (he : starEach [e] X.env = [(false, eval e X.env)] := by rfl) : PD X W (.Call (.Name "min" p) [e] [] pos) (un minD f) :=
  pd_b1 (cr_min hc) min_ok (by decide +kernel) (by decide) (by decide) hm ha hg he
theorem dMax (hm : X.mg "max" = none) (ha : PB X W e f) (hc : X.calm = true := by rfl) (hg : Gl X "max" := by rfl) (he : starEach [e] X.env = [(false, eval e X.env)] := by rfl) : PD X W (.Call (.Name "max" p) [e] [] pos) (un maxD f) :=
  pd_b1 (cr_max hc) max_ok (by decide +kernel) (by decide) (by decide) hm ha hg he
theorem dAll (hm : X.mg "all" = none) (ha : PB X W e f) (hc : X.calm = true := by rfl) (hg : Gl X "all" := by rfl) (he : starEach [e] X.env = [(false, eval e X.env)] := by rfl) : PD X W (.Call (.Name "all" p) [e] [] pos) (un allD f) :=
  pd_b1 (cr_all hc) all_ok (by decide +kernel) (by decide) (by decide) hm ha hg he
theorem dAny (hm : X.mg "any" = none) (ha : PB X W e f) (hc : X.calm = true := by rfl) (hg : Gl X "any" := by rfl) (he : starEach [e] X.env = [(false, eval e X.env)] := by rfl) : PD X W (.Call (.Name "any" p) [e] [] pos) (un anyD f) :=
  pd_b1 (cr_any hc) any_ok (by decide +kernel) (by decide) (by decide) hm ha hg he
def max2D : O2
  | .int i, .int j => some (.int (if j > i then j else i))
  | _, _ => none
def min2D : O2
  | .int i, .int j => some (.int (if j < i then j else i))
  | _, _ => none
theorem max2_ok : BiD X (fun xs H Q => ∃ i j, xs = [.int i, .int j] ∧ Q (.int (if j > i then j else i)) H) max2D := fun x y H Q P dx dy d _ r1 r2 e q => by
  unfold max2D at e
  split at e
  · cases e
    have e1 : x = V.int _ := r1
    have e2 : y = V.int _ := r2
    exact ⟨_, _, by rw [e1, e2], q _ H Ext.refl rfl⟩
  · cases e
theorem min2_ok : BiD X (fun xs H Q => ∃ i j, xs = [.int i, .int j] ∧ Q (.int (if j < i then j else i)) H) min2D := fun x y H Q P dx dy d _ r1 r2 e q => by
  unfold min2D at e
  split at e
  · cases e
    have e1 : x = V.int _ := r1
    have e2 : y = V.int _ := r2
    exact ⟨_, _, by rw [e1, e2], q _ H Ext.refl rfl⟩
  · cases e
theorem dMax2 (hm : X.mg "max" = none) (ha : PB X W e f) (hb : PB X W b g) (hc : X.calm = true := by rfl) (hg : Gl X "max" := by rfl) (he : starEach [e, b] X.env = (false, eval e X.env) :: starEach [b] X.env := by rfl) (he2 : starEach [b] X.env = [(false, eval b X.env)] := by rfl)
    (hpl : (backTo pos (starEach [b] X.env)).any (·.1) = false := by rfl) : PD X W (.Call (.Name "max" p) [e, b] [] pos) (bin max2D f g) := pd_b2 (call_max2 hc) max2_ok (by decide +kernel) (by decide) (by decide) hm ha hb hg he he2 hpl
theorem dMin2 (hm : X.mg "min" = none) (ha : PB X W e f) (hb : PB X W b g) (hc : X.calm = true := by rfl) (hg : Gl X "min" := by rfl) (he : starEach [e, b] X.env = (false, eval e X.env) :: starEach [b] X.env := by rfl) (he2 : starEach [b] X.env = [(false, eval b X.env)] := by rfl)
    (hpl : (backTo pos (starEach [b] X.env)).any (·.1) = false := by rfl) : PD X W (.Call (.Name "min" p) [e, b] [] pos) (bin min2D f g) := pd_b2 (call_min2 hc) min2_ok (by decide +kernel) (by decide) (by decide) hm ha hb hg he he2 hpl
/-! lists and tuples made of lists and tuples -/
def tupD : Dt → Option Dt
  | .lst xs => some (.tup xs)
  | .tup xs => some (.tup xs)
  | _ => none
theorem tuple_ok : UnD X (fun xs H Q => ∃ p ys, xs = [.ref p] ∧ ((SqL X.K H p ys ∧ ∀ l, H l = none → Q (.ref l) (upd H l (.tup ys))) ∨ (SqT X.K H p ys ∧ Q (.ref p) H))) tupD := fun x H Q P dx d tk r1 e q => by
  unfold tupD at e
  split at e
  · cases e
    obtain ⟨a, vs, rfl, h1, h2⟩ := r1
    exact ⟨a, vs, rfl, .inl ⟨.of h1, fun l hl => q _ _ (Ext.new hl) ⟨l, vs, rfl, .of upd_same, h2.ext (Ext.new hl)⟩⟩⟩
  · cases e
    obtain ⟨a, vs, rfl, h1, h2⟩ := r1
    exact ⟨a, vs, rfl, .inr ⟨h1, q _ H Ext.refl ⟨a, vs, rfl, h1, h2⟩⟩⟩
  · cases e
theorem dTuple (hm : X.mg "tuple" = none) (ha : PB X W e f) (hg : Gl X "tuple" := by rfl) (he : starEach [e] X.env = [(false, eval e X.env)] := by rfl) : PD X W (.Call (.Name "tuple" p) [e] [] pos) (un tupD f) :=
  pd_t1 call_tuple_of tuple_ok (by decide +kernel) (by decide) (by decide) hm ha hg he
def listD : Dt → Option (List Dt)
  | .lst xs => some xs
  | .frl xs => some xs
  | .tup xs => some xs
  | _ => none
theorem list_ok : UnN X (fun xs H Q => ∃ p ys, xs = [.ref p] ∧ (SqL X.K H p ys ∨ SqT X.K H p ys) ∧ ∀ l, H l = none → Q (.ref l) (upd H l (.lst ys))) listD := fun x H Q P dx d tk r1 e q => by
  have fin : ∀ {vs : List V}, Reps X.K X.mg H P d vs → ∀ l, H l = none → Q (.ref l) (upd H l (.lst vs)) := fun h2 l hl => q l _ _ (Ext.new hl) (.of hl) upd_same ((Reps.tr (Tr.more (.of hl)) _ _ h2).ext (Ext.new hl))
  unfold listD at e
  split at e
  · cases e
    obtain ⟨a, vs, rfl, h1, h2⟩ := r1
    exact ⟨a, vs, rfl, .inl (.of h1), fin h2⟩
  · cases e
    obtain ⟨a, vs, rfl, h1, h2⟩ := r1
    exact ⟨a, vs, rfl, .inl h1.sq, fin h2⟩
  · cases e
    obtain ⟨a, vs, rfl, h1, h2⟩ := r1
    exact ⟨a, vs, rfl, .inr h1, fin h2⟩
  · cases e
theorem nList (hm : X.mg "list" = none) (ha : PB X W e f) (hg : Gl X "list" := by rfl) (he : starEach [e] X.env = [(false, eval e X.env)] := by rfl) : PN X W (.Call (.Name "list" p) [e] [] pos) (unN listD f) :=
  pn_t1 call_list_of list_ok (by decide +kernel) (by decide) (by decide) hm ha hg he
end DL
end
section
set_option Elab.async false
set_option linter.all false
set_option maxRecDepth 100000
set_option autoImplicit false
namespace DL
open PySem PySem.Spec PyProof.Rows L2
variable [TbC]
variable {X : Cx} {W : WX} {e a b c : Expr} {es rest : List Expr} {f g h : Fn} {pos p : Pos}

/-! ### what is walked -/
/-- J yields the items ds, as long as the heap is kept as Kp says -/
structure ItOk (K : PySem.W.Frag) (mg : Mg) (Kp : Hp → Hp → Prop) (P : Pv) (J : It) (ds : List Dt) (H : Hp) : Prop where
  go : ∀ (i : Nat) (H2 : Hp) (d : Dt), Kp H H2 → ds[i]? = some d → J.go i H2 ∧ ∀ x H3, J.yld i H2 x H3 → H3 = H2 ∧ Rep K mg H P d x
  stop : ∀ (i : Nat) (H2 : Hp), Kp H H2 → ds.length ≤ i → J.stop i H2
abbrev KE : Pv → Hp → Hp → Prop := fun _ => Ext
abbrev KS : Pv → Hp → Hp → Prop := fun P => Tr P P
def tI (X : Cx) (W : WX) (Kp : Pv → Hp → Hp → Prop) (f : Fs) : TI := fun σ H R => ∃ P ε, EOk X.K X.mg P σ H ε ∧ Out X W σ H (f ε) fun ds => ∀ J H', Ext H H' → ItOk X.K X.mg (Kp P) P J ds H' → R J H'
def ID (X : Cx) (W : WX) (tg iter : Expr) (f : Fs) : Prop := PI X tg iter (tI X W KE f)
def IS (X : Cx) (W : WX) (tg iter : Expr) (f : Fs) : Prop := PI X tg iter (tI X W KS f)
theorem pi_weak {tg iter : Expr} {t t' : TI} (h : PI X tg iter t) (k : ∀ σ H R, t' σ H R → t σ H R) : PI X tg iter t' := ⟨fun pins s σ H R I q => h.run pins s σ H R I (k σ H R q)⟩
theorem pi_or {tg iter : Expr} {t t' : TI} (h : PI X tg iter t) (h' : PI X tg iter t') : PI X tg iter (fun σ H R => t σ H R ∨ t' σ H R) := ⟨fun pins s σ H R I q => q.elim (h.run pins s σ H R I) (h'.run pins s σ H R I)⟩
theorem it_list {Kp : Hp → Hp → Prop} {P : Pv} {H : Hp} {a : Addr} {ds : List Dt} {vs : List V} (hk : ∀ H2, Kp H H2 → SqL X.K H2 a vs) (huniq : ∀ H2, Kp H H2 → ∀ xs, SqL X.K H2 a xs → True) (r : Reps X.K X.mg H P ds vs) : ItOk X.K X.mg Kp P (Itl X.K a) ds H := by
  refine ⟨fun i H2 d k hd => ?_, fun i H2 k hi => ⟨vs, hk H2 k, by rw [← r.length]; exact hi⟩⟩
  obtain ⟨v, h1, h2⟩ := r.get hd
  refine ⟨⟨vs, v, hk H2 k, h1⟩, fun x H3 y => ⟨y.1, ?_⟩⟩
  have z := y.2 vs (hk H2 k)
  rw [h1] at z
  cases z
  exact h2
theorem it_tup {Kp : Hp → Hp → Prop} {P : Pv} {H : Hp} {a : Addr} {ds : List Dt} {vs : List V} (hk : ∀ H2, Kp H H2 → SqT X.K H2 a vs) (r : Reps X.K X.mg H P ds vs) : ItOk X.K X.mg Kp P (Itt X.K a) ds H := by
  refine ⟨fun i H2 d k hd => ?_, fun i H2 k hi => ⟨vs, hk H2 k, by rw [← r.length]; exact hi⟩⟩
  obtain ⟨v, h1, h2⟩ := r.get hd
  refine ⟨⟨vs, v, hk H2 k, h1⟩, fun x H3 y => ⟨y.1, ?_⟩⟩
  have z := y.2 vs (hk H2 k)
  rw [h1] at z
  cases z
  exact h2
def signs (z : Str) : List Dt := z.cps.toList.map fun c => .str ⟨#[c]⟩
theorem it_str {Kp : Hp → Hp → Prop} {P : Pv} {H : Hp} {z : Str} : ItOk X.K X.mg Kp P (Its z) (signs z) H := by
  refine ⟨fun i H2 d k hd => ?_, fun i H2 k hi => ?_⟩
  · unfold signs at hd
    rw [List.getElem?_map] at hd
    cases q : z.cps.toList[i]? with
    | none => rw [q] at hd; cases hd
    | some c =>
      rw [q] at hd
      cases hd
      have hi : i < z.cps.toList.length := (List.getElem?_eq_some_iff.mp q).1
      refine ⟨show i < z.cps.size by simpa using hi, fun x H3 y => ⟨y.1, ?_⟩⟩
      obtain ⟨c', h1, h2⟩ := y.2
      rw [Array.getElem?_toList] at q
      rw [q] at h1
      cases h1
      exact h2
  · unfold signs at hi
    have : z.cps.size ≤ i := by simpa using hi
    exact this
def walked : Dt → Option (List Dt)
  | .lst xs => some xs
  | .frl xs => some xs
  | .tup xs => some xs
  | .str z => some (signs z)
  | _ => none
def iterF (f : Fn) : Fs := fun ε => (f ε).bind fun x => .ofO (walked x)
theorem itB {tg : Expr} (ha : PB X W e f) : ID X W tg e (iterF f) := pi_weak (pi_or (pi_list ha) (pi_or (pi_tup ha) (pi_str ha))) fun σ H R ⟨P, ε, E, q⟩ => by
  have q := q.bind
  cases hf : f ε with
  | bad => rw [hf] at q; exact q.elim
  | ex c =>
    rw [hf] at q
    exact .inl ⟨P, ε, E, by rw [hf]; exact q⟩
  | ok x =>
    rw [hf] at q
    obtain ⟨ds, h1, q⟩ := Out.ofO (show Out X W σ H (.ofO (walked x)) _ from q)
    cases x with
    | lst xs =>
      cases h1
      refine .inl ⟨P, ε, E, ?_⟩
      rw [hf]
      intro v H1 e1 r1
      obtain ⟨a, vs, rfl, h2, h3⟩ := r1
      exact ⟨a, rfl, ⟨vs, .of h2⟩, q _ H1 e1 (it_list (fun H2 k => .of (k.at_ h2 nt_lst)) (fun _ _ _ _ => trivial) h3)⟩
    | frl xs =>
      cases h1
      refine .inl ⟨P, ε, E, ?_⟩
      rw [hf]
      intro v H1 e1 r1
      obtain ⟨a, vs, rfl, h2, h3⟩ := r1
      exact ⟨a, rfl, ⟨vs, h2.sq⟩, q _ H1 e1 (it_list (fun H2 k => k.sqL h2.sq) (fun _ _ _ _ => trivial) h3)⟩
    | tup xs =>
      cases h1
      refine .inr (.inl ⟨P, ε, E, ?_⟩)
      rw [hf]
      intro v H1 e1 r1
      obtain ⟨a, vs, rfl, h2, h3⟩ := r1
      exact ⟨a, rfl, ⟨vs, h2⟩, q _ H1 e1 (it_tup (fun H2 k => k.sqT h2) h3)⟩
    | str z =>
      cases h1
      refine .inr (.inr ⟨P, ε, E, ?_⟩)
      rw [hf]
      intro v H1 e1 r1
      exact ⟨z, r1, q _ H1 e1 it_str⟩
    | non => cases h1
    | bl _ => cases h1
    | int _ => cases h1
    | ins _ _ _ => cases h1
    | fn _ _ _ _ _ => cases h1
    | exn _ _ => cases h1
theorem itS {tg : Expr} (ha : PD X W e f) : IS X W tg e (iterF f) := pi_weak (pi_or (pi_list ha) (pi_or (pi_tup ha) (pi_str ha))) fun σ H R ⟨P, ε, E, q⟩ => by
  have q := q.bind
  cases hf : f ε with
  | bad => rw [hf] at q; exact q.elim
  | ex c =>
    rw [hf] at q
    exact .inl ⟨P, ε, E, by rw [hf]; exact q⟩
  | ok x =>
    rw [hf] at q
    obtain ⟨ds, h1, q⟩ := Out.ofO (show Out X W σ H (.ofO (walked x)) _ from q)
    cases x with
    | lst xs =>
      cases h1
      refine .inl ⟨P, ε, E, ?_⟩
      rw [hf]
      intro v H1 e1 r1
      obtain ⟨a, vs, rfl, h2, n, h3⟩ := r1
      exact ⟨a, rfl, ⟨vs, .of h2⟩, q _ H1 e1 (it_list (fun H2 k => .of (k.keep _ _ h2 nt_lst n)) (fun _ _ _ _ => trivial) h3)⟩
    | frl xs =>
      cases h1
      refine .inl ⟨P, ε, E, ?_⟩
      rw [hf]
      intro v H1 e1 r1
      obtain ⟨a, vs, rfl, h2, h3⟩ := r1
      exact ⟨a, rfl, ⟨vs, h2.sq⟩, q _ H1 e1 (it_list (fun H2 k => (k.sqF h2).sq) (fun _ _ _ _ => trivial) h3)⟩
    | tup xs =>
      cases h1
      refine .inr (.inl ⟨P, ε, E, ?_⟩)
      rw [hf]
      intro v H1 e1 r1
      obtain ⟨a, vs, rfl, h2, h3⟩ := r1
      exact ⟨a, rfl, ⟨vs, h2⟩, q _ H1 e1 (it_tup (fun H2 k => k.sqT h2) h3)⟩
    | str z =>
      cases h1
      refine .inr (.inr ⟨P, ε, E, ?_⟩)
      rw [hf]
      intro v H1 e1 r1
      exact ⟨z, r1, q _ H1 e1 it_str⟩
    | non => cases h1
    | bl _ => cases h1
    | int _ => cases h1
    | ins _ _ _ => cases h1
    | fn _ _ _ _ _ => cases h1
    | exn _ _ => cases h1
/-- range(n) -/
def upTo (lo : Int) (n : Nat) : List Dt := (List.range n).map fun (i : Nat) => Dt.int (lo + i)
theorem it_rng {Kp : Hp → Hp → Prop} {P : Pv} {H : Hp} {lo : Int} {n : Nat} : ItOk X.K X.mg Kp P (Itr lo n) (upTo lo n) H := by
  refine ⟨fun i H2 d k hd => ?_, fun i H2 k hi => show n ≤ i by simpa [upTo] using hi⟩
  unfold upTo at hd
  by_cases hn : i < n
  · rw [List.getElem?_map, List.getElem?_range hn] at hd
    cases hd
    exact ⟨hn, fun x H3 y => ⟨y.1, y.2⟩⟩
  · rw [List.getElem?_eq_none (by simpa using hn)] at hd
    cases hd
def rngD : Dt → Option (List Dt)
  | .int j => if -(2 ^ 62) ≤ j ∧ j < 2 ^ 62 then some (upTo 0 j.toNat) else none
  | _ => none
def rngF (f : Fn) : Fs := fun ε => (f ε).bind fun x => .ofO (rngD x)
theorem tI_rng {Kp : Pv → Hp → Hp → Prop} {σ : St} {H : Hp} {R : It → Hp → Prop} (h : tI X W Kp (rngF f) σ H R) : iRng1 (tCons (tB X W f) tNil) σ H R := by
  obtain ⟨P, ε, E, q⟩ := h
  exact ⟨P, ε, E, q.bind.mono fun d q v H1 e1 r1 => by
    obtain ⟨ds, h1, q⟩ := q.ofO
    cases d with
    | int j =>
      unfold rngD at h1
      dsimp only at h1
      split at h1
      · rename_i hz
        cases h1
        have e2 : v = V.int j := r1
        exact ⟨j, by rw [e2], hz.1, hz.2, q _ H1 e1 it_rng⟩
      · cases h1
    | _ => cases h1⟩
theorem itR {tg : Expr} (hm : X.mg "range" = none) (ha : PB X W e f) (hg : Gl X "range" := by rfl) (he : starEach [e] X.env = [(false, eval e X.env)] := by rfl) : ID X W tg (.Call (.Name "range" p) [e] [] pos) (rngF f) :=
  pi_weak (pi_range1 hg hm (pa_cons ha pa_nil he) he) fun _ _ _ h => tI_rng h
theorem itRS {tg : Expr} (hm : X.mg "range" = none) (ha : PB X W e f) (hg : Gl X "range" := by rfl) (he : starEach [e] X.env = [(false, eval e X.env)] := by rfl) : IS X W tg (.Call (.Name "range" p) [e] [] pos) (rngF f) :=
  pi_weak (pi_range1 hg hm (pa_cons ha pa_nil he) he) fun _ _ _ h => tI_rng h

/-! ### targets -/
abbrev Sf := Dt → Ev → Option Ev
structure SameBut (js : List Nat) (σ σ' : St) : Prop where
  ln : σ'.length = σ.length
  at_ : ∀ i, i ∉ js → σ'[i]? = σ[i]?
structure SetOk (js : List Nat) (set : Sf) : Prop where
  ln : ∀ d ε ε', set d ε = some ε' → ε'.length = ε.length
  out : ∀ d ε ε', set d ε = some ε' → ∀ i, i ∉ js → ε'[i]? = ε[i]?
  in_ : ∀ d ε ε', set d ε = some ε' → ∀ i ∈ js, ∀ l, ε'[i]? = some l → ∃ x, l = .d x
def gD (X : Cx) (js : List Nat) (set : Sf) : TG := fun v σ H Q => ∃ P ε d ε', EOk X.K X.mg P σ H ε ∧ Rep X.K X.mg H P d v ∧ set d ε = some ε' ∧ ∀ σ', EOk X.K X.mg P σ' H ε' → SameBut js σ σ' → Q σ' H
structure GD (X : Cx) (tg : Expr) (js : List Nat) (set : Sf) : Prop where
  run : PG X tg (gD X js set)
  ok : SetOk js set
theorem pg_weak {tg : Expr} {t t' : TG} (h : PG X tg t) (k : ∀ v σ H Q, t' v σ H Q → t v σ H Q) : PG X tg t' := ⟨fun pins s σ H v u Q I r q => h.run pins s σ H v u Q I r (k v σ H Q q)⟩
theorem pgs_weak {tg : List Expr} {t t' : TGs} (h : PGs X tg t) (k : ∀ v σ H Q, t' v σ H Q → t v σ H Q) : PGs X tg t' := ⟨fun pins s σ H v u Q I r q => h.run pins s σ H v u Q I r (k v σ H Q q)⟩
theorem EOk.set {K : PySem.W.Frag} {mg : Mg} {P : Pv} {σ : St} {H : Hp} {ε : Ev} (E : EOk K mg P σ H ε) {d : Dt} {v : V} (r : Rep K mg H P d v) (i : Nat) : EOk K mg P (σ.set i (some v)) H (ε.set i (.d d)) := by
  refine ⟨by rw [List.length_set, List.length_set, E.ln], E.tk, fun j l h => ?_, E.tb⟩
  by_cases hj : i = j
  · subst hj
    by_cases hi : i < ε.length
    · rw [List.getElem?_set_self hi] at h
      cases h
      rw [List.getElem?_set_self (by rw [← E.ln]; exact hi)]
      exact ⟨v, rfl, r⟩
    · rw [List.getElem?_eq_none (by rw [List.length_set]; omega)] at h
      cases h
  · rw [List.getElem?_set_ne hj] at h ⊢
    exact E.sl j l h
def setN (i : Nat) : Sf := fun d ε => some (ε.set i (.d d))
theorem setN_ok (i : Nat) : SetOk [i] (setN i) := ⟨fun d ε ε' h => by cases h; exact List.length_set, fun d ε ε' h j hj => by cases h; exact List.getElem?_set_ne (fun z => hj (by simp [z])), fun d ε ε' h j hj l hl => by
  cases h
  have e : j = i := by simpa using hj
  subst e
  by_cases hi : j < ε.length
  · rw [List.getElem?_set_self hi] at hl; cases hl; exact ⟨d, rfl⟩
  · rw [List.getElem?_eq_none (by rw [List.length_set]; omega)] at hl; cases hl⟩
theorem gdN {i : Nat} {x : Str} (hN : X.N.Nodup) (hi : X.N[i]? = some x) (hx : Loc X.env.scope x) (hf : X.fn x = true ∨ X.env.scope.names.lookup x = some .local := by first | exact .inl rfl | exact .inr rfl | assumption) : GD X (.Name x pos) [i] (setN i) :=
  ⟨pg_weak (pg_name hN hi hx hf) fun v σ H Q ⟨P, ε, d, ε', E, r, hs, q⟩ => by
    cases hs
    exact q _ (E.set r i) ⟨List.length_set, fun j hj => List.getElem?_set_ne (fun z => hj (by simp [z]))⟩, setN_ok i⟩
/-- several targets -/
abbrev Ss := List Dt → Ev → Option Ev
def gDs (X : Cx) (js : List Nat) (set : Ss) : TGs := fun vs σ H Q => ∃ P ε ds ε', EOk X.K X.mg P σ H ε ∧ Reps X.K X.mg H P ds vs ∧ set ds ε = some ε' ∧ ∀ σ', EOk X.K X.mg P σ' H ε' → SameBut js σ σ' → Q σ' H
structure SetsOk (js : List Nat) (set : Ss) : Prop where
  ln : ∀ d ε ε', set d ε = some ε' → ε'.length = ε.length
  out : ∀ d ε ε', set d ε = some ε' → ∀ i, i ∉ js → ε'[i]? = ε[i]?
  in_ : ∀ d ε ε', set d ε = some ε' → ∀ i ∈ js, ∀ l, ε'[i]? = some l → ∃ x, l = .d x
structure GDs (X : Cx) (tg : List Expr) (js : List Nat) (set : Ss) : Prop where
  run : PGs X tg (gDs X js set)
  ok : SetsOk js set
def setNil : Ss := fun ds ε => match ds with
  | [] => some ε
  | _ => none
def setCons (s : Sf) (t : Ss) : Ss := fun ds ε => match ds with
  | d :: r => (s d ε).bind (t r)
  | [] => none
theorem gds_nil : GDs X [] [] setNil := ⟨pgs_weak pgs_nil fun vs σ H Q ⟨P, ε, ds, ε', E, r, hs, q⟩ => by
  cases ds with
  | nil => cases hs; exact ⟨r, q σ E ⟨rfl, fun _ _ => rfl⟩⟩
  | cons d r => (cases hs), ⟨fun d ε ε' h => by cases d <;> cases h; rfl, fun d ε ε' h i _ => by cases d <;> cases h; rfl, fun _ _ _ _ _ h => nomatch h⟩⟩
theorem gds_cons {tg : Expr} {tgs : List Expr} {js ks : List Nat} {s : Sf} {t : Ss} (h1 : GD X tg js s) (h2 : GDs X tgs ks t) (hs : (assignEach (tg :: tgs) X.env).map (·.2) = assign tg X.env :: (assignEach tgs X.env).map (·.2) := by rfl) : GDs X (tg :: tgs) (js ++ ks) (setCons s t) := by
  refine ⟨pgs_weak (pgs_cons h1.run h2.run hs) fun vs σ H Q ⟨P, ε, ds, ε', E, r, hs, q⟩ => ?_, ?_⟩
  · cases ds with
    | nil => cases hs
    | cons d ds =>
      obtain ⟨v, vr, rfl, r1, r2⟩ := r
      obtain ⟨ε1, s1, s2⟩ := Option.bind_eq_some_iff.mp (show (s d ε).bind (t ds) = some ε' from hs)
      refine ⟨v, vr, rfl, P, ε, d, ε1, E, r1, s1, fun σ1 E1 b1 => ⟨P, ε1, ds, ε', E1, r2, s2, fun σ2 E2 b2 => q σ2 E2 ⟨b2.ln.trans b1.ln, fun i hi => ?_⟩⟩⟩
      rw [List.mem_append, not_or] at hi
      rw [b2.at_ i hi.2, b1.at_ i hi.1]
  · refine ⟨fun d ε ε' h => ?_, fun d ε ε' h i hi => ?_, fun d ε ε' h i hi l hl => ?_⟩
    all_goals
      cases d with
      | nil => cases h
      | cons d ds => ?_
    · obtain ⟨ε1, s1, s2⟩ := Option.bind_eq_some_iff.mp (show (s d ε).bind (t ds) = some ε' from h)
      rw [h2.ok.ln _ _ _ s2, h1.ok.ln _ _ _ s1]
    · obtain ⟨ε1, s1, s2⟩ := Option.bind_eq_some_iff.mp (show (s d ε).bind (t ds) = some ε' from h)
      rw [List.mem_append, not_or] at hi
      rw [h2.ok.out _ _ _ s2 i hi.2, h1.ok.out _ _ _ s1 i hi.1]
    · obtain ⟨ε1, s1, s2⟩ := Option.bind_eq_some_iff.mp (show (s d ε).bind (t ds) = some ε' from h)
      by_cases hk : i ∈ ks
      · exact h2.ok.in_ _ _ _ s2 i hk l hl
      · rw [h2.ok.out _ _ _ s2 i hk] at hl
        exact h1.ok.in_ _ _ _ s1 i ((List.mem_append.mp hi).resolve_right hk) l hl
/-- unpacking -/
def setT (n : Nat) (t : Ss) : Sf := fun d ε => match d with
  | .tup ds => if ds.length = n then t ds ε else none
  | .lst ds => if ds.length = n then t ds ε else none
  | _ => none
theorem setT_some {n : Nat} {t : Ss} {d : Dt} {ε ε' : Ev} (h : setT n t d ε = some ε') : ∃ ds, (d = .tup ds ∨ d = .lst ds) ∧ ds.length = n ∧ t ds ε = some ε' := by
  cases d with
  | tup ds =>
    by_cases z : ds.length = n
    · rw [setT, if_pos z] at h; exact ⟨ds, .inl rfl, z, h⟩
    · rw [setT, if_neg z] at h; cases h
  | lst ds =>
    by_cases z : ds.length = n
    · rw [setT, if_pos z] at h; exact ⟨ds, .inr rfl, z, h⟩
    · rw [setT, if_neg z] at h; cases h
  | _ => cases h
theorem pg_or {tg : Expr} {t t' : TG} (h : PG X tg t) (h' : PG X tg t') : PG X tg (fun v σ H Q => t v σ H Q ∨ t' v σ H Q) := ⟨fun pins s σ H v u Q I r q => q.elim (h.run pins s σ H v u Q I r) (h'.run pins s σ H v u Q I r)⟩
theorem gdT {tgs : List Expr} {k n : Nat} {js : List Nat} {t : Ss} (hc : X.calm = true) (h : GDs X tgs js t) (hn : (assignEach tgs X.env).length = n := by rfl) (hst : (assignEach tgs X.env).findIdx? (·.1) = none := by rfl) : GD X (.Tuple tgs k pos) js (setT n t) := by
  refine ⟨pg_weak (pg_or (pg_tup hc h.run hn hst) (pg_lst hc h.run hn hst)) fun v σ H Q ⟨P, ε, d, ε', E, r, hs, q⟩ => ?_, ?_⟩
  · obtain ⟨ds, hd, hl, hs'⟩ := setT_some hs
    rcases hd with rfl | rfl
    · obtain ⟨a, vs, rfl, h1, h2⟩ := r
      exact .inl ⟨a, vs, rfl, h1, by rw [← h2.length]; exact hl, P, ε, ds, ε', E, h2, hs', q⟩
    · obtain ⟨a, vs, rfl, h1, _, h2⟩ := r
      exact .inr ⟨a, vs, rfl, .of h1, by rw [← h2.length]; exact hl, P, ε, ds, ε', E, h2, hs', q⟩
  · refine ⟨fun d ε ε' z => ?_, fun d ε ε' z i hi => ?_, fun d ε ε' z i hi l hl => ?_⟩
    all_goals obtain ⟨ds, _, _, z⟩ := setT_some z
    · exact h.ok.ln _ _ _ z
    · exact h.ok.out _ _ _ z i hi
    · exact h.ok.in_ _ _ _ z i hi l hl

/-! ### comprehensions -/
def Rz.val {ε α : Type} : Rz ε α → Option α
  | .ok a => some a
  | _ => none
def wipeE (ε : Ev) : List Nat → Ev
  | [] => ε
  | v :: vs => (wipeE ε vs).set v .u
theorem EOk.wipe {K : PySem.W.Frag} {mg : Mg} {P : Pv} {σ : St} {H : Hp} {ε : Ev} (E : EOk K mg P σ H ε) : ∀ vs : List Nat, EOk K mg P (wipe σ vs) H (wipeE ε vs)
  | [] => E
  | v :: vs => by
    have I := EOk.wipe E vs
    refine ⟨by rw [wipeE, L2.wipe, List.length_set, List.length_set, I.ln], E.tk, fun j l h => ?_, E.tb⟩
    rw [wipeE] at h
    rw [L2.wipe]
    by_cases hj : v = j
    · subst hj
      by_cases hi : v < (wipeE ε vs).length
      · rw [List.getElem?_set_self hi] at h
        cases h
        trivial
      · rw [List.getElem?_eq_none (by rw [List.length_set]; omega)] at h
        cases h
    · rw [List.getElem?_set_ne hj] at h ⊢
      exact I.sl j l h
theorem wipe_same {js : List Nat} : ∀ {vs : List Nat} {σ σ' : St}, SameBut js (wipe σ vs) σ' → (∀ j ∈ js, j ∈ vs) → wipe σ' vs = wipe σ vs := by
  intro vs σ σ' h hj
  refine List.ext_getElem? fun i => ?_
  have ln : ∀ (vs : List Nat) (s : St), (wipe s vs).length = s.length := fun vs s => wipe_length s vs
  have inn : ∀ (vs : List Nat) (s : St), i ∈ vs → i < s.length → (wipe s vs)[i]? = some none := by
    intro vs
    induction vs with
    | nil => intro s z; cases z
    | cons v r ih =>
      intro s z hl
      rw [L2.wipe]
      by_cases e : v = i
      · subst e; rw [List.getElem?_set_self (by rw [ln]; exact hl)]
      · rw [List.getElem?_set_ne e]
        exact ih s ((List.mem_cons.mp z).resolve_left (fun q => e q.symm)) hl
  by_cases hi : i ∈ vs
  · by_cases hl : i < σ.length
    · rw [inn vs σ hi hl, inn vs σ' hi (by rw [h.ln, ln]; exact hl)]
    · rw [List.getElem?_eq_none (by rw [ln, h.ln, ln]; omega), List.getElem?_eq_none (by rw [ln]; omega)]
  · rw [wipe_out hi, h.at_ i (fun z => hi (hj i z))]
def lcGo (set : Sf) (test : Tf) (elt : Fn) (ε : Ev) : List Dt → Option (List Dt)
  | [] => some []
  | x :: xs => (set x ε).bind fun ε1 => (test ε1).val.bind fun b => if b = true then (elt ε1).val.bind fun y => (lcGo set test elt ε xs).map (y :: ·) else lcGo set test elt ε xs
def lcF (it : Fs) (own : List Nat) (set : Sf) (test : Tf) (elt : Fn) : Fs := fun ε => (it ε).bind fun xs => if xs.length < sizeLine then .ofO (lcGo set test elt (wipeE ε own) xs) else .bad
abbrev W0 : WX := fun _ _ _ _ => False
theorem Out.of0 {σ : St} {H : Hp} {α : Type} {r : Rz Str α} {k : α → Prop} {a : α} (h : r.val = some a) (q : k a) : Out X W σ H r k := by
  cases r with
  | ok b => cases h; exact q
  | _ => cases h
def yes : Tf := fun _ => .ok true
def TDs (X : Cx) (W : WX) (ifs : List Expr) (t : Tf) : Prop := PTs X ifs (tT X W t)
theorem pts_weak {ifs : List Expr} {t t' : TT} (h : PTs X ifs t) (k : ∀ σ H Q, t' σ H Q → t σ H Q) : PTs X ifs t' := ⟨fun pins s σ H Q I q => h.run pins s σ H Q I (k σ H Q q)⟩
theorem tds_nil : TDs X W [] yes := pts_weak pts_nil fun σ H Q ⟨P, ε, E, q⟩ => q H Ext.refl
theorem tds_one {t : Tf} (h : TD X W c t) : TDs X W [c] t := pts_one h
theorem take_one {α : Type} {l : List α} {i : Nat} {x : α} (h : l[i]? = some x) : l.drop i = x :: l.drop (i + 1) := by
  obtain ⟨h1, h2⟩ := List.getElem?_eq_some_iff.mp h
  rw [← h2]
  exact List.drop_eq_getElem_cons h1
/-- the loop of a comprehension -/
theorem lc_of {it : Fs} {own js : List Nat} {set : Sf} {test : Tf} {elt : Fn} {σ : St} {H : Hp} {Q : VK} (hset : SetOk js set) (hj : ∀ j ∈ js, j ∈ own) (h : tN X W (lcF it own set test elt) σ H Q) :
    tLc (tI X W KE it) (gD X js set) (tT X W0 test) (tD X W0 elt) own σ H Q := by
  obtain ⟨P, ε, E, q⟩ := h
  refine ⟨P, ε, E, q.bind.mono fun ds q J H1 e1 io D hD => ?_⟩
  by_cases hz : ds.length < sizeLine
  · rw [if_pos hz] at q
    obtain ⟨out, hout, q⟩ := q.ofO
    have E1 := E.ext e1
    have n1 : ∀ {b : Addr} {o : HO}, H1 b = some o → b ≠ D := fun h => ne_of_none h hD
    refine ⟨fun i m H2 => m = ds.length - i ∧ i ≤ ds.length ∧ Ext H1 H2 ∧ ∃ acc vs r, acc.length ≤ i ∧ H2 D = some (.lst vs) ∧ Reps X.K X.mg H2 (more P D) acc vs ∧ lcGo set test elt (wipeE ε own) (ds.drop i) = some r ∧ acc ++ r = out,
      ⟨ds.length, by simp, Nat.zero_le _, Ext.new hD, [], [], out, Nat.le_refl _, upd_same, rfl, by rw [List.drop_zero]; exact hout, rfl⟩, ?_⟩
    rintro i m H2 ⟨rfl, hi, e2, acc, vs, r, hl, hv, rs, hr, ho⟩
    have eD : Tr (more P D) (more P D) H1 H2 := Tr.of e2
    by_cases hlt : i < ds.length
    · have hd : ds[i]? = some ds[i] := List.getElem?_eq_getElem hlt
      obtain ⟨g1, g2⟩ := io.go i H2 _ e2 hd
      rw [take_one hd, lcGo] at hr
      obtain ⟨ε1, hs1, hr⟩ := Option.bind_eq_some_iff.mp hr
      obtain ⟨b, ht1, hr⟩ := Option.bind_eq_some_iff.mp hr
      refine .inr ⟨g1, fun H3 => Ext H1 H3 ∧ ∃ acc vs r, acc.length ≤ i + 1 ∧ H3 D = some (.lst vs) ∧ Reps X.K X.mg H3 (more P D) acc vs ∧ lcGo set test elt (wipeE ε own) (ds.drop (i + 1)) = some r ∧ acc ++ r = out,
        fun H3 z => ⟨ds.length - (i + 1), by omega, rfl, hlt, z⟩, fun x H3 y => ?_⟩
      obtain ⟨rfl, rx⟩ := g2 x H3 y
      have E2 : EOk X.K X.mg (more P D) (wipe σ own) H3 (wipeE ε own) := by
        have z := ((E1.new hD (o := .lst []) nt_lst).wipe own)
        refine ⟨z.ln, fun a ha => ?_, fun j l hjl => ?_, e2.tabs E1.tb⟩
        · rcases ha with ha | ha
          · obtain ⟨o, q1, q2⟩ := E1.tk a ha
            exact ⟨o, e2.at_ q1 q2, q2⟩
          · rw [ha]
            exact ⟨_, hv, nt_lst⟩
        · exact (((E1.wipe own).sl j l hjl).more (.of hD)).ext e2
      have rx2 : Rep X.K X.mg H3 (more P D) ds[i] x := (Rep.tr (Tr.more (.of hD)) _ _ rx).ext e2
      refine ⟨more P D, wipeE ε own, ds[i], ε1, E2, rx2, hs1, fun σ2 E3 sb => ⟨wipe_same sb hj, more P D, ε1, E3, .of0 ht1 fun H4 e4 => ?_⟩⟩
      cases b with
      | true =>
        rw [if_pos rfl] at hr ⊢
        obtain ⟨y, hy, hr⟩ := Option.bind_eq_some_iff.mp hr
        obtain ⟨r', hr', e5⟩ := Option.map_eq_some_iff.mp hr
        refine ⟨more P D, ε1, E3.ext e4, .of0 hy fun v H5 e5' ry => ?_⟩
        have e35 : Ext H3 H5 := e4.trans e5'
        have hv5 := e35.at_ hv nt_lst
        refine ⟨vs, hv5, by rw [← rs.length]; omega, Xt.putL (e2.trans e35) (.inl (.of hD)) hv5, acc ++ [y], vs ++ [v], r', by rw [List.length_append]; exact Nat.add_le_add_right hl 1, upd_same, ?_, hr', by rw [← ho, ← e5]; simp⟩
        exact (Reps.tr (Tr.write (P := more P D) (.inr rfl) (.inl ⟨_, hv5⟩)) _ _ ((rs.ext e35).append (.one ry)))
      | false =>
        rw [if_neg Bool.false_ne_true] at hr ⊢
        exact ⟨e2.trans e4, acc, vs, r, Nat.le_succ_of_le hl, e4.at_ hv nt_lst, rs.ext e4, hr, ho⟩
    · have ei : i = ds.length := by omega
      subst ei
      rw [List.drop_length, lcGo] at hr
      cases hr
      rw [List.append_nil] at ho
      subst ho
      exact .inl ⟨io.stop _ H2 e2 (Nat.le_refl _), q D vs H2 (e1.trans e2) (e1.fresh (.of hD)) hv rs⟩
  · rw [if_neg hz] at q
    exact q.elim
end DL
end
section
set_option Elab.async false
set_option linter.all false
set_option maxRecDepth 100000
set_option autoImplicit false
namespace DL
open PySem PySem.Spec PyProof.Rows L2
variable [TbC]
variable {X : Cx} {W : WX} {e a b c : Expr} {es rest : List Expr} {f g h : Fn} {pos p : Pos}
theorem pn_lc {elt tg iter : Expr} {ifs : List Expr} {scope : Scope} {own : List (Str × Nat)} {js : List Nat} {it : Fs} {set : Sf} {test : Tf} {k : Fn} (hc : X.calm = true) (hN : X.N.Nodup) (hi : ID X W tg iter it) (ok : BlkOk X.N X.env.scope scope own)
    (hg : ∀ (s : Shared) (H : Hp) (C : Addr) (cl : List (Str × Addr)) (fp : List Addr), GD (X.blk s H scope (compEnvC scope cl C X.env) fp) tg js set) (ht : ∀ (s : Shared) (H : Hp) (C : Addr) (cl : List (Str × Addr)) (fp : List Addr), TDs (X.blk s H scope (compEnvC scope cl C X.env) fp) W0 ifs test)
    (he : ∀ (s : Shared) (H : Hp) (C : Addr) (cl : List (Str × Addr)) (fp : List Addr), PD (X.blk s H scope (compEnvC scope cl C X.env) fp) W0 elt k) (hj : ∀ j ∈ js, j ∈ own.map (·.2) := by decide) (hs : ∀ x, foldedSetIterable iter X.env x = pure x := by intro _; rfl) :
    PN X W (.ListComp elt [⟨tg, iter, ifs, 0⟩] scope pos) (lcF it (own.map (·.2)) set test k) :=
  pe_weak (pe_lc (g := gD X js set) (tt := tT X W0 test) (te := tD X W0 k) hc hN hi ok (fun s H C cl fp => (hg s H C cl fp).run) ht he hs) fun σ H Q q => lc_of (hg X.s_0 X.H_0 0 [] []).ok hj q

/-! ### statements -/
/-- a frame: the heap at its start, what is private around, what may change -/
structure Frm where
  H0 : Hp
  P0 : Pv
  M : Pv
def Lc.isO : Lc → Prop
  | .o _ => True
  | .i _ _ _ _ => True
  | .m _ => True
  | _ => False
def ownA (σ : St) (ε : Ev) : Pv := fun a => ∃ (i : Nat) (l : Lc), ε[i]? = some l ∧ l.isO ∧ σ[i]?.join = some (.ref a)
def prv (F : Frm) (σ : St) (ε : Ev) : Pv := fun a => F.P0 a ∨ ownA σ ε a
structure SOk (K : PySem.W.Frag) (mg : Mg) (F : Frm) (σ : St) (H : Hp) (ε : Ev) : Prop where
  e : EOk K mg (prv F σ ε) σ H ε
  x : Xt F.M F.H0 H
  p : ∀ a, F.P0 a → ∃ o, F.H0 a = some o ∧ ∀ ps, o ≠ .tbl ps
  f : ∀ (i : Nat) (l : Lc) (a : Addr), ε[i]? = some l → l.isO → σ[i]?.join = some (.ref a) → Fresh F.H0 a ∨ F.M a
  n : ∀ (i : Nat) (xs : List Dt) (a : Addr), ε[i]? = some (.o xs) → σ[i]?.join = some (.ref a) → ¬ F.P0 a
  d : ∀ (i j : Nat) (l l' : Lc) (a : Addr), i ≠ j → ε[i]? = some l → l.isO → ε[j]? = some l' → l'.isO → σ[i]?.join = some (.ref a) → σ[j]?.join ≠ some (.ref a)
section
variable {K : PySem.W.Frag} {mg : Mg} {F : Frm} {σ σ' : St} {H H' : Hp} {ε ε' : Ev} {P P' : Pv}
theorem SlotOk.less {l : Lc} {x : Option V} (h : SlotOk K mg H P l x) (hp : ∀ a, P' a → P a) (ho : l.isO → ∀ a, x = some (.ref a) → P' a) : SlotOk K mg H P' l x := by
  cases l with
  | u => trivial
  | d d => obtain ⟨v, q, r⟩ := h; exact ⟨v, q, Rep.tr (Tr.less hp) _ _ r⟩
  | o ds => obtain ⟨a, vs, q, h0, h1, r⟩ := h; exact ⟨a, vs, q, ho trivial a q, h1, Reps.tr (Tr.less hp) _ _ r⟩
  | i a c ks ds => obtain ⟨C, dx, vs, q, h0, h1, h2, l, r⟩ := h; exact ⟨C, dx, vs, q, ho trivial a q, h1, h2, l, Reps.tr (Tr.less hp) _ _ r⟩
  | m xs => obtain ⟨a, ys, q, p, h1, r⟩ := h; exact ⟨a, ys, q, ho trivial a q, h1, r.tr (Tr.less hp)⟩
  | mf xs => obtain ⟨a, o, ys, q, h1, r⟩ := h; exact ⟨a, o, ys, q, h1, r.tr (Tr.less hp)⟩
theorem EOk.less (E : EOk K mg P σ H ε) (hp : ∀ a, P' a → P a) (ho : ∀ a, ownA σ ε a → P' a) : EOk K mg P' σ H ε :=
  ⟨E.ln, fun a h => E.tk a (hp a h), fun i l h => (E.sl i l h).less hp fun o a q => ho a ⟨i, l, h, o, q⟩, E.tb⟩
theorem SOk.ext (S : SOk K mg F σ H ε) (e : Ext H H') : SOk K mg F σ H' ε := ⟨S.e.ext e, S.x.trans e.to, S.p, S.f, S.n, S.d⟩
/-- the slots change, but no new private thing comes -/
theorem SOk.chg (S : SOk K mg F σ H ε) (E : EOk K mg (prv F σ ε) σ' H ε') (h : ∀ (j : Nat) (l : Lc), ε'[j]? = some l → l.isO → ε[j]? = some l ∧ σ'[j]? = σ[j]?) : SOk K mg F σ' H ε' := by
  have ho : ∀ a, ownA σ' ε' a → ownA σ ε a := fun a ⟨i, l, h1, h2, h3⟩ => by
    obtain ⟨q1, q2⟩ := h i l h1 h2
    exact ⟨i, l, q1, h2, by rw [← q2]; exact h3⟩
  refine ⟨E.less (fun a z => z.imp_right (ho a)) fun a z => .inr z, S.x, S.p, fun i l a h1 h2 h3 => ?_, fun i xs a h1 h3 => ?_, fun i j l l' a n h1 h2 h3 h4 h5 => ?_⟩
  · obtain ⟨q1, q2⟩ := h i l h1 h2
    exact S.f i l a q1 h2 (by rw [← q2]; exact h3)
  · obtain ⟨q1, q2⟩ := h i _ h1 trivial
    exact S.n i xs a q1 (by rw [← q2]; exact h3)
  · obtain ⟨q1, q2⟩ := h i l h1 h2
    obtain ⟨q3, q4⟩ := h j l' h3 h4
    rw [q4]
    exact S.d i j l l' a n q1 h2 q3 h4 (by rw [← q2]; exact h5)
theorem SOk.set (S : SOk K mg F σ H ε) {d : Dt} {v : V} (r : Rep K mg H (prv F σ ε) d v) (i : Nat) : SOk K mg F (σ.set i (some v)) H (ε.set i (.d d)) := S.chg (S.e.set r i) fun j l h o => by
  by_cases hj : i = j
  · subst hj
    by_cases hi : i < ε.length
    · rw [List.getElem?_set_self hi] at h; cases h; exact o.elim
    · rw [List.getElem?_eq_none (by rw [List.length_set]; omega)] at h; cases h
  · rw [List.getElem?_set_ne hj] at h ⊢
    exact ⟨h, rfl⟩
theorem SOk.tgt (S : SOk K mg F σ H ε) {js : List Nat} {set : Sf} {d : Dt} (ok : SetOk js set) (hs : set d ε = some ε') (E : EOk K mg (prv F σ ε) σ' H ε') (sb : SameBut js σ σ') : SOk K mg F σ' H ε' := S.chg E fun j l h o => by
  by_cases hj : j ∈ js
  · obtain ⟨x, rfl⟩ := ok.in_ _ _ _ hs j hj l h
    exact o.elim
  · rw [ok.out _ _ _ hs j hj] at h
    exact ⟨h, sb.at_ j hj⟩
/-- a new list of one's own -/
theorem SOk.own (S : SOk K mg F σ H ε) (e : Ext H H') {p : Addr} (hp : Fresh H p) {vs : List V} {ds : List Dt} (hv : H' p = some (.lst vs)) (r : Reps K mg H' (more (prv F σ ε) p) ds vs) (i : Nat) : SOk K mg F (σ.set i (some (.ref p))) H' (ε.set i (.o ds)) := by
  have S1 := S.ext e
  have npv : ¬ prv F σ ε p := S.e.ne hp
  have sl : ∀ (j : Nat) (l : Lc), (ε.set i (.o ds))[j]? = some l → (j = i ∧ l = .o ds ∧ i < ε.length) ∨ (j ≠ i ∧ ε[j]? = some l) := fun j l h => by
    by_cases hj : i = j
    · subst hj
      by_cases hi : i < ε.length
      · rw [List.getElem?_set_self hi] at h; cases h; exact .inl ⟨rfl, rfl, hi⟩
      · rw [List.getElem?_eq_none (by rw [List.length_set]; omega)] at h; cases h
    · rw [List.getElem?_set_ne hj] at h
      exact .inr ⟨fun z => hj z.symm, h⟩
  have at_i : i < ε.length → (σ.set i (some (V.ref p)))[i]?.join = some (.ref p) := fun hi => by rw [List.getElem?_set_self (by rw [← S.e.ln]; exact hi)]; rfl
  have at_j : ∀ {j : Nat}, j ≠ i → (σ.set i (some (V.ref p)))[j]? = σ[j]? := fun hj => List.getElem?_set_ne (fun z => hj z.symm)
  have ow : ∀ a, ownA (σ.set i (some (.ref p))) (ε.set i (.o ds)) a → ownA σ ε a ∨ a = p := fun a ⟨j, l, h1, h2, h3⟩ => by
    rcases sl j l h1 with ⟨rfl, rfl, hi⟩ | ⟨hj, h⟩
    · rw [at_i hi] at h3
      cases h3
      exact .inr rfl
    · rw [at_j hj] at h3
      exact .inl ⟨j, l, h, h2, h3⟩
  have E2 : EOk K mg (more (prv F σ ε) p) (σ.set i (some (.ref p))) H' (ε.set i (.o ds)) := by
    refine ⟨by rw [List.length_set, List.length_set, S.e.ln], fun a h => ?_, fun j l h => ?_, S1.e.tb⟩
    · rcases h with h | h
      · exact S1.e.tk a h
      · rw [h]; exact ⟨_, hv, nt_lst⟩
    · rcases sl j l h with ⟨rfl, rfl, hi⟩ | ⟨hj, h⟩
      · rw [at_i hi]
        exact ⟨p, vs, rfl, .inr rfl, hv, r⟩
      · rw [at_j hj]
        exact ((S.e.sl j l h).more hp).ext e
  refine ⟨E2.less (fun a h => ?_) fun a h => .inr h, S1.x, S.p, fun j l a h1 h2 h3 => ?_, fun j xs a h1 h3 => ?_, fun j k l l' a hn h1 h2 h3 h4 h5 => ?_⟩
  · rcases h with h | h
    · exact .inl (.inl h)
    · rcases ow a h with h | h
      · exact .inl (.inr h)
      · exact .inr h
  · rcases sl j l h1 with ⟨rfl, rfl, hi⟩ | ⟨hj, h⟩
    · rw [at_i hi] at h3
      cases h3
      by_cases hm : F.M p
      · exact .inr hm
      · exact .inl (S.x.fresh hp hm)
    · rw [at_j hj] at h3
      exact S.f j l a h h2 h3
  · rcases sl j _ h1 with ⟨rfl, _, hi⟩ | ⟨hj, h⟩
    · rw [at_i hi] at h3
      cases h3
      exact fun z => npv (.inl z)
    · rw [at_j hj] at h3
      exact S.n j xs a h h3
  · rcases sl j l h1 with ⟨rfl, rfl, hi⟩ | ⟨hj, h⟩
    · rw [at_i hi] at h5
      cases h5
      rcases sl k l' h3 with ⟨rfl, _⟩ | ⟨hk, h⟩
      · exact absurd rfl hn
      · rw [at_j hk]
        exact fun z => npv (.inr ⟨k, l', h, h4, z⟩)
    · rw [at_j hj] at h5
      rcases sl k l' h3 with ⟨rfl, rfl, hi⟩ | ⟨hk, h'⟩
      · rw [at_i hi]
        intro z
        cases z
        exact npv (.inr ⟨j, l, h, h2, h5⟩)
      · rw [at_j hk]
        exact S.d j k l l' a hn h h2 h' h4 h5
theorem SOk.slotO (S : SOk K mg F σ H ε) {i : Nat} {ds : List Dt} (h : ε[i]? = some (.o ds)) : ∃ a vs, σ[i]? = some (some (.ref a)) ∧ σ[i]?.join = some (.ref a) ∧ H a = some (.lst vs) ∧ Reps K mg H (prv F σ ε) ds vs := by
  obtain ⟨a, vs, q, _, h1, r⟩ := S.e.sl i _ h
  exact ⟨a, vs, slot_some q, q, h1, r⟩
theorem SlotOk.own {l : Lc} {x : Option V} (h : SlotOk K mg H P l x) (o : l.isO) : ∃ a, x = some (.ref a) ∧ P a ∧ OwnK H a := by
  cases l with
  | u => exact o.elim
  | d _ => exact o.elim
  | mf _ => exact o.elim
  | o ds => obtain ⟨a, vs, q, p, h1, _⟩ := h; exact ⟨a, q, p, .inl ⟨_, h1⟩⟩
  | i a c ks ds => obtain ⟨C, dx, vs, q, p, _, h1, _⟩ := h; exact ⟨a, q, p, .inr (.inl ⟨_, _, _, h1⟩)⟩
  | m xs => obtain ⟨a, ys, q, p, h1, _⟩ := h; exact ⟨a, q, p, .inr (.inr ⟨_, _, _, h1⟩)⟩
/-- what is one's own is written -/
theorem SOk.put (S : SOk K mg F σ H ε) {i : Nat} {l0 l1 : Lc} {u : HO} (h : ε[i]? = some l0) (h0 : l0.isO) (h1 : l1.isO) (nO : ∀ xs, l1 = .o xs → ∃ ys, l0 = .o ys) {a : Addr} (ha : σ[i]?.join = some (.ref a)) (nt : ∀ ps, u ≠ .tbl ps)
    (sl : SlotOk K mg (upd H a u) (prv F σ ε) l1 (some (.ref a))) : SOk K mg F σ (upd H a u) (ε.set i l1) := by
  have hi : i < ε.length := (List.getElem?_eq_some_iff.mp h).1
  obtain ⟨a', q, p', hk⟩ := (S.e.sl i _ h).own h0
  rw [ha] at q
  cases q
  have at_ : ∀ (j : Nat) (l : Lc), (ε.set i l1)[j]? = some l → (j = i ∧ l = l1) ∨ (j ≠ i ∧ ε[j]? = some l) := fun j l h => by
    by_cases hj : i = j
    · subst hj
      rw [List.getElem?_set_self hi] at h; cases h; exact .inl ⟨rfl, rfl⟩
    · rw [List.getElem?_set_ne hj] at h
      exact .inr ⟨fun z => hj z.symm, h⟩
  have ow : ∀ b, ownA σ (ε.set i l1) b → ownA σ ε b := fun b ⟨j, l, h1, h2, h3⟩ => by
    rcases at_ j l h1 with ⟨rfl, rfl⟩ | ⟨hj, h'⟩
    · exact ⟨j, _, h, h0, h3⟩
    · exact ⟨j, l, h', h2, h3⟩
  have tw : Tr (prv F σ ε) (prv F σ ε) H (upd H a u) := Tr.write p' hk
  have ne : ∀ {j : Nat} {l : Lc} {b : Addr}, j ≠ i → ε[j]? = some l → l.isO → σ[j]?.join = some (.ref b) → b ≠ a := fun {j l b} hji h' ho q e => S.d j i _ _ a hji h' ho h h0 (by rw [q, e]) ha
  have E2 : EOk K mg (prv F σ ε) σ (upd H a u) (ε.set i l1) := by
    refine ⟨by rw [List.length_set, S.e.ln], fun b hb => ?_, fun j l hj => ?_, (Xt.put (M := fun b => b = a) Xt.refl (.inr rfl) hk).tabs S.e.tb⟩
    · by_cases e : b = a
      · rw [e, upd_same]; exact ⟨_, rfl, nt⟩
      · rw [upd_ne e]; exact S.e.tk b hb
    · rcases at_ j l hj with ⟨rfl, rfl⟩ | ⟨hji, h'⟩
      · rw [ha]; exact sl
      · have z := S.e.sl j l h'
        cases l with
        | u => trivial
        | d d => obtain ⟨v, q, r⟩ := z; exact ⟨v, q, Rep.tr tw _ _ r⟩
        | o ds' =>
          obtain ⟨b, ws, q, pb, hb, rb⟩ := z
          exact ⟨b, ws, q, pb, by rw [upd_ne (ne hji h' trivial q)]; exact hb, Reps.tr tw _ _ rb⟩
        | i b c ks ds' =>
          obtain ⟨C, dx, ws, q, pb, hc, hb, hl, rb⟩ := z
          exact ⟨C, dx, ws, q, pb, hc, by rw [upd_ne (ne hji h' trivial q)]; exact hb, hl, Reps.tr tw _ _ rb⟩
        | m xs =>
          obtain ⟨b, ys, q, pb, hb, rb⟩ := z
          exact ⟨b, ys, q, pb, by rw [upd_ne (ne hji h' trivial q)]; exact hb, rb.tr tw⟩
        | mf xs =>
          obtain ⟨b, o, ys, q, hb, rb⟩ := z
          refine ⟨b, o, ys, q, ?_, rb.tr tw⟩
          rw [upd_ne (fun e => ?_)]
          · exact hb
          · rw [e] at hb
            exact (hk.not hb).2.2.1 _ _ rfl
  refine ⟨E2.less (fun b z => z.imp_right (ow b)) fun b z => .inr z, Xt.put S.x (S.f i _ a h h0 ha) hk, S.p, fun j l b h1 h2 h3 => ?_, fun j xs b h1 h3 => ?_, fun j k l l' b hn h1 h2 h3 h4 h5 => ?_⟩
  · rcases at_ j l h1 with ⟨rfl, rfl⟩ | ⟨hj, h'⟩
    · exact S.f j _ b h h0 h3
    · exact S.f j l b h' h2 h3
  · rcases at_ j _ h1 with ⟨rfl, e⟩ | ⟨hj, h'⟩
    · obtain ⟨ys, e0⟩ := nO xs e.symm
      rw [e0] at h
      exact S.n j _ b h h3
    · exact S.n j xs b h' h3
  · rcases at_ j l h1 with ⟨rfl, rfl⟩ | ⟨hj, h1'⟩
    · rcases at_ k l' h3 with ⟨rfl, _⟩ | ⟨hk, h3'⟩
      · exact absurd rfl hn
      · exact S.d j k _ l' b hn h h0 h3' h4 h5
    · rcases at_ k l' h3 with ⟨rfl, rfl⟩ | ⟨hk, h3'⟩
      · exact S.d j k l _ b hn h1' h2 h h0 h5
      · exact S.d j k l l' b hn h1' h2 h3' h4 h5
/-- one's own list is written -/
theorem SOk.wr (S : SOk K mg F σ H ε) {i : Nat} {ds es : List Dt} (h : ε[i]? = some (.o ds)) {a : Addr} (ha : σ[i]?.join = some (.ref a)) {vs : List V} (r : Reps K mg H (prv F σ ε) es vs) : SOk K mg F σ (upd H a (.lst vs)) (ε.set i (.o es)) := by
  obtain ⟨a', q, p', hk⟩ := (S.e.sl i _ h).own trivial
  rw [ha] at q
  cases q
  exact S.put (l1 := .o es) h trivial trivial (fun _ _ => ⟨ds, rfl⟩) ha nt_lst ⟨a, vs, rfl, p', upd_same, Reps.tr (Tr.write p' hk) _ _ r⟩
/-- one's own list is handed on as data -/
theorem SOk.share (S : SOk K mg F σ H ε) {i : Nat} {ds : List Dt} (h : ε[i]? = some (.o ds)) : SOk K mg F σ H (ε.set i (.d (.lst ds))) := by
  obtain ⟨a, vs, h1, h2, h3, r⟩ := S.slotO h
  have hi : i < ε.length := (List.getElem?_eq_some_iff.mp h).1
  have sl : ∀ (j : Nat) (l : Lc), (ε.set i (.d (.lst ds)))[j]? = some l → (j = i ∧ l = .d (.lst ds)) ∨ (j ≠ i ∧ ε[j]? = some l) := fun j l h => by
    by_cases hj : i = j
    · subst hj
      rw [List.getElem?_set_self hi] at h; cases h; exact .inl ⟨rfl, rfl⟩
    · rw [List.getElem?_set_ne hj] at h
      exact .inr ⟨fun z => hj z.symm, h⟩
  have ow : ∀ b, ownA σ (ε.set i (.d (.lst ds))) b → ownA σ ε b ∧ b ≠ a := fun b ⟨j, l, q1, q2, q3⟩ => by
    rcases sl j l q1 with ⟨rfl, rfl⟩ | ⟨hj, h'⟩
    · exact q2.elim
    · exact ⟨⟨j, l, h', q2, q3⟩, fun z => S.d j i l _ b hj h' q2 h trivial q3 (by rw [h2, z])⟩
  have lt : ∀ b, prv F σ (ε.set i (.d (.lst ds))) b → prv F σ ε b := fun b z => z.imp_right fun q => (ow b q).1
  have na : ¬ prv F σ (ε.set i (.d (.lst ds))) a := fun z => z.elim (S.n i ds a h h2) fun q => (ow a q).2 rfl
  refine ⟨⟨by rw [List.length_set, S.e.ln], fun b hb => S.e.tk b (lt b hb), fun j l hj => ?_, S.e.tb⟩, S.x, S.p, fun j l b q1 q2 q3 => ?_, fun j xs b q1 q3 => ?_, fun j k l l' b hn q1 q2 q3 q4 q5 => ?_⟩
  · rcases sl j l hj with ⟨rfl, rfl⟩ | ⟨hj', h'⟩
    · exact ⟨_, h2, a, vs, rfl, h3, na, Reps.tr (Tr.less lt) _ _ r⟩
    · exact (S.e.sl j l h').less lt fun o b q => .inr ⟨j, l, hj, o, q⟩
  · rcases sl j l q1 with ⟨rfl, rfl⟩ | ⟨hj, h'⟩
    · exact q2.elim
    · exact S.f j l b h' q2 q3
  · rcases sl j _ q1 with ⟨rfl, z⟩ | ⟨hj, h'⟩
    · cases z
    · exact S.n j xs b h' q3
  · rcases sl j l q1 with ⟨rfl, rfl⟩ | ⟨hj, h'⟩
    · exact q2.elim
    · rcases sl k l' q3 with ⟨rfl, rfl⟩ | ⟨hk, h''⟩
      · exact q4.elim
      · exact S.d j k l l' b hn h' q2 h'' q4 q5
/-- the frame of a loop -/
def Frm.loop (F : Frm) (H : Hp) (σ : St) (ε : Ev) : Frm := ⟨H, F.P0, ownA σ ε⟩
theorem SOk.loop (S : SOk K mg F σ H ε) : SOk K mg (F.loop H σ ε) σ H ε :=
  ⟨S.e, Xt.refl, fun a h => S.e.tk a (.inl h), fun i l a h1 h2 h3 => .inr ⟨i, l, h1, h2, h3⟩, S.n, S.d⟩
theorem SOk.back (S : SOk K mg F σ H ε) (L : SOk K mg (F.loop H σ ε) σ' H' ε') : SOk K mg F σ' H' ε' := by
  have fM : ∀ a, ownA σ ε a → Fresh F.H0 a ∨ F.M a := fun a ⟨i, l, h1, h2, h3⟩ => S.f i l a h1 h2 h3
  refine ⟨L.e, Xt.join S.x L.x fun b o hb ht hm z => ?_, S.p, fun i l a h1 h2 h3 => ?_, L.n, L.d⟩
  · rcases fM b z with q | q
    · exact q.ne hb ht rfl
    · exact hm q
  · rcases L.f i l a h1 h2 h3 with q | q
    · by_cases hm : F.M a
      · exact .inr hm
      · exact .inl (S.x.fresh q hm)
    · exact fM a q
theorem SOk.backX (S : SOk K mg F σ H ε) (x : Xt (ownA σ ε) H H') : Xt F.M F.H0 H' := Xt.join S.x x fun b o hb ht hm ⟨i, l, h1, h2, h3⟩ => by
  rcases S.f i l b h1 h2 h3 with q | q
  · exact q.ne hb ht rfl
  · exact hm q
theorem SOk.backF (S : SOk K mg F σ H ε) {a : Addr} (x : Fresh H a ∨ ownA σ ε a) : Fresh F.H0 a ∨ F.M a := by
  rcases x with q | ⟨i, l, h1, h2, h3⟩
  · by_cases hm : F.M a
    · exact .inr hm
    · exact .inl (S.x.fresh q hm)
  · exact S.f i l a h1 h2 h3
/-- what is walked stays through the loop -/
theorem SOk.kept (S : SOk K mg F σ H ε) (L : SOk K mg (F.loop H σ ε) σ' H' ε') : Tr (prv F σ ε) (prv F σ' ε') H H' := by
  have kind : ∀ b, ownA σ ε b → OwnK H b := fun b ⟨i, l, h1, h2, h3⟩ => by
    obtain ⟨a, q, _, k⟩ := (S.e.sl i l h1).own h2
    rw [h3] at q
    cases q
    exact k
  refine ⟨fun b o hb ht hn => L.x b o hb ht fun z => hn (.inr z), fun b o u hb _ => L.x b _ hb nt_frz fun z => ((kind b z).not hb).2.2.1 _ _ rfl, fun b xs hb => L.x b _ hb nt_tup fun z => ((kind b z).not hb).2.2.2 _ rfl, fun b o hb ht hn z => ?_, fun b c q hb => L.x b _ hb LamX.codeO_ne fun z => ((kind b z).not hb).2.1 _ _ rfl⟩
  rcases z with z | ⟨i, l, h1, h2, h3⟩
  · exact hn (.inl z)
  · rcases L.f i l b h1 h2 h3 with q | q
    · exact q.ne hb ht rfl
    · exact hn (.inr q)
end
end DL
end
section
set_option Elab.async false
set_option linter.all false
set_option maxRecDepth 100000
set_option autoImplicit false
namespace DL
open PySem PySem.Spec PyProof.Rows L2
variable [TbC]
variable {X : Cx} {W : WX} {e a b c : Expr} {es rest : List Expr} {f g h : Fn} {pos p : Pos}
/-- how a statement ends -/
inductive Re where
  | nx (ε : Ev) | rt (d : Dt) | ro (xs : List Dt) | bk (ε : Ev) | ct (ε : Ev)
abbrev Rs := Rz (Str × Ev) Re
abbrev Sg := Ev → Rs
def SOut (X : Cx) (F : Frm) (W : WX) (D : Ends) : Rs → Prop
  | .bad => False
  | .ex (c, ε) => ∃ C, X.mg c = some (.ref C) ∧ ∀ σ H, SOk X.K X.mg F σ H ε → W (.ref C) none σ H
  | .ok (.nx ε) => ∀ σ H, SOk X.K X.mg F σ H ε → D.nx σ H
  | .ok (.bk ε) => ∀ σ H, SOk X.K X.mg F σ H ε → D.bk σ H
  | .ok (.ct ε) => ∀ σ H, SOk X.K X.mg F σ H ε → D.ct σ H
  | .ok (.rt d) => ∀ v H, Xt F.M F.H0 H → Rep X.K X.mg H F.P0 d v → D.rt v H
  | .ok (.ro xs) => ∀ p vs H, Xt F.M F.H0 H → (Fresh F.H0 p ∨ F.M p) → ¬ F.P0 p → H p = some (.lst vs) → Reps X.K X.mg H (more F.P0 p) xs vs → D.rt (.ref p) H
def tS (X : Cx) (F : Frm) (W : WX) (g : Sg) : TS := fun D σ H => ∃ ε, SOk X.K X.mg F σ H ε ∧ SOut X F W D (g ε)
def SD (X : Cx) (W : WX) (st : Stmt) (g : Sg) : Prop := ∀ F, PS X st (tS X F W g)
def SDs (X : Cx) (W : WX) (st : List Stmt) (g : Sg) : Prop := ∀ F, PSs X st (tS X F W g)
/-- an expression's outcome within a statement -/
def exS {α : Type} (ε : Ev) : Rz Str α → Rz (Str × Ev) α
  | .bad => .bad
  | .ex c => .ex (c, ε)
  | .ok a => .ok a
section
variable {F : Frm} {D : Ends} {σ : St} {H H1 : Hp} {ε : Ev} {α : Type}
theorem SOut.exp {r : Rz Str α} {k : α → Rs} (S : SOk X.K X.mg F σ H ε) (q : SOut X F W D ((exS ε r).bind k)) : Out X W σ H r fun a => SOut X F W D (k a) := by
  cases r with
  | bad => exact q
  | ex c =>
    obtain ⟨C, h1, h2⟩ := q
    exact ⟨C, h1, fun H' e => h2 σ H' (S.ext e)⟩
  | ok a => exact q
end
def seqR (r : Rs) (g : Sg) : Rs := match r with
  | .ok (.nx ε) => g ε
  | r => r
def seqS (g h : Sg) : Sg := fun ε => seqR (g ε) h
theorem sd_nil : SDs X W [] fun ε => .ok (.nx ε) := fun F => pss_weak pss_nil fun D σ H ⟨ε, S, q⟩ => q σ H S
theorem sd_cons {st : Stmt} {sts : List Stmt} {g h : Sg} (h1 : SD X W st g) (h2 : SDs X W sts h) : SDs X W (st :: sts) (seqS g h) := fun F => pss_weak (pss_cons (h1 F) (h2 F)) fun D σ H ⟨ε, S, q⟩ => by
  refine ⟨ε, S, ?_⟩
  unfold seqS at q
  cases hg : g ε with
  | bad => rw [hg] at q; exact q
  | ex c => rw [hg] at q; exact q
  | ok r =>
    rw [hg] at q
    cases r with
    | nx ε' => exact fun σ' H' S' => ⟨ε', S', q⟩
    | rt d => exact q
    | ro d => exact q
    | bk d => exact q
    | ct d => exact q
theorem sd_one {st : Stmt} {g : Sg} (h1 : SD X W st g) : SDs X W [st] g := fun F => pss_one (h1 F)
theorem sd_pass : SD X W (.Pass pos) fun ε => .ok (.nx ε) := fun F => ps_weak ps_pass fun D σ H ⟨ε, S, q⟩ => q σ H S
theorem sd_break : SD X W (.Break pos) fun ε => .ok (.bk ε) := fun F => ps_weak ps_break fun D σ H ⟨ε, S, q⟩ => q σ H S
theorem sd_continue : SD X W (.Continue pos) fun ε => .ok (.ct ε) := fun F => ps_weak ps_continue fun D σ H ⟨ε, S, q⟩ => q σ H S
/-- an expression, its value dropped -/
def xpS (f : Fn) : Sg := fun ε => (exS ε (f ε)).bind fun _ => .ok (.nx ε)
theorem sd_expr (he : PD X W e f) (hs : swapsWith e none pos.line X.env = pure false := by rfl) : SD X W (.Expr e pos) (xpS f) := fun F => ps_weak (ps_expr he hs) fun D σ H ⟨ε, S, q⟩ =>
  ⟨_, ε, S.e, (q.exp S).mono fun d q v H' x r => q σ H' (S.ext x)⟩
def rtS (f : Fn) : Sg := fun ε => (exS ε (f ε)).bind fun d => .ok (.rt d)
theorem sd_ret (he : PD X W e f) : SD X W (.Return (some e) pos) (rtS f) := fun F => ps_weak (ps_ret he) fun D σ H ⟨ε, S, q⟩ =>
  ⟨_, ε, S.e, (q.exp S).mono fun d q v H' x r => q v H' (S.ext x).x (Rep.tr (Tr.less fun a z => .inl z) _ _ r)⟩
theorem sd_retN : SD X W (.Return none pos) fun _ => .ok (.rt .non) := fun F => ps_weak ps_retN fun D σ H ⟨ε, S, q⟩ => q _ H S.x rfl
/-- a list of one's own is handed back -/
def roS (f : Fs) : Sg := fun ε => (exS ε (f ε)).bind fun ds => .ok (.ro ds)
theorem sd_retO {f : Fs} (he : PN X W e f) : SD X W (.Return (some e) pos) (roS f) := fun F => ps_weak (ps_ret he) fun D σ H ⟨ε, S, q⟩ =>
  ⟨_, ε, S.e, (q.exp S).mono fun ds q p vs H' x hp hl r => q p vs H' (S.ext x).x (by
    by_cases hm : F.M p
    · exact .inr hm
    · exact .inl (S.x.fresh hp hm)) (fun z => S.e.ne hp (.inl z)) hl (Reps.tr (Tr.less fun a z => z.imp_left fun z => .inl z) _ _ r)⟩
def roV (i : Nat) : Sg := fun ε => match ε[i]? with
  | some (.o ds) => .ok (.ro ds)
  | _ => .bad
theorem sd_retV (i : Nat) {x : Str} (hN : X.N[i]? = some x := by rfl) (hv : Vis X.env.scope x := by first | exact Or.inl rfl | exact Or.inr (Or.inl rfl) | exact Or.inr (Or.inr rfl)) (hd : (x == ("__debug__" : Str)) = false := by decide)
    (hcd : (x == ("__classdict__" : Str)) = false := by decide) : SD X W (.Return (some (.Name x p)) pos) (roV i) := fun F => ps_weak (ps_ret (pe_var (i := i) hN hv hd hcd)) fun D σ H ⟨ε, S, q⟩ => by
  cases h : ε[i]? with
  | none => simp [roV, h, SOut] at q
  | some l =>
    cases l with
    | o ds =>
      simp only [roV, h, SOut] at q
      obtain ⟨a, vs, h1, h2, h3, r⟩ := S.slotO h
      exact ⟨.ref a, h1, q a vs H S.x (S.f i _ a h trivial h2) (S.n i ds a h h2) h3 (by
        have S2 := S.share h
        obtain ⟨v, q1, b, ws, q2, q3, q4, r2⟩ := S2.e.sl i _ (List.getElem?_set_self (List.getElem?_eq_some_iff.mp h).1)
        rw [h2] at q1
        cases q1
        cases q2
        rw [h3] at q3
        cases q3
        refine Reps.tr ⟨fun _ _ z _ _ => z, fun _ _ _ z _ => z, fun _ _ z => z, fun b' o hb ht n z => ?_, fun _ _ _ z => z⟩ _ _ r
        rcases z with z | z
        · exact n (.inl z)
        · rw [z] at n
          exact n (.inr ⟨i, _, h, trivial, h2⟩))⟩
    | _ => simp [roV, h, SOut] at q
/-- x = e -/
def stS (i : Nat) (f : Fn) : Sg := fun ε => (exS ε (f ε)).bind fun d => .ok (.nx (ε.set i (.d d)))
theorem sd_set {i : Nat} {x : Str} {pos' : Pos} (hN : X.N.Nodup) (he : PD X W e f) (hi : X.N[i]? = some x := by rfl) (hx : Loc X.env.scope x := by first | exact Or.inl rfl | exact Or.inr rfl) (hs : swapsWith e (some (.Name x pos')) pos.line X.env = pure false := by rfl) (hf : X.fn x = true ∨ X.env.scope.names.lookup x = some .local := by first | exact .inl rfl | exact .inr rfl | assumption) :
    SD X W (.Assign [.Name x pos'] e pos) (stS i f) := fun F => ps_weak (ps_set hN hi hx he hs hf) fun D σ H ⟨ε, S, q⟩ =>
  ⟨_, ε, S.e, (q.exp S).mono fun d q v H' x r => q _ H' ((S.ext x).set r i)⟩
/-- x = e, e a new list -/
def stO (i : Nat) (f : Fs) : Sg := fun ε => (exS ε (f ε)).bind fun ds => .ok (.nx (ε.set i (.o ds)))
theorem sd_setO {i : Nat} {x : Str} {pos' : Pos} {f : Fs} (hN : X.N.Nodup) (he : PN X W e f) (hi : X.N[i]? = some x := by rfl) (hx : Loc X.env.scope x := by first | exact Or.inl rfl | exact Or.inr rfl) (hs : swapsWith e (some (.Name x pos')) pos.line X.env = pure false := by rfl) (hf : X.fn x = true ∨ X.env.scope.names.lookup x = some .local := by first | exact .inl rfl | exact .inr rfl | assumption) :
    SD X W (.Assign [.Name x pos'] e pos) (stO i f) := fun F => ps_weak (ps_set hN hi hx he hs hf) fun D σ H ⟨ε, S, q⟩ =>
  ⟨_, ε, S.e, (q.exp S).mono fun ds q p vs H' x hp hl r => q _ H' (S.own x hp hl r i)⟩
/-- y = [..] on one line -/
theorem sd_setLc {i : Nat} {y : Str} {py spos : Pos} {elt tg iter : Expr} {ifs : List Expr} {scope : Scope} {own : List (Str × Nat)} {js : List Nat} {it : Fs} {set : Sf} {test : Tf} {k : Fn} (hc : X.calm = true) (hN : X.N.Nodup) (hy : X.N[i]? = some y) (hyl : X.env.scope.names.lookup y = some .local)
    (hsw : swapsWith (.ListComp elt [⟨tg, iter, ifs, 0⟩] scope pos) (some (.Name y py)) spos.line X.env = pure true) (hi : ID X W tg iter it) (ok : BlkOk X.N X.env.scope scope own)
    (hg : ∀ (s : Shared) (H : Hp) (C : Addr) (cl : List (Str × Addr)) (fp : List Addr), GD (X.blk s H scope (compEnvC scope cl C X.env) fp) tg js set) (ht : ∀ (s : Shared) (H : Hp) (C : Addr) (cl : List (Str × Addr)) (fp : List Addr), TDs (X.blk s H scope (compEnvC scope cl C X.env) fp) W0 ifs test)
    (he : ∀ (s : Shared) (H : Hp) (C : Addr) (cl : List (Str × Addr)) (fp : List Addr), PD (X.blk s H scope (compEnvC scope cl C X.env) fp) W0 elt k) (hj : ∀ j ∈ js, j ∈ own.map (·.2) := by decide) (hs : ∀ x, foldedSetIterable iter X.env x = pure x := by intro _; rfl) :
    SD X W (.Assign [.Name y py] (.ListComp elt [⟨tg, iter, ifs, 0⟩] scope pos) spos) (stO i (lcF it (own.map (·.2)) set test k)) := fun F =>
  ps_weak (ps_setLc (g := gD X js set) (tt := tT X W0 test) (te := tD X W0 k) hc hN hy hyl hsw hi ok (fun s H C cl fp => (hg s H C cl fp).run) ht he hs) fun D σ H ⟨ε, S, q⟩ =>
    lc_of (hg X.s_0 X.H_0 0 [] []).ok hj ⟨_, ε, S.e, (q.exp S).mono fun ds q p vs H' x hp hl r => q _ H' (S.own x hp hl r i)⟩
/-- targets = e -/
def asS (f : Fn) (set : Sf) : Sg := fun ε => (exS ε (f ε)).bind fun d => (exS ε (.ofO (set d ε))).bind fun ε' => .ok (.nx ε')
theorem sd_asg {tg : Expr} {js : List Nat} {set : Sf} (he : PD X W e f) (hg : GD X tg js set) (hs : swapsWithSole [tg] e pos.line X.env = pure false := by rfl) (hw : swappedStores [tg] e X.env = pure none := by rfl)
    (h1 : (assignEach [tg] X.env).map (·.2) = [assign tg X.env] := by rfl) : SD X W (.Assign [tg] e pos) (asS f set) := fun F => ps_weak (ps_asg he hg.run hs hw h1) fun D σ H ⟨ε, S, q⟩ =>
  ⟨_, ε, S.e, (q.exp S).mono fun d q v H' x r => by
    have S' := S.ext x
    cases hs : set d ε with
    | none => rw [hs] at q; exact q.elim
    | some ε' =>
      rw [hs] at q
      exact ⟨_, ε, d, ε', S'.e, r, hs, fun σ' E' sb => q σ' H' (S'.tgt hg.ok hs E' sb)⟩⟩
/-- a, b = x, y -/
def prS (i j : Nat) (fs : Fs) : Sg := fun ε => (exS ε (fs ε)).bind fun ds => match ds with
  | [x, y] => .ok (.nx ((ε.set i (.d x)).set j (.d y)))
  | _ => .bad
theorem sd_par {i j : Nat} {x y : Str} {px py pt : Pos} {kt : Nat} {k2 : Nat} {pt2 : Pos} {fs : Fs} (hc : X.calm = true) (hN : X.N.Nodup) (hi : X.N[i]? = some x) (hj : X.N[j]? = some y) (hij : i ≠ j)
    (hx : X.env.scope.names.lookup x = some .local) (hy : X.env.scope.names.lookup y = some .local) (ha : AD X W [a, b] fs)
    (hw : swappedStores [.Tuple [.Name x px, .Name y py] kt pt] (.Tuple [a, b] k2 pt2) X.env = pure (some [x, y]) := by rfl)
    (hs : swapsWithSole [.Tuple [.Name x px, .Name y py] kt pt] (.Tuple [a, b] k2 pt2) pos.line X.env = pure false := by rfl) :
    SD X W (.Assign [.Tuple [.Name x px, .Name y py] kt pt] (.Tuple [a, b] k2 pt2) pos) (prS i j fs) := fun F => ps_weak (ps_par hc hN hi hj hij hx hy ha hw hs) fun D σ H ⟨ε, S, q⟩ =>
  ⟨_, ε, S.e, (q.exp S).mono fun ds q vs H' x r => by
    match ds, q, r with
    | [x, y], q, ⟨v, _, e1, r1, w, _, e2, r2, e3⟩ =>
      cases e3
      cases e2
      cases e1
      have S' := S.ext (by assumption)
      have S1 := S'.set r1 i
      refine ⟨v, w, rfl, q _ H' (S1.set (Rep.tr (Tr.less fun a z => z.imp_right fun ⟨k, l, h1, h2, h3⟩ => ?_) _ _ r2) j)⟩
      by_cases hk : i = k
      · subst hk
        by_cases hi : i < ε.length
        · rw [List.getElem?_set_self hi] at h1; cases h1; exact h2.elim
        · rw [List.getElem?_eq_none (by rw [List.length_set]; omega)] at h1; cases h1
      · rw [List.getElem?_set_ne hk] at h1 h3
        exact ⟨k, l, h1, h2, h3⟩
    | [], q, _ => exact q.elim
    | [_], q, _ => exact q.elim
    | _ :: _ :: _ :: _, q, _ => exact q.elim⟩
def ifS (t : Tf) (g h : Sg) : Sg := fun ε => (exS ε (t ε)).bind fun b => if b = true then g ε else h ε
theorem sd_if {t : Tf} {g h : Sg} {as bs : List Stmt} (hc : TD X W c t) (ha : SDs X W as g) (hb : SDs X W bs h) : SD X W (.If c as bs pos) (ifS t g h) := fun F => ps_weak (ps_if hc (ha F) (hb F)) fun D σ H ⟨ε, S, q⟩ =>
  ⟨_, ε, S.e, (q.exp S).mono fun b q H' x => by
    cases b with
    | true => exact ⟨ε, S.ext x, q⟩
    | false => exact ⟨ε, S.ext x, q⟩⟩
/-- a list of one's own becomes data from here on -/
def shS (i : Nat) (g : Sg) : Sg := fun ε => match ε[i]? with
  | some (.o ds) => g (ε.set i (.d (.lst ds)))
  | _ => .bad
theorem sd_share {i : Nat} {sts : List Stmt} {g : Sg} (h : SDs X W sts g) : SDs X W sts (shS i g) := fun F => pss_weak (h F) fun D σ H ⟨ε, S, q⟩ => by
  unfold shS at q
  cases hl : ε[i]? with
  | none => rw [hl] at q; exact q.elim
  | some l =>
    rw [hl] at q
    cases l with
    | o ds => exact ⟨_, S.share hl, q⟩
    | u => exact q.elim
    | d _ => exact q.elim
    | i _ _ _ _ => exact q.elim
    | m _ => exact q.elim
    | mf _ => exact q.elim
/-! ### loops -/
def afterB (r : Rs) (k : Sg) : Rs := match r with
  | .ok (.nx ε) => k ε
  | .ok (.ct ε) => k ε
  | .ok (.bk ε) => .ok (.nx ε)
  | r => r
def forGo (set : Sf) (body : Sg) : List Dt → Sg
  | [], ε => .ok (.nx ε)
  | x :: xs, ε => match set x ε with
    | none => .bad
    | some ε1 => afterB (body ε1) (forGo set body xs)
def forS (it : Fs) (set : Sf) (body : Sg) : Sg := fun ε => (exS ε (it ε)).bind fun xs => forGo set body xs ε
theorem sd_for {tg iter : Expr} {body : List Stmt} {js : List Nat} {it : Fs} {set : Sf} {g : Sg} (hp : PassesOwn (model X.prog X.w) X.A X.env X.xe) (hc : X.calm = true) (hi : IS X W tg iter it) (hg : GD X tg js set) (hb : SDs X W body g)
    (hs : ∀ x, foldedSetIterable iter X.env x = pure x := by intro _; rfl) : SD X W (.For tg iter body [] pos) (forS it set g) := by
  intro F
  -- the body serves every frame: the loop's is chosen at its start
  refine ⟨fun pins s σ H D I ⟨ε, S, q⟩ => ?_⟩
  have hL : ∀ (H1 : Hp), Ext H H1 → True := fun _ _ => trivial
  refine wpAny_mono ((ps_for (g := gD X js set) (tb := fun D' σ' H' => ∃ F', tS X F' W g D' σ' H') hp hc hi hg.run ⟨fun pins s σ' H' D' I' ⟨F', q'⟩ => (hb F').run pins s σ' H' D' I' q'⟩ hs).run pins s σ H D I ?_) (fun _ _ z => z) fun _ _ z => z
  refine ⟨_, ε, S.e, (q.exp S).mono fun ds q J H1 x io => ?_⟩
  have S1 := S.ext x
  refine ⟨fun i m σ2 H2 => m = ds.length - i ∧ i ≤ ds.length ∧ ∃ ε2, SOk X.K X.mg (F.loop H1 σ ε) σ2 H2 ε2 ∧ SOut X F W D (forGo set g (ds.drop i) ε2), ⟨ds.length, by simp, Nat.zero_le _, ε, S1.loop, by rw [List.drop_zero]; exact q⟩, ?_⟩
  rintro i m σ2 H2 ⟨rfl, hi, ε2, L, q⟩
  have k2 := S1.kept L
  have kk : Tr (prv F σ ε) (prv F σ ε) H1 H2 := ⟨k2.keep, k2.frz, k2.tup, fun _ _ _ _ n => n, k2.cd⟩
  by_cases hlt : i < ds.length
  · have hd : ds[i]? = some ds[i] := List.getElem?_eq_getElem hlt
    obtain ⟨g1, g2⟩ := io.go i H2 _ kk hd
    rw [take_one hd] at q
    refine .inr ⟨g1, fun σ3 H3 => i + 1 ≤ ds.length ∧ ∃ ε3, SOk X.K X.mg (F.loop H1 σ ε) σ3 H3 ε3 ∧ SOut X F W D (forGo set g (ds.drop (i + 1)) ε3), fun σ3 H3 z => ⟨ds.length - (i + 1), by omega, rfl, z⟩, fun y H3 hy => ?_⟩
    obtain ⟨rfl, ry⟩ := g2 y H3 hy
    unfold forGo at q
    cases h1 : set ds[i] ε2 with
    | none => rw [h1] at q; exact q.elim
    | some ε3 =>
      have q : SOut X F W D (afterB (g ε3) (forGo set g (ds.drop (i + 1)))) := by rw [h1] at q; exact q
      refine ⟨_, ε2, ds[i], ε3, L.e, Rep.tr k2 _ _ ry, h1, fun σ3 E3 sb => ⟨F.loop H1 σ ε, ε3, L.tgt hg.ok h1 E3 sb, ?_⟩⟩
      cases hr : g ε3 with
      | bad => rw [hr] at q; exact q
      | ex ce =>
        rw [hr] at q
        obtain ⟨c, ε4⟩ := ce
        obtain ⟨C, q1, q2⟩ := q
        exact ⟨C, q1, fun σ4 H4 L4 => q2 σ4 H4 (S1.back L4)⟩
      | ok r =>
        rw [hr] at q
        cases r with
        | nx ε4 => exact fun σ4 H4 L4 => ⟨hlt, ε4, L4, q⟩
        | ct ε4 => exact fun σ4 H4 L4 => ⟨hlt, ε4, L4, q⟩
        | bk ε4 => exact fun σ4 H4 L4 => q σ4 H4 (S1.back L4)
        | rt d => exact fun v H4 x4 r4 => q v H4 (S1.backX x4) r4
        | ro xs => exact fun p vs H4 x4 fr np hl r4 => q p vs H4 (S1.backX x4) (S1.backF fr) np hl r4
  · have ei : i = ds.length := by omega
    subst ei
    rw [List.drop_length] at q
    exact .inl ⟨io.stop _ H2 kk (Nat.le_refl _), q σ2 H2 (S1.back L)⟩
/-! while -/
def whT (t : Tf) (b k : Sg) : Sg := fun ε => (exS ε (t ε)).bind fun q => if q = true then afterB (b ε) k else .ok (.nx ε)
def whN (t : Tf) (b : Sg) : Nat → Sg
  | 0 => fun _ => .bad
  | n + 1 => whT t b (whN t b n)
theorem whT_of {t : Tf} {b k k' : Sg} {ε : Ev} (h : ∀ ε, k ε ≠ .bad → k' ε = k ε) (hr : whT t b k ε ≠ .bad) : whT t b k' ε = whT t b k ε := by
  cases hk : t ε with
  | bad => simp only [whT, hk, exS, Rz.bind]
  | ex c => simp only [whT, hk, exS, Rz.bind]
  | ok q =>
    cases q with
    | false => simp only [whT, hk, exS, Rz.bind, Bool.false_eq_true, if_false]
    | true =>
      simp only [whT, hk, exS, Rz.bind, if_true] at hr ⊢
      cases hb : b ε with
      | bad => rfl
      | ex c => rfl
      | ok q =>
        rw [hb] at hr
        cases q with
        | nx ε' => exact h ε' hr
        | ct ε' => exact h ε' hr
        | bk ε' => rfl
        | rt d => rfl
        | ro d => rfl
theorem whN_more (t : Tf) (b : Sg) : ∀ (n : Nat) (ε : Ev), whN t b n ε ≠ .bad → whN t b (n + 1) ε = whN t b n ε
  | 0, ε, hr => absurd rfl hr
  | n + 1, ε, hr => whT_of (fun ε' h => whN_more t b n ε' h) hr
theorem whN_le (t : Tf) (b : Sg) {n m : Nat} (hl : n ≤ m) {ε : Ev} (hr : whN t b n ε ≠ .bad) : whN t b m ε = whN t b n ε := by
  induction hl with
  | refl => rfl
  | step _ ih => rw [whN_more t b _ ε (by rw [ih]; exact hr), ih]
open Classical in
noncomputable def whS (t : Tf) (b : Sg) : Sg := fun ε => if h : ∃ n, whN t b n ε ≠ .bad then whN t b (choose h) ε else .bad
theorem whS_eq {t : Tf} {b : Sg} {n : Nat} {ε : Ev} (hr : whN t b n ε ≠ .bad) : whS t b ε = whN t b n ε := by
  have hx : ∃ n, whN t b n ε ≠ .bad := ⟨n, hr⟩
  unfold whS
  rw [dif_pos hx]
  have hc := Classical.choose_spec hx
  rcases Nat.le_total n (Classical.choose hx) with z | z
  · exact whN_le t b z hr
  · exact (whN_le t b z hc).symm
theorem whS_some {t : Tf} {b : Sg} {ε : Ev} (h : whS t b ε ≠ .bad) : ∃ n, whS t b ε = whN t b n ε := by
  by_cases hx : ∃ n, whN t b n ε ≠ .bad
  · exact ⟨_, by unfold whS; rw [dif_pos hx]⟩
  · exact absurd (by unfold whS; rw [dif_neg hx]) h
/-- the loop's own equation -/
theorem whS_step (t : Tf) (b : Sg) (ε : Ev) : whS t b ε = whT t b (whS t b) ε := by
  have key : ∀ n, whT t b (whN t b n) ε ≠ .bad → whT t b (whS t b) ε = whT t b (whN t b n) ε := fun n hn => whT_of (fun ε' h => whS_eq h) hn
  by_cases h : whS t b ε = .bad
  · rw [h]
    cases hk : t ε with
    | bad => simp only [whT, hk, exS, Rz.bind]
    | ex c => exact absurd (whS_eq (n := 1) (t := t) (b := b) (ε := ε) (by simp only [whN, whT, hk, exS, Rz.bind]; simp)) (by rw [h]; simp only [whN, whT, hk, exS, Rz.bind]; simp)
    | ok k =>
      cases k with
      | false => exact absurd (whS_eq (n := 1) (t := t) (b := b) (ε := ε) (by simp only [whN, whT, hk, exS, Rz.bind]; simp)) (by rw [h]; simp only [whN, whT, hk, exS, Rz.bind]; simp)
      | true =>
        have e1 : ∀ k, whT t b k ε = afterB (b ε) k := fun k => by simp only [whT, hk, exS, Rz.bind, if_true]
        rw [e1]
        have e2 : ∀ n, whN t b (n + 1) ε = afterB (b ε) (whN t b n) := fun n => e1 _
        have e3 : ∀ n, afterB (b ε) (whN t b n) = .bad := fun n => by
          by_cases z : whN t b (n + 1) ε = .bad
          · rw [← e2, z]
          · exact absurd ((whS_eq z).symm.trans h) z
        cases hb : b ε with
        | bad => rfl
        | ex c => have z := e3 0; rw [hb] at z; cases z
        | ok q =>
          have sub : ∀ ε', (∀ n, whN t b n ε' = .bad) → Rz.bad = whS t b ε' := fun ε' hs => by
            by_cases h' : whS t b ε' = .bad
            · exact h'.symm
            · obtain ⟨n, hn⟩ := whS_some h'
              rw [hn, hs n]
          cases q with
          | nx ε' => exact sub ε' fun n => by have z := e3 n; rw [hb] at z; exact z
          | ct ε' => exact sub ε' fun n => by have z := e3 n; rw [hb] at z; exact z
          | bk ε' => have z := e3 0; rw [hb] at z; cases z
          | rt d => have z := e3 0; rw [hb] at z; cases z
          | ro d => have z := e3 0; rw [hb] at z; cases z
  · obtain ⟨n, hn⟩ := whS_some h
    cases n with
    | zero => exact absurd hn h
    | succ n =>
      rw [hn]
      rw [hn] at h
      exact (key n h).symm
theorem sd_while {body : List Stmt} {t : Tf} {g : Sg} (hp : PassesOwn (model X.prog X.w) X.A X.env X.xe) (hc : TD X W c t) (hb : SDs X W body g) : SD X W (.While c body [] pos) (whS t g) := fun F => ps_weak (ps_while hp hc (hb F)) fun D σ H ⟨ε, S, q⟩ => by
  obtain ⟨n, hn⟩ : ∃ n, whS t g ε = whN t g n ε := whS_some fun z => by rw [z] at q; exact q
  rw [hn] at q
  refine ⟨fun m σ H => ∃ ε, SOk X.K X.mg F σ H ε ∧ SOut X F W D (whN t g m ε), ⟨n, ε, S, q⟩, ?_⟩
  rintro m σ2 H2 ⟨ε2, S2, q⟩
  cases m with
  | zero => exact q.elim
  | succ m =>
    have q : SOut X F W D ((exS ε2 (t ε2)).bind fun q => if q = true then afterB (g ε2) (whN t g m) else .ok (.nx ε2)) := q
    refine ⟨_, ε2, S2.e, (q.exp S2).mono fun k q H3 x => ?_⟩
    have S3 := S2.ext x
    cases k with
    | false => exact q σ2 H3 S3
    | true =>
      have q : SOut X F W D (afterB (g ε2) (whN t g m)) := q
      refine iteT ?_
      refine ⟨fun σ' H' => ∃ ε, SOk X.K X.mg F σ' H' ε ∧ SOut X F W D (whN t g m ε), fun σ' H' z => ⟨m, Nat.lt_succ_self _, z⟩, ε2, S3, ?_⟩
      cases hr : g ε2 with
      | bad => rw [hr] at q; exact q
      | ex ce => rw [hr] at q; exact q
      | ok r =>
        rw [hr] at q
        cases r with
        | nx ε4 => exact fun σ4 H4 L4 => ⟨ε4, L4, q⟩
        | ct ε4 => exact fun σ4 H4 L4 => ⟨ε4, L4, q⟩
        | bk ε4 => exact q
        | rt d => exact q
        | ro xs => exact q
end DL
end
section
set_option Elab.async false
set_option linter.all false
set_option maxRecDepth 100000
set_option autoImplicit false
namespace DL
open PySem PySem.Spec PyProof.Rows L2
variable [TbC]
variable {X : Cx} {W : WX} {e a b c : Expr} {es rest : List Expr} {f g h : Fn} {pos p : Pos}
/-! ### defs -/
/-- what a def hands back: data, or a new list -/
inductive Oc where
  | va (d : Dt) | ow (xs : List Dt)
abbrev Fd := List Dt → Rz Str Oc
def Oc.dt : Oc → Dt
  | .va d => d
  | .ow xs => .lst xs
def OOut (K : PySem.W.Frag) (mg : Mg) (P : Pv) (H : Hp) (Q : VK) (E : XK) : Rz Str Oc → Prop
  | .bad => False
  | .ex c => ∃ C, mg c = some (.ref C) ∧ ∀ H', Ext H H' → E (.ref C) none H'
  | .ok (.va d) => ∀ v H', Ext H H' → Rep K mg H' P d v → Q v H'
  | .ok (.ow xs) => ∀ p vs H', Ext H H' → Fresh H p → H' p = some (.lst vs) → Reps K mg H' (more P p) xs vs → Q (.ref p) H'
/-- a def's promise by its function on data -/
def spD (K : PySem.W.Frag) (mg : Mg) (n : Nat) (G : Fd) : Sp := fun vs H Q E => ∃ P ds, ds.length = n ∧ (∀ a, P a → ∃ o, H a = some o ∧ ∀ ps, o ≠ .tbl ps) ∧ LamX.Tabs (TbC.T) H ∧ Reps K mg H P ds vs ∧ OOut K mg P H Q E (G ds)
def startE (n : Nat) (ds : List Dt) : Ev := ds.map .d ++ List.replicate (n - ds.length) .u
def bodyR : Rs → Rz Str Oc
  | .bad => .bad
  | .ex (c, _) => .ex c
  | .ok (.nx _) => .ok (.va .non)
  | .ok (.rt d) => .ok (.va d)
  | .ok (.ro xs) => .ok (.ow xs)
  | .ok (.bk _) => .bad
  | .ok (.ct _) => .bad
def bodyF (n : Nat) (g : Sg) : Fd := fun ds => bodyR (g (startE n ds))
theorem sok_start {K : PySem.W.Frag} {mg : Mg} {N : List Str} {P : Pv} {H : Hp} {ds : List Dt} {vs : List V} (hp : ∀ a, P a → ∃ o, H a = some o ∧ ∀ ps, o ≠ .tbl ps) (ht : LamX.Tabs (TbC.T) H) (r : Reps K mg H P ds vs) : SOk K mg ⟨H, P, no⟩ (L2.start N vs) H (startE N.length ds) := by
  have no_own : ∀ (i : Nat) (l : Lc), (startE N.length ds)[i]? = some l → ¬ l.isO := fun i l h o => by
    unfold startE at h
    rw [List.getElem?_append] at h
    split at h
    · rw [List.getElem?_map] at h
      cases q : ds[i]? with
      | none => rw [q] at h; cases h
      | some d => rw [q] at h; cases h; exact o
    · rw [List.getElem?_replicate] at h
      split at h
      · cases h; exact o
      · cases h
  have ow : ∀ a, ¬ ownA (L2.start N vs) (startE N.length ds) a := fun a ⟨i, l, h1, h2, _⟩ => no_own i l h1 h2
  have pp : ∀ a, prv ⟨H, P, no⟩ (L2.start N vs) (startE N.length ds) a → P a := fun a z => z.elim (fun z => z) fun z => (ow a z).elim
  refine ⟨⟨?_, fun a h => hp a (pp a h), fun i l h => ?_, ht⟩, Xt.refl, hp, fun i l a h1 h2 _ => (no_own i l h1 h2).elim, fun i xs a h1 _ => (no_own i _ h1 trivial).elim, fun i j l l' a _ h1 h2 _ _ _ => (no_own i l h1 h2).elim⟩
  · unfold startE L2.start
    rw [List.length_append, List.length_append, List.length_map, List.length_map, List.length_replicate, List.length_replicate, r.length]
  · unfold startE at h
    rw [List.getElem?_append] at h
    split at h
    · rename_i hi
      rw [List.getElem?_map] at h
      cases q : ds[i]? with
      | none => rw [q] at h; cases h
      | some d =>
        rw [q] at h
        cases h
        obtain ⟨v, h1, h2⟩ := r.get q
        refine ⟨v, ?_, Rep.tr (Tr.less pp) _ _ h2⟩
        have hv : i < vs.length := (List.getElem?_eq_some_iff.mp h1).1
        unfold L2.start
        rw [List.getElem?_append_left (by simpa using hv), List.getElem?_map, h1]
        rfl
    · rw [List.getElem?_replicate] at h
      split at h
      · cases h; trivial
      · cases h
section
variable {P : Program} {w : World} {K : PySem.W.Frag} {mg : Str → Option Value} {base : Heap}
/-- the wish of a def's body -/
abbrev wE (E : XK) : WX := fun cls d _ H => E cls d H
theorem fn_D {x qual : Str} {st : Stmt} {fa : Addr} {fd : FuncData} {N ps : List Str} {k : Nat} {g : Sg} (F : Fun K x qual st fa fd) (S : FnScope N ps (defScope st))
    (hbody : ∀ (cdv : Value) (A : Around) (outer : List Env) (s : Shared) (H : Hp) (E : XK), Room k (A.deeper (envOfC qual (defScope st) s.heap.objs.size fa cdv)) →
      SDs (cxOf (L2.CX P w) P w K mg base N qual (defScope st) fa cdv A outer s H E) (wE E) (defBody st) g) : FnOk P w K mg base (L2.CX P w) (k + 1) fa fd ps (spD K mg ps.length (bodyF N.length g)) := by
  refine F.okX S (fun vs H Q E ⟨_, _, hn, _, _, r, _⟩ => by rw [← r.length]; exact hn) (fun cdv A outer s H vs Q E hr h => ?_)
  obtain ⟨P', ds, hl, hp, ht, r, q⟩ := h
  refine ⟨_, hbody cdv A outer s H E hr ⟨H, P', no⟩, startE N.length ds, sok_start hp ht r, ?_⟩
  unfold bodyF at q
  cases hg : g (startE N.length ds) with
  | bad => rw [hg] at q; exact q
  | ex ce =>
    obtain ⟨c, ε⟩ := ce
    rw [hg] at q
    obtain ⟨C, h1, h2⟩ := q
    exact ⟨C, h1, fun σ H' S' => h2 H' S'.x⟩
  | ok re =>
    rw [hg] at q
    cases re with
    | nx ε => exact fun σ H' S' => q .non H' S'.x rfl
    | rt d => exact fun v H' x rv => q v H' x rv
    | ro xs => exact fun p vs H' x fr np hl rv => q p vs H' x (fr.resolve_right fun z => z) hl rv
    | bk ε => exact q.elim
    | ct ε => exact q.elim
end
/-! ### calls -/
def callF (n : Nat) (G : Fd) (fs : Fs) : Fn := fun ε => (fs ε).bind fun ds => if ds.length = n then (G ds).bind fun o => .ok o.dt else .bad
def callN (n : Nat) (G : Fd) (fs : Fs) : Fs := fun ε => (fs ε).bind fun ds => if ds.length = n then (G ds).bind fun o => match o with
  | .ow xs => .ok xs
  | .va _ => .bad else .bad
theorem OOut.toD {P : Pv} {σ : St} {H H1 : Hp} {Q : VK} {ε : Ev} {r : Rz Str Oc} (E : EOk X.K X.mg P σ H ε) (e : Ext H H1) (q : Out X W σ H (r.bind fun o => .ok o.dt) fun d => ∀ v H', Ext H H' → Rep X.K X.mg H' P d v → Q v H') : OOut X.K X.mg P H1 Q (WE W σ) r := by
  cases r with
  | bad => exact q
  | ex c => obtain ⟨C, h1, h2⟩ := q; exact ⟨C, h1, fun H' x => h2 H' (e.trans x)⟩
  | ok o =>
    cases o with
    | va d => exact fun v H' x rv => q v H' (e.trans x) rv
    | ow xs => exact fun p vs H' x fr hl rv => q (.ref p) H' (e.trans x) ⟨p, vs, rfl, hl, E.ne (e.fresh fr), Reps.tr (Tr.less fun a z => .inl z) _ _ rv⟩
theorem OOut.toN {P : Pv} {σ : St} {H H1 : Hp} {Q : VK} {r : Rz Str Oc} (e : Ext H H1) (q : Out X W σ H (r.bind fun o => match o with | .ow xs => .ok xs | .va _ => .bad) fun ds => ∀ p vs H', Ext H H' → Fresh H p → H' p = some (.lst vs) → Reps X.K X.mg H' (more P p) ds vs → Q (.ref p) H') : OOut X.K X.mg P H1 Q (WE W σ) r := by
  cases r with
  | bad => exact q
  | ex c => obtain ⟨C, h1, h2⟩ := q; exact ⟨C, h1, fun H' x => h2 H' (e.trans x)⟩
  | ok o =>
    cases o with
    | va d => exact q.elim
    | ow xs => exact fun p vs H' x fr hl rv => q p vs H' (e.trans x) (e.fresh fr) hl rv
section
variable {k : Nat} {fa C : Addr} {fd : FuncData} {ps : List Str} {x m : Str} {fs : Fs} {G : Fd} {n : Nat} {o : Expr} {apos : Pos}
theorem sp_of {P : Pv} {σ : St} {H H1 : Hp} {Q : VK} {ε : Ev} {ds : List Dt} {vs : List V} (E : EOk X.K X.mg P σ H ε) (e : Ext H H1) (r : Reps X.K X.mg H1 P ds vs) (q : Out X W σ H (if ds.length = n then (G ds).bind fun o => .ok o.dt else .bad) fun d => ∀ v H', Ext H H' → Rep X.K X.mg H' P d v → Q v H') :
    spD X.K X.mg n G vs H1 Q (WE W σ) := by
  by_cases z : ds.length = n
  · rw [if_pos z] at q
    exact ⟨P, ds, z, (E.ext e).tk, (E.ext e).tb, r, OOut.toD E e q⟩
  · rw [if_neg z] at q
    exact q.elim
theorem spN_of {P : Pv} {σ : St} {H H1 : Hp} {Q : VK} {ε : Ev} {ds : List Dt} {vs : List V} (E : EOk X.K X.mg P σ H ε) (e : Ext H H1) (r : Reps X.K X.mg H1 P ds vs) (q : Out X W σ H (if ds.length = n then (G ds).bind fun o => match o with | .ow xs => .ok xs | .va _ => .bad else .bad) fun ds => ∀ p vs H', Ext H H' → Fresh H p → H' p = some (.lst vs) → Reps X.K X.mg H' (more P p) ds vs → Q (.ref p) H') :
    spD X.K X.mg n G vs H1 Q (WE W σ) := by
  by_cases z : ds.length = n
  · rw [if_pos z] at q
    exact ⟨P, ds, z, (E.ext e).tk, (E.ext e).tb, r, OOut.toN e q⟩
  · rw [if_neg z] at q
    exact q.elim
theorem pd_call (Fk : FnOk X.prog X.w X.K X.mg X.base (L2.CX X.prog X.w) k fa fd ps (spD X.K X.mg n G)) (hr : Room k X.A) (hm : X.mg x = some (.ref fa)) (hk : PySem.W.keepIn X.K (.ref fa) = true) (hb : L2.Binds X.K fd ps []) (tk : Takes X W)
    (ha : AD X W (e :: es) fs) (hg : Gl X x := by rfl) (hdb : (x == ("__debug__" : Str)) = false := by decide) (he : starEach (e :: es) X.env = (false, eval e X.env) :: starEach es X.env := by rfl) (hpl : (backTo pos (starEach es X.env)).any (·.1) = false := by rfl) :
    PD X W (.Call (.Name x p) (e :: es) [] pos) (callF n G fs) := pe_weak (pe_callS Fk hr hg hm hk hb (fun σ => passAt tk σ) ha hdb he hpl) fun σ H Q ⟨P, ε, E, q⟩ =>
  ⟨P, ε, E, q.bind.mono fun ds q vs H1 e1 r => sp_of E e1 r q⟩
theorem pn_call (Fk : FnOk X.prog X.w X.K X.mg X.base (L2.CX X.prog X.w) k fa fd ps (spD X.K X.mg n G)) (hr : Room k X.A) (hm : X.mg x = some (.ref fa)) (hk : PySem.W.keepIn X.K (.ref fa) = true) (hb : L2.Binds X.K fd ps []) (tk : Takes X W)
    (ha : AD X W (e :: es) fs) (hg : Gl X x := by rfl) (hdb : (x == ("__debug__" : Str)) = false := by decide) (he : starEach (e :: es) X.env = (false, eval e X.env) :: starEach es X.env := by rfl) (hpl : (backTo pos (starEach es X.env)).any (·.1) = false := by rfl) :
    PN X W (.Call (.Name x p) (e :: es) [] pos) (callN n G fs) := pe_weak (pe_callS Fk hr hg hm hk hb (fun σ => passAt tk σ) ha hdb he hpl) fun σ H Q ⟨P, ε, E, q⟩ =>
  ⟨P, ε, E, q.bind.mono fun ds q vs H1 e1 r => spN_of E e1 r q⟩
/-! a module's constants -/
theorem pd_glob {x : Str} {d : Dt} {v : V} {u : Value} (hm : X.mg x = some u) (r : RelV v u) (hd : ∀ H P, Rep X.K X.mg H P d v) (hg : Gl X x := by rfl) (hdb : (x == ("__debug__" : Str)) = false := by decide) : PD X W (.Name x pos) (kc d) :=
  pe_weak (pe_glob hg hm r hdb) fun σ H Q ⟨P, ε, E, q⟩ => q v H Ext.refl (hd H P)
end
end DL
end
section
set_option Elab.async false
set_option linter.all false
set_option maxRecDepth 100000
set_option autoImplicit false
namespace DL
open PySem PySem.Spec PyProof.Rows L2
variable [TbC]
variable {X : Cx} {W : WX} {e a b c : Expr} {es rest : List Expr} {f g h : Fn} {pos p : Pos}
/-! ### minus -/
def negD : Dt → Option Dt
  | .int i => some (.int (-i))
  | _ => none
theorem dNeg (ha : PB X W a f) : PD X W (.UnaryOp .USub a pos) (un negD f) := pe_weak (pe_un un_neg ha) fun σ H Q ⟨P, ε, E, q⟩ =>
  ⟨P, ε, E, q.bind.mono fun d q v H1 e r => by
    obtain ⟨d', h1, q⟩ := q.ofO
    cases d with
    | int i => cases h1; exact ⟨i, r, q _ H1 e rfl⟩
    | _ => cases h1⟩
/-! ### slices -/
def cutG {α : Type} (xs : List α) (lo hi : Option Int) : List α := (xs.drop (HT.sIx xs.length 0 lo)).take (HT.sIx xs.length xs.length hi - HT.sIx xs.length 0 lo)
theorem Reps.cut {K : PySem.W.Frag} {mg : Mg} {H : Hp} {P : Pv} {ds : List Dt} {vs : List V} (r : Reps K mg H P ds vs) (lo hi : Option Int) : Reps K mg H P (cutG ds lo hi) (cutV vs lo hi) := by
  unfold cutG cutV
  rw [r.length]
  exact (r.drop _).take _
abbrev Pf := Ev → Rz Str (Option Int)
def tPo (X : Cx) (W : WX) (k : Pf) : TO := fun σ H Q => ∃ P ε, EOk X.K X.mg P σ H ε ∧ Out X W σ H (k ε) fun o => ∀ H', Ext H H' → Q o H'
def PoD (X : Cx) (W : WX) (e : Option Expr) (k : Pf) : Prop := PO X e (tPo X W k)
theorem po_weak {e : Option Expr} {t t' : TO} (h : PO X e t) (k : ∀ σ H Q, t' σ H Q → t σ H Q) : PO X e t' := by
  obtain ⟨r⟩ := h
  exact ⟨fun pins s σ H Q I q => r pins s σ H Q I (k σ H Q q)⟩
def noP : Pf := fun _ => .ok none
def soP (f : Fn) : Pf := fun ε => (f ε).bind fun d => match d with
  | .int i => .ok (some i)
  | _ => .bad
theorem po0 : PoD X W none noP := po_weak L2.po_none fun σ H Q ⟨P, ε, E, q⟩ => q H Ext.refl
theorem po1 (ha : PB X W e f) : PoD X W (some e) (soP f) := po_weak (L2.po_some ha) fun σ H Q ⟨P, ε, E, q⟩ =>
  ⟨P, ε, E, q.bind.mono fun d q v H1 x r => by
    cases d with
    | int i => exact ⟨i, r, q H1 x⟩
    | _ => exact q.elim⟩
def slD : Dt → Option Int → Option Int → Option Dt
  | .lst xs, lo, hi => some (.lst (cutG xs lo hi))
  | .frl xs, lo, hi => some (.lst (cutG xs lo hi))
  | .tup xs, lo, hi => if HT.sIx xs.length 0 lo = 0 ∧ HT.sIx xs.length xs.length hi = xs.length then none else some (.tup (cutG xs lo hi))
  | .str z, lo, hi => if z.length ≤ sizeLine then some (.str (cutS z lo hi)) else none
  | _, _, _ => none
def slF (f : Fn) (lo hi : Pf) : Fn := fun ε => (f ε).bind fun x => (lo ε).bind fun l => (hi ε).bind fun u => .ofO (slD x l u)
theorem dSl {lo hi : Option Expr} {l u : Pf} {p2 : Pos} (ha : PB X W e f) (hl : PoD X W lo l) (hu : PoD X W hi u) : PD X W (.Subscript e (.Slice lo hi none p2) pos) (slF f l u) :=
  pe_weak (pe_slice (sl_list.or (sl_tup.or sl_str)) ha hl hu) fun σ H Q ⟨P, ε, E, q⟩ =>
  ⟨P, ε, E, q.bind.mono fun d q v H1 e1 r => ⟨P, ε, E.ext e1, (q.bind.ext e1).mono fun lo q H2 e2 => ⟨P, ε, (E.ext e1).ext e2, (q.bind.ext (e1.trans e2)).mono fun hi q H3 e3 => by
    obtain ⟨d', h1, q⟩ := q.ofO
    have r3 := (r.ext e2).ext e3
    have e0 := (e1.trans e2).trans e3
    cases d with
    | lst xs =>
      cases h1
      obtain ⟨a, vs, rfl, h2, h3⟩ := r3
      exact .inl ⟨a, vs, rfl, .of h2, fun p hp => q _ _ (e0.trans (Ext.new hp)) ⟨p, _, rfl, upd_same, (((E.ext e1).ext e2).ext e3).ne (.of hp), (h3.cut lo hi).ext (Ext.new hp)⟩⟩
    | frl xs =>
      cases h1
      obtain ⟨a, vs, rfl, h2, h3⟩ := r3
      exact .inl ⟨a, vs, rfl, h2.sq, fun p hp => q _ _ (e0.trans (Ext.new hp)) ⟨p, _, rfl, upd_same, (((E.ext e1).ext e2).ext e3).ne (.of hp), (h3.cut lo hi).ext (Ext.new hp)⟩⟩
    | tup xs =>
      by_cases hz : HT.sIx xs.length 0 lo = 0 ∧ HT.sIx xs.length xs.length hi = xs.length
      · rw [slD, if_pos hz] at h1
        cases h1
      · rw [slD, if_neg hz] at h1
        cases h1
        obtain ⟨a, vs, rfl, h2, h3⟩ := r3
        exact .inr (.inl ⟨a, vs, rfl, h2, by rw [← h3.length]; exact hz, fun p hp => q _ _ (e0.trans (Ext.new hp)) ⟨p, _, rfl, .of upd_same, (h3.cut lo hi).ext (Ext.new hp)⟩⟩)
    | str z =>
      by_cases hz : z.length ≤ sizeLine
      · rw [slD, if_pos hz] at h1
        cases h1
        exact .inr (.inr ⟨z, r3, hz, q _ H3 e0 rfl⟩)
      · rw [slD, if_neg hz] at h1
        cases h1
    | non => cases h1
    | bl _ => cases h1
    | int _ => cases h1
    | ins _ _ _ => cases h1
    | fn _ _ _ _ _ => cases h1
    | exn _ _ => cases h1⟩⟩⟩
/-! ### sorted of whole numbers -/
def putI (x : Int) : List Int → List Int
  | [] => [x]
  | y :: r => if x ≤ y then x :: y :: r else y :: putI x r
def sortI : List Int → List Int
  | [] => []
  | x :: r => putI x (sortI r)
theorem putI_perm (x : Int) : ∀ r : List Int, (putI x r).Perm (x :: r)
  | [] => .refl _
  | y :: r => by
    unfold putI
    split
    · exact .refl _
    · exact ((putI_perm x r).cons y).trans (.swap x y r)
theorem sortI_perm : ∀ r : List Int, (sortI r).Perm r
  | [] => .refl _
  | x :: r => (putI_perm x (sortI r)).trans ((sortI_perm r).cons x)
theorem putI_up (x : Int) : ∀ r : List Int, r.Pairwise (· ≤ ·) → (putI x r).Pairwise (· ≤ ·)
  | [], _ => List.pairwise_singleton _ _
  | y :: r, h => by
    have h' := List.pairwise_cons.mp h
    unfold putI
    split
    · rename_i hxy
      refine List.pairwise_cons.mpr ⟨fun z hz => ?_, h⟩
      rcases List.mem_cons.mp hz with rfl | hz
      · exact hxy
      · exact Int.le_trans hxy (h'.1 z hz)
    · rename_i hxy
      refine List.pairwise_cons.mpr ⟨fun z hz => ?_, putI_up x r h'.2⟩
      rcases List.mem_cons.mp ((putI_perm x r).mem_iff.mp hz) with rfl | hz
      · omega
      · exact h'.1 z hz
theorem sortI_up : ∀ r : List Int, (sortI r).Pairwise (· ≤ ·)
  | [] => .nil
  | x :: r => putI_up x _ (sortI_up r)
theorem up_same : ∀ {xs ys : List Int}, xs.Perm ys → xs.Pairwise (· ≤ ·) → ys.Pairwise (· ≤ ·) → xs = ys
  | [], ys, h, _, _ => (List.Perm.nil_eq h)
  | x :: xs, [], h, _, _ => absurd h.symm.nil_eq (by simp)
  | x :: xs, y :: ys, h, h1, h2 => by
    have a1 := List.pairwise_cons.mp h1
    have a2 := List.pairwise_cons.mp h2
    have e : x = y := by
      have m1 : x ∈ y :: ys := h.mem_iff.mp List.mem_cons_self
      have m2 : y ∈ x :: xs := h.mem_iff.mpr List.mem_cons_self
      rcases List.mem_cons.mp m1 with e | m1
      · exact e
      · rcases List.mem_cons.mp m2 with e | m2
        · exact e.symm
        · have := a1.1 y m2
          have := a2.1 x m1
          omega
    subst e
    rw [up_same (List.perm_cons _ |>.mp h) a1.2 a2.2]
def sortD : Dt → Option (List Dt) := fun x => x.items.bind fun ds => (asI ds).bind fun ns => some ((sortI ns).map .int)
theorem sort_ok : UnN X (rSortedI X.K) sortD := fun x H Q P dx d tk r1 e q => by
  unfold sortD at e
  cases e1 : dx.items with
  | none => rw [e1] at e; cases e
  | some ds =>
    rw [e1, Option.bind_some] at e
    cases e2 : asI ds with
    | none => rw [e2] at e; cases e
    | some ns =>
      rw [e2] at e
      cases e
      rw [ints_some e2] at e1
      obtain ⟨a, vs, rfl, h3, h4⟩ := items_rep r1 e1
      rw [h4.ints] at h3
      exact ⟨a, ns, rfl, h3, fun ns' p h5 h6 hp => by
        rw [up_same (h5.trans (sortI_perm ns).symm) h6 (sortI_up ns)]
        exact q p _ _ (Ext.new hp) (.of hp) upd_same (Reps.ofInts _)⟩
theorem nSorted (hm : X.mg "sorted" = none) (ha : PB X W e f) (hg : Gl X "sorted" := by rfl) (he : starEach [e] X.env = [(false, eval e X.env)] := by rfl) : PN X W (.Call (.Name "sorted" p) [e] [] pos) (unN sortD f) :=
  pn_b1 cr_sortedI sort_ok (by decide +kernel) (by decide) (by decide) hm ha hg he
end DL
end
section
set_option Elab.async false
set_option linter.all false
set_option maxRecDepth 100000
set_option autoImplicit false
namespace DL
open PySem PySem.Spec PyProof.Rows L2
variable [TbC]
/-! ### a def of the text by its name -/
section
variable {P : Program} {w : World} {K : PySem.W.Frag} {mg : Str → Option Value} {base : Heap}
/-- the def named x, of n parameters, does G -/
structure Df (P : Program) (w : World) (K : PySem.W.Frag) (mg : Str → Option Value) (base : Heap) (lv : Nat) (x : Str) (n : Nat) (G : Fd) : Prop where
  ex : ∃ fa fd ps, FnOk P w K mg base (L2.CX P w) lv fa fd ps (spD K mg n G) ∧ mg x = some (.ref fa) ∧ PySem.W.keepIn K (.ref fa) = true ∧ L2.Binds K fd ps []
theorem fnD_ok {x qual : Str} {st : Stmt} {fa : Addr} {fd : FuncData} {N ps : List Str} {k : Nat} {g : Sg} (F : FunD K x qual (defArgs st) (defBody st) (defScope st) [] [] fa fd) (S : FnScope N ps (defScope st))
    (hbody : ∀ (cdv : Value) (A : Around) (outer : List Env) (s : Shared) (H : Hp) (E : XK), Room k (A.deeper (envOfC qual (defScope st) s.heap.objs.size fa cdv)) → Takes (cxOf (L2.CX P w) P w K mg base N qual (defScope st) fa cdv A outer s H E) (wE E) →
      SDs (cxOf (L2.CX P w) P w K mg base N qual (defScope st) fa cdv A outer s H E) (wE E) (defBody st) g) : FnOk P w K mg base (L2.CX P w) (k + 1) fa fd ps (spD K mg ps.length (bodyF N.length g)) := by
  refine F.ok S (fun vs H Q E ⟨_, _, hn, _, _, r, _⟩ => by rw [← r.length]; exact hn) (fun cdv A outer s H vs Q E hr h => ?_)
  obtain ⟨P', ds, hl, hp, ht, r, q⟩ := h
  refine ⟨_, hbody cdv A outer s H E hr (takes_of rfl rfl rfl rfl) ⟨H, P', no⟩, startE N.length ds, sok_start hp ht r, ?_⟩
  unfold bodyF at q
  cases hg : g (startE N.length ds) with
  | bad => rw [hg] at q; exact q
  | ex ce =>
    obtain ⟨c, ε⟩ := ce
    rw [hg] at q
    obtain ⟨C, h1, h2⟩ := q
    exact ⟨C, h1, fun σ H' S' => h2 H' S'.x⟩
  | ok re =>
    rw [hg] at q
    cases re with
    | nx ε => exact fun σ H' S' => q .non H' S'.x rfl
    | rt d => exact fun v H' x rv => q v H' x rv
    | ro xs => exact fun p vs H' x fr np hl rv => q p vs H' x (fr.resolve_right fun z => z) hl rv
    | bk ε => exact q.elim
    | ct ε => exact q.elim
theorem df_mk {x qual : Str} {st : Stmt} {fa : Addr} {fd : FuncData} {N ps : List Str} {k n : Nat} {g : Sg} {G : Fd} (F : FunD K x qual (defArgs st) (defBody st) (defScope st) [] [] fa fd) (S : FnScope N ps (defScope st)) (hm : mg x = some (.ref fa))
    (hb : ∀ (kV doc pm : Value) (an : Option Addr) (cdv ct : Value) (us : List Value), us.length = ps.length → bindArgs (PySem.W.fnOf x qual (defArgs st) (defBody st) (defScope st) .none kV doc pm an cdv ct) ⟨us, []⟩ = pure (ps.zip us))
    (hbody : ∀ (cdv : Value) (A : Around) (outer : List Env) (s : Shared) (H : Hp) (E : XK), Room k (A.deeper (envOfC qual (defScope st) s.heap.objs.size fa cdv)) → Takes (cxOf (L2.CX P w) P w K mg base N qual (defScope st) fa cdv A outer s H E) (wE E) →
      SDs (cxOf (L2.CX P w) P w K mg base N qual (defScope st) fa cdv A outer s H E) (wE E) (defBody st) g) (hn : n = ps.length := by rfl) (hG : G = bodyF N.length g := by rfl) : Df P w K mg base (k + 1) x n G := by
  subst hn hG
  exact ⟨fa, fd, ps, fnD_ok F S hbody, hm, F.kp, F.bindsN hb⟩
end
section
variable {X : Cx} {W : WX} {e : Expr} {es : List Expr} {pos p : Pos} {k j n : Nat} {x : Str} {fs : Fs} {G : Fd}
theorem dCall (Fk : Df X.prog X.w X.K X.mg X.base j x n G) (hr : Room k X.A) (hj : j ≤ k) (tk : Takes X W) (ha : AD X W (e :: es) fs) (hg : Gl X x := by rfl) (hdb : (x == ("__debug__" : Str)) = false := by decide) (he : starEach (e :: es) X.env = (false, eval e X.env) :: starEach es X.env := by rfl) (hpl : (backTo pos (starEach es X.env)).any (·.1) = false := by rfl) :
    PD X W (.Call (.Name x p) (e :: es) [] pos) (callF n G fs) := by
  obtain ⟨fa, fd, ps, h1, h2, h3, h4⟩ := Fk.ex
  exact pd_call h1 (hr.mono hj) h2 h3 h4 tk ha hg hdb he hpl
theorem nCall (Fk : Df X.prog X.w X.K X.mg X.base j x n G) (hr : Room k X.A) (hj : j ≤ k) (tk : Takes X W) (ha : AD X W (e :: es) fs) (hg : Gl X x := by rfl) (hdb : (x == ("__debug__" : Str)) = false := by decide) (he : starEach (e :: es) X.env = (false, eval e X.env) :: starEach es X.env := by rfl) (hpl : (backTo pos (starEach es X.env)).any (·.1) = false := by rfl) :
    PN X W (.Call (.Name x p) (e :: es) [] pos) (callN n G fs) := by
  obtain ⟨fa, fd, ps, h1, h2, h3, h4⟩ := Fk.ex
  exact pn_call h1 (hr.mono hj) h2 h3 h4 tk ha hg hdb he hpl
end
section
variable {X : Cx} {W : WX} {a b c : Expr} {f g h : Fn} {pos p : Pos} {k : Nat}
theorem tEq (hr : Room k X.A) (ha : PB X W a f) (hb : PB X W b g) : TD X W (.Compare a [.Eq] [b] pos) (tst (bin eqD f g)) := td_cmp (op_eqD hr.units) eq_ok ha hb (nomark _)
theorem tNe (hr : Room k X.A) (ha : PB X W a f) (hb : PB X W b g) : TD X W (.Compare a [.NotEq] [b] pos) (tst (bin neD f g)) := td_cmp (op_neD hr.units) ne_ok ha hb (nomark _)
theorem tLt (ha : PB X W a f) (hb : PB X W b g) : TD X W (.Compare a [.Lt] [b] pos) (tst (bin ltD f g)) := td_cmp op_lt cmp_ok ha hb (nomark _)
theorem tLe (ha : PB X W a f) (hb : PB X W b g) : TD X W (.Compare a [.LtE] [b] pos) (tst (bin leD f g)) := td_cmp op_le cmp_ok ha hb (nomark _)
theorem tGt (ha : PB X W a f) (hb : PB X W b g) : TD X W (.Compare a [.Gt] [b] pos) (tst (bin gtD f g)) := td_cmp op_gt cmp_ok ha hb (nomark _)
theorem tGe (ha : PB X W a f) (hb : PB X W b g) : TD X W (.Compare a [.GtE] [b] pos) (tst (bin geD f g)) := td_cmp op_ge cmp_ok ha hb (nomark _)
theorem tIsN (ha : PB X W a f) (hb : PB X W b g) : TD X W (.Compare a [.Is] [b] pos) (tst (bin isND f g)) := td_cmp op_isN isN_ok ha hb (nomark _)
theorem tNotN (ha : PB X W a f) (hb : PB X W b g) : TD X W (.Compare a [.IsNot] [b] pos) (tst (bin notND f g)) := td_cmp op_notN notN_ok ha hb (nomark _)
end
/-! ### a law's end -/
/-- a law's own promise: of a script of at most 63 whole numbers, True -/
def spLaw (K : PySem.W.Frag) : Sp := fun vs H Q _ => ∃ (a : Addr) (ns : List Int), vs = [.ref a] ∧ SqL K H a (ns.map V.int) ∧ LamX.Tabs (TbC.T) H ∧ ns.length ≤ 63 ∧ ∀ H', Q (.bl true) H'
theorem law_ok {P : Program} {w : World} {K : PySem.W.Frag} {mg : Str → Option Value} {base : Heap} {k : Nat} {fa : Addr} {fd : FuncData} {x : Str} {G : Fd} (F : FnOk P w K mg base (L2.CX P w) k fa fd [x] (spD K mg 1 G))
    (hG : ∀ ns : List Int, ns.length ≤ 63 → G [.frl (ns.map .int)] = .ok (.va (.bl true))) : FnOk P w K mg base CX0 k fa fd [x] (spLaw K) := by
  have key : ∀ vs H Q E, spLaw K vs H Q E → spD K mg 1 G vs H Q E0 := fun vs H Q E ⟨a, ns, e, hs, ht, hl, q⟩ => by
    subst e
    refine ⟨no, [.frl (ns.map .int)], rfl, fun _ z => z.elim, ht, ⟨_, _, rfl, ⟨a, _, rfl, SqF.of hs, Reps.ofInts ns⟩, rfl⟩, ?_⟩
    rw [hG ns hl]
    exact fun v H' _ r => by rw [show v = .bl true from r]; exact q H'
  refine ⟨fun vs H Q E h => F.len vs H Q E0 (key vs H Q E h), fun A outer s H args us vs Q E hr e0 hb hv hs => codeAny_mono (F.run A outer s H args us vs Q E0 hr e0 hb hv (key vs H Q E hs)) fun r s' hq => ?_⟩
  cases r with
  | error e =>
    obtain ⟨_, _, _, _, _, _, _, _, _, _, _, _, z⟩ := hq
    exact z.elim
  | ok fl => cases fl <;> exact hq
end DL
end
section
set_option Elab.async false
set_option linter.all false
set_option maxRecDepth 100000
set_option autoImplicit false
namespace DL
open PySem PySem.Spec PyProof.Rows L2
variable [TbC]
variable {X : Cx} {W : WX} {e a b c : Expr} {es rest : List Expr} {f g h : Fn} {pos p : Pos}
/-! ### is True, is False -/
def isBD : O2
  | .bl x, .bl y => some (.bl (decide (x = y)))
  | .tup _, .bl _ => some (.bl false)
  | _, _ => none
def rIsBo : R2 := fun x y H Q => ∃ k : Bool, y = .bl k ∧ ((∃ j : Bool, x = .bl j ∧ Q (.bl (decide (j = k))) H) ∨ ∃ a, x = .ref a ∧ Q (.bl false) H)
theorem op_isBo : OpR X (compareOp .Is) rIsBo := by
  intro pins s σ H x y v u Q I rx ry h
  obtain ⟨k, rfl, h⟩ := h
  cases (show u = Value.bool k from ry)
  rcases h with ⟨j, rfl, q⟩ | ⟨a, rfl, q⟩
  · cases (show v = Value.bool j from rx)
    by_cases e : j = k
    · subst e
      exact wpAny_is_self rfl ⟨.bl true, H, I, rfl, by simpa using q⟩
    · exact wpAny_is_other rfl (fun z => e (Value.bool.inj z)) ⟨.bl false, H, I, rfl, by simpa [e] using q⟩
  · cases (show v = Value.ref a from rx)
    exact wpAny_is_other rfl (fun z => nomatch z) ⟨.bl false, H, I, rfl, q⟩
theorem isB_ok : OpD X rIsBo isBD := fun x y H Q P dx dy d _ r1 r2 e q => by
  unfold isBD at e
  split at e
  · cases e
    exact ⟨_, r2, .inl ⟨_, r1, q _ H Ext.refl rfl⟩⟩
  · cases e
    obtain ⟨a, vs, rfl, _⟩ := r1
    exact ⟨_, r2, .inr ⟨a, rfl, q _ H Ext.refl rfl⟩⟩
  · cases e
theorem dIsB (ha : PB X W a f) (hb : PB X W b g) : PD X W (.Compare a [.Is] [b] pos) (bin isBD f g) := pd_cmp op_isBo isB_ok ha hb (nomark _)
theorem tIsB (ha : PB X W a f) (hb : PB X W b g) : TD X W (.Compare a [.Is] [b] pos) (tst (bin isBD f g)) := td_cmp op_isBo isB_ok ha hb (nomark _)
/-! ### in, of whole numbers -/
def inD : O2
  | .int i, .lst ds => (asI ds).map fun ns => .bl (ns.any fun j => j == i)
  | _, _ => none
theorem any_int (i : Int) (ns : List Int) : inV (.int i) (ns.map V.int) = ns.any fun j => j == i := by
  unfold inV
  rw [List.any_map]
  rfl
theorem flat_ints (ns : List Int) : (ns.map V.int).all flatV = true := by
  rw [List.all_map]
  exact List.all_eq_true.mpr fun _ _ => rfl
theorem in_ok : OpD X (rIn X.K false) inD := fun x y H Q P dx dy d _ r1 r2 e q => by
  unfold inD at e
  split at e
  · rename_i i ds
    cases e2 : asI ds with
    | none => rw [e2] at e; cases e
    | some ns =>
      rw [e2] at e
      cases e
      rw [ints_some e2] at r2
      obtain ⟨a, vs, rfl, h1, h2⟩ := r2
      rw [h2.ints] at h1
      refine ⟨a, _, rfl, .inl (.of h1), ?_, flat_ints ns, ?_⟩
      · rw [show x = V.int i from r1]; rfl
      · rw [show x = V.int i from r1, any_int]
        exact q _ H Ext.refl rfl
  · cases e
theorem dIn (ha : PB X W a f) (hb : PB X W b g) (hm : behindInMarks .In b = false := by rfl) : PD X W (.Compare a [.In] [b] pos) (bin inD f g) := pd_cmp op_in_seq in_ok ha hb hm
theorem tIn (ha : PB X W a f) (hb : PB X W b g) (hm : behindInMarks .In b = false := by rfl) : TD X W (.Compare a [.In] [b] pos) (tst (bin inD f g)) := td_cmp op_in_seq in_ok ha hb hm
/-! ### isinstance of a built-in class -/
def Dt.ty : Dt → Option String
  | .non => some "NoneType"
  | .bl _ => some "bool"
  | .int _ => some "int"
  | .str _ => some "str"
  | .tup _ => some "tuple"
  | .lst _ => some "list"
  | .frl _ => some "list"
  | .ins _ _ _ => none
  | .fn _ _ _ _ _ => none
  | .exn _ _ => none
def isiD (T : String) : Dt → Option Dt := fun d => d.ty.bind fun n => (kitB n T).map .bl
theorem rep_ty {H : Hp} {P : Pv} {d : Dt} {v : V} {n : String} (h : RepB X.K X.mg H P d v) (e : d.ty = some n) : TyX X.K H v (.type n) := by
  cases d with
  | non => cases e; rw [show v = V.non from h]; exact .base .non
  | bl x => cases e; rw [show v = V.bl x from h]; exact .base (.bl x)
  | int x => cases e; rw [show v = V.int x from h]; exact .base (.int x)
  | str x => cases e; rw [show v = V.str x from h]; exact .base (.str x)
  | tup ds =>
    cases e
    obtain ⟨a, vs, rfl, h1, _⟩ := h
    rcases h1 with (h1 | ⟨o, h1⟩) | ⟨o, its, n, h1, h2, _⟩
    · exact .base (.tup h1)
    · exact .fTuple h1
    · exact .kTuple h1 h2
  | lst ds =>
    cases e
    obtain ⟨a, vs, rfl, h1, _⟩ := h
    exact .base (.lst h1)
  | frl ds =>
    cases e
    obtain ⟨a, vs, rfl, h1, _⟩ := h
    rcases h1.sq with (h1 | ⟨o, h1⟩) | ⟨o, its, n, h1, h2, _⟩
    · exact .base (.lst h1)
    · exact .base (.frz h1)
    · exact .kList h1 h2
  | ins _ _ _ => cases e
  | fn _ _ _ _ _ => cases e
  | exn _ _ => cases e
theorem dIsi {T : Str} {Ty : String} {p2 : Pos} (hm : X.mg "isinstance" = none) (hT : X.mg T = none) (ha : PB X W e f) (hv : bootBuiltins T = some (.type Ty) := by decide +kernel) (hg : Gl X "isinstance" := by rfl) (hgT : Gl X T := by rfl) (hn : T ≠ "__name__" := by decide) (hd : (T == ("__debug__" : Str)) = false := by decide)
    (he : starEach (e :: [.Name T p2]) X.env = (false, eval e X.env) :: starEach [.Name T p2] X.env := by rfl) (he2 : starEach [.Name T p2] X.env = [(false, eval (.Name T p2) X.env)] := by rfl) (hpl : (backTo pos (starEach [.Name T p2] X.env)).any (·.1) = false := by rfl) :
    PD X W (.Call (.Name "isinstance" p) [e, .Name T p2] [] pos) (un (isiD Ty) f) :=
  pe_weak (pe_callB call_isi hg hm boot_isinstance (pa_cons ha (pa_cons (pe_bltn (v := .ty Ty) hgT hT hv rfl hn hd) pa_nil he2) he) (by decide) (by decide) he hpl) fun σ H Q ⟨P, ε, E, q⟩ =>
    ⟨P, ε, E, q.bind.mono fun dx q x H1 e1 r1 => by
      obtain ⟨d, hh, q⟩ := q.ofO
      unfold isiD at hh
      cases e2 : dx.ty with
      | none => rw [e2] at hh; cases hh
      | some n =>
        rw [e2, Option.bind_some] at hh
        cases e3 : kitB n Ty with
        | none => rw [e3] at hh; cases hh
        | some bb =>
          rw [e3] at hh
          cases hh
          exact ⟨x, .ty Ty, .type n, .type Ty, bb, rfl, .ty Ty, rep_ty r1 e2, kit_ty e3, q _ H1 e1 rfl⟩⟩
/-! ### the module's tuples of whole numbers -/
theorem pd_tupI {x : Str} {ns : List Int} (hm : X.mg x = some (.ref (He.ga X.K x))) (hs : ∀ H, SqT X.K H (He.ga X.K x) (ns.map V.int)) (hg : Gl X x := by rfl) (hdb : (x == ("__debug__" : Str)) = false := by decide) : PD X W (.Name x pos) (kc (.tup (ns.map .int))) :=
  pd_glob (v := .ref (He.ga X.K x)) hm rfl (fun H P => ⟨_, _, rfl, hs H, Reps.ofInts ns⟩) hg hdb
theorem pd_intK {x : Str} {i : Int} (h : ∃ t, X.mg x = some (.int i t)) (hg : Gl X x := by rfl) (hdb : (x == ("__debug__" : Str)) = false := by decide) : PD X W (.Name x pos) (kc (.int i)) := by
  obtain ⟨t, h⟩ := h
  exact pd_glob (v := .int i) h ⟨t, rfl⟩ (fun _ _ => rfl) hg hdb
theorem pd_strK {x z : Str} (h : ∃ t, X.mg x = some (.str z t)) (hg : Gl X x := by rfl) (hdb : (x == ("__debug__" : Str)) = false := by decide) : PD X W (.Name x pos) (kc (.str z)) := by
  obtain ⟨t, h⟩ := h
  exact pd_glob (v := .str z) h ⟨t, rfl⟩ (fun _ _ => rfl) hg hdb
/-! ### one's own list is changed -/
/-- what an argument gives, and what the list is then -/
def chS (i : Nat) (f : Fs) (k : List Dt → List Dt → Option (List Dt)) : Sg := fun ε => match ε[i]? with
  | some (.o ds) => (exS ε (f ε)).bind fun xs => match k ds xs with
    | some es => .ok (.nx (ε.set i (.o es)))
    | none => .bad
  | _ => .bad
theorem ch_of {F : Frm} {D : Ends} {i : Nat} {fs : Fs} {k : List Dt → List Dt → Option (List Dt)} {ε : Ev} {σ : St} {H : Hp} {r : V → List V → Hp → VK → Prop} (S : SOk X.K X.mg F σ H ε) (q : SOut X F W D (chS i fs k ε))
    (hr : ∀ (a : Addr) (vs ws : List V) (ds xs es : List Dt) (H1 : Hp) (Q : VK), H1 a = some (.lst vs) → Reps X.K X.mg H1 (prv F σ ε) ds vs → Reps X.K X.mg H1 (prv F σ ε) xs ws → k ds xs = some es → (∀ us, Reps X.K X.mg H1 (prv F σ ε) es us → ∀ v, Q v (upd H1 a (.lst us))) → r (.ref a) ws H1 Q) :
    ∃ v, σ[i]? = some (some v) ∧ tyV X.K "list" v H ∧ tA X W fs σ H fun ws H1 => r v ws H1 fun _ H2 => D.nx σ H2 := by
  unfold chS at q
  split at q
  · rename_i ds hs
    obtain ⟨a, vs, h1, h2, h3, rr⟩ := S.slotO hs
    refine ⟨.ref a, h1, .inl ⟨rfl, vs, .of h3⟩, _, ε, S.e, (q.exp S).mono fun xs q ws H1 x rx => ?_⟩
    have S1 := S.ext x
    obtain ⟨b, us, g1, g2, g3, r1⟩ := S1.slotO hs
    rw [h2] at g2
    cases g2
    cases hk : k ds xs with
    | none => rw [hk] at q; exact q.elim
    | some es =>
      rw [hk] at q
      exact hr a us ws ds xs es H1 _ g3 r1 rx hk fun us2 r2 _ => by
        have S2 := S1.wr hs h2 r2
        have e : σ.set i (σ[i]?.join) = σ := by
          apply List.ext_getElem?
          intro j
          by_cases hj : i = j
          · subst hj
            rw [List.getElem?_set]
            simp only [if_true]
            rw [h1]
            split
            · rfl
            · rename_i hl
              rw [List.getElem?_eq_none (by omega)] at h1
              cases h1
          · rw [List.getElem?_set_ne hj]
        exact q σ _ S2
  · exact q.elim
theorem Reps.sing {K : PySem.W.Frag} {mg : Mg} {H : Hp} {P : Pv} {d : Dt} {ws : List V} (h : Reps K mg H P [d] ws) : ∃ w, ws = [w] ∧ Rep K mg H P d w := by
  obtain ⟨w, r, rfl, h1, h2⟩ := h
  exact ⟨w, by rw [show r = [] from h2], h1⟩
/-- xs.append(e) -/
def appK (ds xs : List Dt) : Option (List Dt) := match xs with
  | [x] => if ds.length < sizeLine then some (ds ++ [x]) else none
  | _ => none
def appS (i : Nat) (f : Fn) : Sg := chS i (consF f nilF) appK
theorem sd_append (i : Nat) {x : Str} {px p2 p3 : Pos} (he : PD X W e f) (hN : X.N[i]? = some x := by rfl) (hv : Vis X.env.scope x := by first | exact Or.inl rfl | exact Or.inr (Or.inl rfl) | exact Or.inr (Or.inr rfl)) (hd : (x == ("__debug__" : Str)) = false := by decide)
    (hcd : (x == ("__classdict__" : Str)) = false := by decide) (hbase : attributeBase (.Name x px) "append" X.env (eval (.Name x px) X.env) = eval (.Name x px) X.env := by rfl)
    (hfew : ((backTo p3 (starEach (e :: []) X.env)).all (fun x => !x.1) && (backToKw p3 (keywordEach [] X.env)).all (fun x => x.1.isSome) && decide ((e :: ([] : List Expr)).length + ([] : List Keyword).length + (if ([] : List Keyword).isEmpty then 0 else 1) < 30)) = true := by rfl)
    (hline : (p2.endLine == p3.line) = true := by rfl) (hs : starEach (e :: []) X.env = (false, eval e X.env) :: starEach [] X.env := by rfl) (hplain : (backTo p3 (starEach [] X.env)).any (·.1) = false := by rfl)
    (hsw : swapsWith (.Call (.Attribute (.Name x px) "append" p2) [e] [] p3) none pos.line X.env = pure false := by rfl) :
    SD X W (.Expr (.Call (.Attribute (.Name x px) "append" p2) [e] [] p3) pos) (appS i f) := fun F =>
  ps_weak (ps_expr (pe_bm PySem.F.plainAttrs_list PySem.F.slot_list_append PySem.F.type_list_append mt_append (pe_var (i := i) hN hv hd hcd) (ad_cons he ad_nil hs) hbase hfew hline hs hplain) hsw) fun D σ H ⟨ε, S, q⟩ =>
    ch_of S q fun a vs ws ds xs es H1 Q h1 r1 r2 hk k => by
      unfold appK at hk
      split at hk
      · rename_i x
        by_cases hl : ds.length < sizeLine
        · rw [if_pos hl] at hk
          cases hk
          obtain ⟨w, rfl, r3⟩ := Reps.sing r2
          exact ⟨a, vs, w, rfl, rfl, h1, by rw [← r1.length]; exact hl, k _ (Reps.append r1 ⟨w, [], rfl, r3, rfl⟩) _⟩
        · rw [if_neg hl] at hk; cases hk
      · cases hk
/-- xs.insert(i, e) -/
def insK (ds xs : List Dt) : Option (List Dt) := match xs with
  | [.int i, x] => if ds.length < sizeLine ∧ 0 ≤ i ∧ i < 2 ^ 63 then some (ds.take i.toNat ++ [x] ++ ds.drop i.toNat) else none
  | _ => none
def rInsert : V → List V → Hp → VK → Prop := fun x vs H Q => ∃ (l : Addr) (xs : List V) (i : Int) (y : V), x = .ref l ∧ vs = [.int i, y] ∧ H l = some (.lst xs) ∧ xs.length < sizeLine ∧ 0 ≤ i ∧ i < 2 ^ 63 ∧ Q .non (upd H l (.lst (xs.take i.toNat ++ [y] ++ xs.drop i.toNat)))
theorem mt_ins : MtR X "list.insert" rInsert := mt_insert
def insS (i : Nat) (f g : Fn) : Sg := chS i (consF f (consF g nilF)) insK
theorem sd_insert (i : Nat) {x : Str} {px p2 p3 : Pos} (ha : PD X W a f) (he : PD X W e g) (hN : X.N[i]? = some x := by rfl) (hv : Vis X.env.scope x := by first | exact Or.inl rfl | exact Or.inr (Or.inl rfl) | exact Or.inr (Or.inr rfl)) (hd : (x == ("__debug__" : Str)) = false := by decide)
    (hcd : (x == ("__classdict__" : Str)) = false := by decide) (hbase : attributeBase (.Name x px) "insert" X.env (eval (.Name x px) X.env) = eval (.Name x px) X.env := by rfl)
    (hfew : ((backTo p3 (starEach (a :: [e]) X.env)).all (fun x => !x.1) && (backToKw p3 (keywordEach [] X.env)).all (fun x => x.1.isSome) && decide ((a :: ([e] : List Expr)).length + ([] : List Keyword).length + (if ([] : List Keyword).isEmpty then 0 else 1) < 30)) = true := by rfl)
    (hline : (p2.endLine == p3.line) = true := by rfl) (hs : starEach (a :: [e]) X.env = (false, eval a X.env) :: starEach [e] X.env := by rfl) (hs2 : starEach (e :: []) X.env = (false, eval e X.env) :: starEach [] X.env := by rfl) (hplain : (backTo p3 (starEach [e] X.env)).any (·.1) = false := by rfl)
    (hsw : swapsWith (.Call (.Attribute (.Name x px) "insert" p2) [a, e] [] p3) none pos.line X.env = pure false := by rfl) :
    SD X W (.Expr (.Call (.Attribute (.Name x px) "insert" p2) [a, e] [] p3) pos) (insS i f g) := fun F =>
  ps_weak (ps_expr (pe_bm PySem.F.plainAttrs_list PySem.F.slot_list_insert PySem.F.type_list_insert mt_ins (pe_var (i := i) hN hv hd hcd) (ad_cons ha (ad_cons he ad_nil hs2) hs) hbase hfew hline hs hplain) hsw) fun D σ H ⟨ε, S, q⟩ =>
    ch_of S q fun a vs ws ds xs es H1 Q h1 r1 r2 hk k => by
      unfold insK at hk
      split at hk
      · rename_i i x
        by_cases hl : ds.length < sizeLine ∧ 0 ≤ i ∧ i < 2 ^ 63
        · rw [if_pos hl] at hk
          cases hk
          obtain ⟨w0, _, rfl, r3, r4⟩ := r2
          obtain ⟨w, rfl, r5⟩ := Reps.sing r4
          rw [show w0 = V.int i from r3]
          exact ⟨a, vs, i, w, rfl, rfl, h1, by rw [← r1.length]; exact hl.1, hl.2.1, hl.2.2, k _ (Reps.append (Reps.append (r1.take _) ⟨w, [], rfl, r5, rfl⟩) (r1.drop _)) _⟩
        · rw [if_neg hl] at hk; cases hk
      · cases hk
/-! ### what is looked at behind the head: facts, defs, and more -/
abbrev AlX : Type := He.AlD × Bool
section
variable {fa : List He.Fa} {fn : List He.DefD} {xs : List (PySem.W.Frag → Bool)}
def obsX (fa : List He.Fa) (fn : List He.DefD) (xs : List (PySem.W.Frag → Bool)) (K : PySem.W.Frag) : AlX := (He.obsD fa fn K, xs.all fun t => t K)
def obsXG (n : Nat) (fa : List He.Fa) (fn : List He.DefD) (xs : List (PySem.W.Frag → Bool)) (g : Addr → Option Obj) : AlX := obsX fa fn xs (He.frG g (He.asD g n))
def SaysX (fa : List He.Fa) (fn : List He.DefD) (xs : List (PySem.W.Frag → Bool)) (K : PySem.W.Frag) : Prop := obsX fa fn xs K = (He.valD fn, true)
def hookX (n : Nat) (fa : List He.Fa) (fn : List He.DefD) (xs : List (PySem.W.Frag → Bool)) : PySem.W.Hook where
  α := AlX
  obs := fun sh => obsXG n fa fn xs sh.heap.get?
  val := fun _w => (He.valD fn, true)
  says := fun _w hp => ∃ K : PySem.W.Frag, K.In hp ∧ SaysX fa fn xs K
  of := fun _w _hp heq => ⟨_, He.frG_in, heq⟩
  keeps := fun _w _h _h' ⟨Kx, hKx, cx⟩ kx => ⟨Kx, PySem.W.Frag.In.keeps hKx kx, cx⟩
theorem obsXG_eq {n : Nat} {g : Addr → Option Obj} {sh : Shared} (hg : ∀ a, g a = sh.heap.get? a) : obsXG n fa fn xs g = (hookX n fa fn xs).obs sh := by
  rw [show g = sh.heap.get? from funext hg]
  rfl
theorem SaysX.d {K : PySem.W.Frag} (c : SaysX fa fn xs K) : He.SaysD fa fn K := congrArg (fun z : AlX => z.1) c
theorem SaysX.x {K : PySem.W.Frag} (c : SaysX fa fn xs K) (i : Nat) {t : PySem.W.Frag → Bool} (h : xs[i]? = some t := by rfl) : t K = true := by
  have e : (xs.all fun t => t K) = true := congrArg (fun z : AlX => z.2) c
  exact List.all_eq_true.mp e t (List.mem_of_getElem? h)
end
def tupX (x : Str) (ns : List Int) : PySem.W.Frag → Bool := fun K => He.tupB K x (ns.map .int)
theorem tupX_ok {K : PySem.W.Frag} {x : Str} {ns : List Int} (h : tupX x ns K = true) (H : Hp) : SqT K H (He.ga K x) (ns.map V.int) := by
  have z := He.tupB_ok h H
  rw [List.map_map] at z
  exact z
/-! ### raise -/
structure ExcF (K : PySem.W.Frag) (mg : Mg) (x : Str) : Prop where
  ex : ∃ C, mg x = some (.ref C) ∧ PySem.W.excIn K C He.veBase "ValueError.__new__" = true ∧ PySem.W.keepIn K (.ref C) = true ∧ PySem.W.subIn K (.ref C) (.type "BaseException") = some true ∧ PySem.W.typeIn K (.ref C) = some (.type "type")
theorem excF_of {K : PySem.W.Frag} {h : Heap} {mg : Str → Option Value} (Xi : K.In h) (G : h.Ns mainGlobals mg) {x : Str} (c : (He.Fa.glo x).ok K = true) (d : (He.Fa.exc x).ok K = true) : ExcF K mg x :=
  let ⟨h1, h2, h3, h4⟩ := He.exc_ok d
  ⟨_, He.glo_ok Xi G c, h1, h2, h3, h4⟩
def raS (c : Str) : Sg := fun ε => .ex (c, ε)
theorem sd_raise {x m : Str} {j : Nat} {p2 p3 : Pos} (tk : Takes X W) (hx : ExcF X.K X.mg x) (hc : X.calm = true := by rfl) (hg : Gl X x := by rfl) (hdb : (x == ("__debug__" : Str)) = false := by decide) :
    SD X W (.Raise (some (.Call (.Name x p) [.Constant (.str m) j p2] [] p3)) none pos) (raS x) := fun F => by
  obtain ⟨C, h1, h2, h3, h4, h5⟩ := hx
  exact ps_weak (ps_raise hc tk (pmk_own PySem.F.excBase_ValueError h2 h1 h3 (raises_own h4 h5) hg hdb)) fun D σ H ⟨ε, S, q⟩ => by
    obtain ⟨C', g1, g2⟩ := q
    rw [h1] at g1
    cases g1
    exact g2 σ H S
end DL
end
section
set_option Elab.async false
set_option linter.all false
set_option maxRecDepth 100000
set_option autoImplicit false
namespace DL
open PySem PySem.Spec PyProof.Rows L2
variable [TbC]
variable {X : Cx} {W : WX} {e a b c : Expr} {es rest : List Expr} {f g h : Fn} {pos p : Pos}
/-! ### xs[i] = e -/
theorem Reps.put {K : PySem.W.Frag} {mg : Mg} {H : Hp} {P : Pv} {d : Dt} {v : V} (r1 : Rep K mg H P d v) : ∀ {ds : List Dt} {vs : List V} (j : Nat), Reps K mg H P ds vs → Reps K mg H P (ds.set j d) (vs.set j v)
  | [], vs, j, h => by rw [show vs = [] from h]; exact rfl
  | _ :: ds, vs, 0, h => by
    obtain ⟨w, ws, rfl, h1, h2⟩ := h
    exact ⟨v, ws, rfl, r1, h2⟩
  | _ :: ds, vs, j + 1, h => by
    obtain ⟨w, ws, rfl, h1, h2⟩ := h
    exact ⟨w, ws.set j v, rfl, h1, Reps.put r1 j h2⟩
def itmS (i : Nat) (ix f : Fn) : Sg := fun ε => (exS ε (f ε)).bind fun d => match ε[i]? with
  | some (.o ds) => (exS ε (ix ε)).bind fun y => match y with
    | .int k => (match ixN ds.length k with
      | some j => .ok (.nx (ε.set i (.o (ds.set j d))))
      | none => .bad)
    | _ => .bad
  | _ => .bad
theorem sd_item (i : Nat) {x : Str} {px p2 : Pos} (ha : PB X W a g) (he : PD X W e f) (hN : X.N[i]? = some x := by rfl) (hv : Vis X.env.scope x := by first | exact Or.inl rfl | exact Or.inr (Or.inl rfl) | exact Or.inr (Or.inr rfl)) (hd : (x == ("__debug__" : Str)) = false := by decide)
    (hcd : (x == ("__classdict__" : Str)) = false := by decide)
    (hass : ∀ v, assign (.Subscript (.Name x px) a p2) X.env v = (do
      let ov ← holding [v] (eval (.Name x px) X.env)
      let iv ← holding [v, ov] (eval a X.env)
      standAt p2
      holding [v, ov, iv] (setItem ov iv v)
      release [v, ov, iv] []) := by intro _; rfl)
    (hs : swapsWithSole [.Subscript (.Name x px) a p2] e pos.line X.env = pure false := by rfl) (hw : swappedStores [.Subscript (.Name x px) a p2] e X.env = pure none := by rfl)
    (h1 : (assignEach [.Subscript (.Name x px) a p2] X.env).map (·.2) = [assign (.Subscript (.Name x px) a p2) X.env] := by rfl) :
    SD X W (.Assign [.Subscript (.Name x px) a p2] e pos) (itmS i g f) := fun F =>
  ps_weak (ps_asg he (pg_sub (pe_var (i := i) hN hv hd hcd) ha set_list hass) hs hw h1) fun D σ H ⟨ε, S, q⟩ =>
    ⟨_, ε, S.e, (q.exp S).mono fun d q v H1 x1 r1 => by
      have S1 := S.ext x1
      cases hs : ε[i]? with
      | none => rw [hs] at q; exact q.elim
      | some l =>
        rw [hs] at q
        cases l with
        | o ds =>
          obtain ⟨a', vs, h1, h2, h3, rr⟩ := S1.slotO hs
          refine ⟨.ref a', h1, _, ε, S1.e, (SOut.exp S1 q).mono fun y q w H2 x2 r2 => ?_⟩
          have S2 := S1.ext x2
          obtain ⟨b', us, g1, g2, g3, r3⟩ := S2.slotO hs
          rw [h2] at g2
          cases g2
          cases y with
          | int k =>
            cases hj : ixN ds.length k with
            | none => simp only [hj] at q; exact q.elim
            | some j =>
              simp only [hj] at q
              refine ⟨a', us, k, j, rfl, r2, g3, by rw [← r3.length]; exact hj, ?_⟩
              exact q σ _ (S2.wr hs h2 (Reps.put (r1.ext x2) j r3))
          | _ => exact q.elim
        | _ => exact q.elim⟩
/-! ### a, b, c = x, y, z -/
def prS3 (i j l : Nat) (fs : Fs) : Sg := fun ε => (exS ε (fs ε)).bind fun ds => match ds with
  | [x, y, z] => .ok (.nx (((ε.set i (.d x)).set j (.d y)).set l (.d z)))
  | _ => .bad
theorem own_set {σ : St} {ε : Ev} {i : Nat} {v : V} {d : Dt} {a : Addr} (h : ownA (σ.set i (some v)) (ε.set i (.d d)) a) : ownA σ ε a := by
  obtain ⟨k, l, h1, h2, h3⟩ := h
  by_cases hk : i = k
  · subst hk
    by_cases hi : i < ε.length
    · rw [List.getElem?_set_self hi] at h1; cases h1; exact h2.elim
    · rw [List.getElem?_eq_none (by rw [List.length_set]; omega)] at h1; cases h1
  · rw [List.getElem?_set_ne hk] at h1 h3
    exact ⟨k, l, h1, h2, h3⟩
theorem sd_par3 {i j l : Nat} {x y z : Str} {px py pz pt : Pos} {kt k2 : Nat} {pt2 : Pos} {fs : Fs} (hc : X.calm = true) (hN : X.N.Nodup) (hi : X.N[i]? = some x) (hj : X.N[j]? = some y) (hl : X.N[l]? = some z) (hij : i ≠ j) (hil : i ≠ l) (hjl : j ≠ l)
    (hx : X.env.scope.names.lookup x = some .local) (hy : X.env.scope.names.lookup y = some .local) (hz : X.env.scope.names.lookup z = some .local) (ha : AD X W [a, b, c] fs)
    (hw : swappedStores [.Tuple [.Name x px, .Name y py, .Name z pz] kt pt] (.Tuple [a, b, c] k2 pt2) X.env = pure (some [x, y, z]) := by rfl)
    (hs : swapsWithSole [.Tuple [.Name x px, .Name y py, .Name z pz] kt pt] (.Tuple [a, b, c] k2 pt2) pos.line X.env = pure false := by rfl) :
    SD X W (.Assign [.Tuple [.Name x px, .Name y py, .Name z pz] kt pt] (.Tuple [a, b, c] k2 pt2) pos) (prS3 i j l fs) := fun F => ps_weak (ps_par3 hc hN hi hj hl hij hil hjl hx hy hz ha hw hs) fun D σ H ⟨ε, S, q⟩ =>
  ⟨_, ε, S.e, (q.exp S).mono fun ds q vs H' x r => by
    match ds, q, r with
    | [x, y, z], q, ⟨v, _, e1, r1, w, _, e2, r2, u, _, e3, r3, e4⟩ =>
      cases e4
      cases e3
      cases e2
      cases e1
      have S' := S.ext (by assumption)
      have S1 := S'.set r1 i
      have S2 := S1.set (Rep.tr (Tr.less fun a z => z.imp_right own_set) _ _ r2) j
      exact ⟨v, w, u, rfl, q _ H' (S2.set (Rep.tr (Tr.less fun a z => z.imp_right fun q => own_set (own_set q)) _ _ r3) l)⟩
    | [], q, _ => exact q.elim
    | [_], q, _ => exact q.elim
    | [_, _], q, _ => exact q.elim
    | _ :: _ :: _ :: _ :: _, q, _ => exact q.elim⟩
end DL
end
section
set_option Elab.async false
set_option linter.all false
set_option maxRecDepth 100000
set_option maxHeartbeats 400000
set_option autoImplicit false
namespace DL
open PySem PySem.Spec PyProof.Rows L2
variable [TbC]
/-! ### a lambda of one parameter -/
/-- its names: the parameter tn, captured ones, globals -/
structure LamP (sc scope : Scope) (tn : Str) : Prop where
  kind : scope.kind = .function
  co : scope.isCoroutine = false
  gen : scope.isGenerator = false
  own : ∀ y ∈ scope.names, y.2 ≠ .cell ∧ (y.2 = .local → y.1 = tn)
  par : scope.names.lookup tn = some .local
  free : ∀ y ∈ scope.names, y.2 = .free → sc.names.lookup y.1 = some .cell ∨ sc.names.lookup y.1 = some .free
def lamPB (sc scope : Scope) (tn : Str) : Bool :=
  decide (scope.kind = .function) && (!scope.isCoroutine && (!scope.isGenerator && (decide (scope.names.lookup tn = some .local) && scope.names.all fun y =>
    !decide (y.2 = .cell) && ((!decide (y.2 = .local) || decide (y.1 = tn)) && (!decide (y.2 = .free) || (decide (sc.names.lookup y.1 = some .cell) || decide (sc.names.lookup y.1 = some .free)))))))
theorem lamP_by {sc scope : Scope} {tn : Str} (h : lamPB sc scope tn = true) : LamP sc scope tn := by
  unfold lamPB at h
  simp only [Bool.and_eq_true, Bool.or_eq_true, Bool.not_eq_true', decide_eq_true_eq, decide_eq_false_iff_not, List.all_eq_true] at h
  obtain ⟨h1, h2, h3, h4, h5⟩ := h
  refine ⟨h1, h2, h3, fun y hy => ⟨(h5 y hy).1, fun e => (h5 y hy).2.1.resolve_left fun n => n e⟩, h4, fun y hy e => (h5 y hy).2.2.resolve_left fun n => n e⟩
theorem LamP.has {X : Cx} {scope : Scope} {tn : Str} (L : LamP X.env.scope scope tn) (ok : X.Ok) : ∀ y ∈ scope.names, y.2 = .free → ∃ c, X.env.cells.lookup y.1 = some c := fun y hy e =>
  (L.free y hy e).elim (fun k => ok.has _ (.inl k)) fun k => ok.has _ (.inr k)
section
variable {X : Cx} {pins : List (Addr × Obj)} {σ : L2.St} {H HZ : Hp} {s s1 : Shared}
/-- its frame as it is entered, the parameter bound -/
theorem lamP_start {A : Around} {outer : List Env} {E : XK} {scope : Scope} {tn : Str} {it : Nat} {f c' : Addr} {h₁ : Heap} {tk : Nat} {u : Value} {v : V} (I : Inv X pins σ H s) (L : LamP X.env.scope scope tn) (hNd : X.N.Nodup) (hit : X.N[it]? = some tn) (rv : RelV v u)
    (e0 : Env0 X.prog X.w X.K X.mg X.base A outer s1 HZ) (hd : A.handled = none) (un : Un (frs X.stack) [] H HZ s.heap s1.heap) (hns : h₁.Ns s1.heap.objs.size fun y => ([(tn, u)] : List (Str × Value)).reverse.lookup y) (kp : ∀ b o, s1.heap.get? b = some o → h₁.get? b = some o) :
    Inv (LamX.lamCx X A outer s1 HZ E scope f c') [] (σ.set it (some v)) HZ { s1 with heap := h₁, toks := tk } := by
  have hfree := L.has I.ok
  have cm : ∀ {y c}, (cloFrom X.env.cells scope.names []).lookup y = some c → X.env.cells.lookup y = some c := fun {y c} e => by
    rcases cloFrom_mem (PySem.mem_of_lookup e) with hm | ⟨k1, k2⟩
    · cases hm
    · obtain ⟨c1, hc⟩ := hfree _ k1 rfl
      have hc : X.env.cells.lookup y = some c1 := hc
      have e2 : c = c1 := by rw [k2, hc] <;> rfl
      rw [e2]
      exact hc
  have look : ∀ {y}, scope.names.lookup y = some .free → ∃ c, (cloFrom X.env.cells scope.names []).lookup y = some c := fun {y} hl =>
    mem_lookup (cloFrom_has (cells := X.env.cells) (acc := []) (show (y, NameKind.free) ∈ scope.names from PySem.mem_of_lookup hl))
  have cellK : ∀ {c : Addr} {z : Option Value}, H c = none → s.heap.IsCell c z → h₁.IsCell c z := fun {c z} n ⟨o, ho, hdd⟩ => by
    obtain ⟨sl, q⟩ := un.any ho n (by simp)
    exact ⟨_, kp _ _ q, hdd⟩
  have noA : ∀ b : Addr, b ∉ (LamX.lamCx X A outer s1 HZ E scope f c').ex := fun b z => absurd (show b ∈ ([] : List Addr) from z) (by simp)
  have slots : ∀ (i : Nat) (y : Str) (w : V), X.N[i]? = some y → (σ.set it (some v))[i]? = some (some w) → (y = tn ∧ w = v) ∨ (y ≠ tn ∧ σ[i]? = some (some w)) := fun i y w e1 e2 => by
    by_cases hi : it = i
    · subst hi
      rw [hit] at e1
      cases e1
      have hl : it < σ.length := by
        rcases Nat.lt_or_ge it σ.length with z | z
        · exact z
        · rw [List.getElem?_eq_none (by rw [List.length_set]; exact z)] at e2
          cases e2
      rw [List.getElem?_set_self hl] at e2
      cases e2
      exact .inl ⟨rfl, rfl⟩
    · rw [List.getElem?_set_ne hi] at e2
      refine .inr ⟨fun z => hi ?_, e2⟩
      subst z
      have l1 := (List.getElem?_eq_some_iff.mp hit)
      have l2 := (List.getElem?_eq_some_iff.mp e1)
      exact (List.getElem_inj hNd).mp (l1.2.trans l2.2.symm)
  refine ⟨⟨e0.mod, L.kind, rfl, rfl, Nat.le_refl _, fun y z c e1 e2 => I.ok.inj y z c (cm e1) (cm e2), fun y hy => ?_, fun y c z _ => ?_, fun _ => hd, Around.frames_deeper e0.frames, .inr ⟨rfl, rfl⟩, fun b z => absurd z (noA b), e0.bs, e0.bsz, fun b _ _ => noA b,
      fun b z => absurd z (noA b), e0.funs, e0.frf⟩, rfl, e0.bare, Un.kept kp, ⟨_, hns, fun i y w e1 e2 e3 => ?_⟩, fun y c e => ?_, e0.hok.fresh (Nat.le_refl _), fun y c e => ?_, fun q hq => absurd (show q ∈ ([] : List (Addr × Obj)) ++ [] from hq) (by simp), e0.hok.kept kp, by rw [List.length_set]; exact I.len⟩
  · have hy : scope.names.lookup y = some .cell ∨ scope.names.lookup y = some .free := hy
    rcases hy with hy | hy
    · exact absurd rfl (L.own _ (PySem.mem_of_lookup hy)).1
    · exact look hy
  · have z : false = true := z
    cases z
  · have e3 : Vis scope y := e3
    rcases slots i y w e1 e2 with ⟨rfl, rfl⟩ | ⟨hne, e2'⟩
    · exact ⟨u, rv, .inl ⟨L.par, by simp [List.lookup]⟩⟩
    · rcases e3 with k | k | k
      · exact absurd ((L.own _ (PySem.mem_of_lookup k)).2 rfl) hne
      · exact absurd rfl (L.own _ (PySem.mem_of_lookup k)).1
      · obtain ⟨m, hn, hl⟩ := I.loc
        have hvis : Vis X.env.scope y := (L.free _ (PySem.mem_of_lookup k) rfl).elim (fun k => .inr (.inl k)) fun k => .inr (.inr k)
        obtain ⟨w', r, q⟩ := hl i y w e1 e2' hvis
        obtain ⟨c2, h2⟩ := look k
        refine ⟨w', r, .inr ⟨.inr k, c2, h2, ?_⟩⟩
        have c1 := cm h2
        rcases q with ⟨k', _⟩ | ⟨_, c3, e', z⟩
        · have k' : X.env.scope.names.lookup y = some .local := k'
          rcases L.free _ (PySem.mem_of_lookup k) rfl with k2 | k2 <;> (rw [show X.env.scope.names.lookup y = _ from k2] at k'; cases k')
        · rw [c1] at e'
          cases e'
          exact cellK (I.freeC y _ c1) z
  · obtain ⟨w', z⟩ := I.cell y c (cm e)
    exact ⟨w', cellK (I.freeC y c (cm e)) z⟩
  · obtain ⟨z, o, ho, hdd⟩ := I.cell y c (cm e)
    exact un.free c o ho (I.freeC y c (cm e)) (by simp)
/-- a(e), in the def that got the lambda; that def was entered at s, behind the making -/
theorem lamP_act {CXg : CXT} {Eg : XK} {Ng : List Str} {qg : Str} {sg : Scope} {g f c' : Addr} {cdg pm ctv : Value} {params : Arguments} {body : Expr} {scope : Scope} {k i it : Nat} {a tn : Str} {W : WX} {E : XK} {tb te : TE} {p1 p2 : Pos} {e : Expr}
    (I : Inv X pins σ H s) (L : LamP X.env.scope scope tn) (hNd : X.N.Nodup) (hit : X.N[it]? = some tn)
    (hf : s.heap.get? f = some (PySem.W.kla_obj "<lambda>" (X.env.qual ++ "<lambda>") params body scope (cloFrom X.env.cells scope.names []) pm c' ctv)) (hfn : H f = none) (hfr : f ∉ frs X.stack)
    (hbind : ∀ u : Value, bindArgs (PySem.W.kla_fn "<lambda>" (X.env.qual ++ "<lambda>") params body scope (cloFrom X.env.cells scope.names []) pm (.ref c') ctv) ⟨[u], []⟩ = pure [(tn, u)])
    (tk : Takes (cxOf CXg X.prog X.w X.K X.mg X.base Ng qg sg g cdg X.A X.stack s H Eg) W) (hW : ∀ cls d σ' H', E cls d H' → W cls d σ' H') (hr : Room (k + 1) (X.A.deeper (envOfC qg sg s.heap.objs.size g cdg)))
    (hbody : ∀ (A : Around) (outer : List Env) (s : Shared) (H : Hp), Room k (A.deeper (LamX.lamEnv X scope s.heap.objs.size f c')) → PE (LamX.lamCx X A outer s H E scope f c') body tb)
    (he : PE (cxOf CXg X.prog X.w X.K X.mg X.base Ng qg sg g cdg X.A X.stack s H Eg) e te)
    (hN : Ng[i]? = some a) (hv : Vis sg a) (hst : starEach [e] (cxOf CXg X.prog X.w X.K X.mg X.base Ng qg sg g cdg X.A X.stack s H Eg).env = [(false, eval e (cxOf CXg X.prog X.w X.K X.mg X.base Ng qg sg g cdg X.A X.stack s H Eg).env)])
    (hd : (a == ("__debug__" : Str)) = false := by decide) (hcd : (a == ("__classdict__" : Str)) = false := by decide) :
    PE (cxOf CXg X.prog X.w X.K X.mg X.base Ng qg sg g cdg X.A X.stack s H Eg) (.Call (.Name a p1) [e] [] p2)
      (fun σZ HZ Q => σZ[i]? = some (some (.ref f)) ∧ te σZ HZ fun v H1 => H1 c' = some (LamX.CodeO c' (X.env.qual ++ "<lambda>")) ∧ tb (σ.set it (some v)) H1 Q) := by
  refine ⟨fun pinsZ sZ σZ HZ Q IZ h => ?_⟩
  obtain ⟨hs, ht⟩ := h
  refine wpAny_Call_Name_kw (thn ((pe_var (pos := p1) (i := i) hN hv hd hcd).run pinsZ sZ σZ HZ (fun v H1 => v = .ref f ∧ H1 = HZ) IZ ⟨.ref f, hs, rfl, rfl⟩) fun u0 s1 ⟨v0, H1, I1, r1, q1⟩ => ?_)
  obtain ⟨ev, eH⟩ := q1
  subst ev
  rw [eH] at I1
  obtain rfl : u0 = Value.ref f := r1
  have at_f : ∀ {s1 : Shared} {σ1 : L2.St} {HZ : Hp} {pn : List (Addr × Obj)}, Inv (cxOf CXg X.prog X.w X.K X.mg X.base Ng qg sg g cdg X.A X.stack s H Eg) pn σ1 HZ s1 → s1.heap.get? f = some (PySem.W.kla_obj "<lambda>" (X.env.qual ++ "<lambda>") params body scope (cloFrom X.env.cells scope.names []) pm c' ctv) :=
    fun J => J.base.keep f _ hf hfn hfr (fun z => nomatch (show f ∈ ([] : List Addr) from z))
  have ha : PA (cxOf CXg X.prog X.w X.K X.mg X.base Ng qg sg g cdg X.A X.stack s H Eg) [e] (tCons te tNil) := pa_cons he pa_nil hst
  refine PySem.W.callWith_F ⟨_, _, _, _, at_f I1⟩ (thn (ha.run p2 pinsZ s1 σZ HZ (fun vs H1 => match vs with
    | [v] => H1 c' = some (LamX.CodeO c' (X.env.qual ++ "<lambda>")) ∧ tb (σ.set it (some v)) H1 Q
    | _ => False) I1 ht) fun us s2 ⟨vs, H2, I2, rvs, q2⟩ => ?_) hst rfl
  refine ⟨⟨_, _, _, _, at_f I2⟩, ?_⟩
  obtain ⟨v, u, rfl, rfl, rv, hc, htb⟩ : ∃ v u, vs = [v] ∧ us = [u] ∧ RelV v u ∧ H2 c' = some (LamX.CodeO c' (X.env.qual ++ "<lambda>")) ∧ tb (σ.set it (some v)) H2 Q := by
    clear at_f ha hbody he hbind hf I2 I1 IZ I
    cases rvs with
    | nil => exact q2.elim
    | cons rv rest =>
      cases rest with
      | nil => exact ⟨_, _, rfl, rfl, rv, q2⟩
      | cons _ _ => exact q2.elim
  show wpAny _ _ (call (.ref f) [u]) _ _ _
  have of1 := at_f I2
  have un : Un (frs X.stack) [] H H2 s.heap s2.heap := I2.base
  obtain ⟨⟨oc, ws, t, hoc, hdc, hvc⟩, _, _⟩ := I2.hok c' _ hc
  have rc : codeAny (model X.prog X.w) (X.A.deeper (envOfC qg sg s.heap.objs.size g cdg)) (.call (.ref f) ⟨[u], []⟩) (CR (L2.CX X.prog X.w) (envOfC qg sg s.heap.objs.size g cdg :: X.stack) X.prog X.w H2 s2 Q E) s2 := by
    refine PySem.W.kla_callFunE hr.depth of1 rfl L.co L.gen rfl ⟨c', oc, ws, t, rfl, hoc, hdc, hvc⟩ ?_
    rw [hbind u]
    refine wpAny_pure (wpAny_newFunctionEnv (fun y hy => (L.own y hy).1) (fun y hy => ?_) (fun h₁ hns hsb => ⟨I2.nolimit.fresh _ hsb, ?_⟩) L.kind)
    · rw [List.mem_singleton.mp hy]
      exact L.par
    · show codeAny _ _ (.expr body (LamX.lamEnv X scope s2.heap.objs.size f c')) _ _
      have kp : ∀ b o, s2.heap.get? b = some o → h₁.get? b = some o := fun b o e => hsb.extBut b o (Nat.ne_of_lt (Heap.lt_size e)) (Heap.get?_push_of_some _ e)
      have J : Inv (LamX.lamCx X (X.A.deeper (envOfC qg sg s.heap.objs.size g cdg)) (envOfC qg sg s.heap.objs.size g cdg :: X.stack) s2 H2 E scope f c') [] (σ.set it (some v)) H2 { s2 with heap := h₁, toks := s2.toks + ([(tn, u)] : List (Str × Value)).length } :=
        lamP_start I L hNd hit rv I2.env0 hr.hd un hns kp
      refine PySem.W.kla_codeExpr (wpAny_mono ((hbody _ _ s2 H2 (hr.deeper _)).run [] _ _ H2 Q J htb) (fun w s' hq => ?_) fun _ _ hq => hq)
      obtain ⟨w', H', J', rw', q⟩ := hq
      exact ⟨w', H', J'.os, J'.bare, J'.base, J'.hok, rw', q⟩
  have hx : Passes (L2.CX X.prog X.w) (cxOf CXg X.prog X.w X.K X.mg X.base Ng qg sg g cdg X.A X.stack s H Eg) E := passes_call tk hW
  refine wpAny_call (codeAny_mono rc fun r s' hq => ?_)
  cases r with
  | error er => exact hx pinsZ σZ H2 s2 er s' I2 hq
  | ok fl =>
    cases fl with
    | ret u => exact I2.after hq
    | _ => exact False.elim hq
end
end DL
end
section
set_option Elab.async false
set_option linter.all false
set_option maxRecDepth 100000
set_option maxHeartbeats 800000
set_option autoImplicit false
namespace DL
open PySem PySem.Spec PyProof.Rows L2
variable [TbC]
/-! ### a def that is handed a lambda -/
open Classical in
/-- what does not depend on the lambda's identity -/
noncomputable def oneOf {ε α : Type} (h : Dt → Rz ε α) : Rz ε α := if z : ∃ r, ∀ L, h L = r then Classical.choose z else .bad
theorem oneOf_eq {ε α : Type} {h : Dt → Rz ε α} {r : Rz ε α} (k : ∀ L, h L = r) : oneOf h = r := by
  have z : ∃ r, ∀ L, h L = r := ⟨r, k⟩
  unfold oneOf
  rw [dif_pos z, ← Classical.choose_spec z .non, k]
theorem oneOf_at {ε α : Type} {h : Dt → Rz ε α} (hn : oneOf h ≠ .bad) (L : Dt) : oneOf h = h L := by
  by_cases z : ∃ r, ∀ L, h L = r
  · unfold oneOf
    rw [dif_pos z]
    exact (Classical.choose_spec z L).symm
  · exact absurd (by unfold oneOf; rw [dif_neg z]) hn
open Classical in
/-- a(e), a holds the lambda L that does φ -/
noncomputable def appF (i : Nat) (L : Dt) (φ : Dt → Rz Str Dt) (f : Fn) : Fn := fun ε => if ε[i]? = some (.d L) then (f ε).bind φ else .bad
theorem appF_eq {i : Nat} {L : Dt} {φ : Dt → Rz Str Dt} {f : Fn} {ε : Ev} (h : ε[i]? = some (.d L)) : appF i L φ f ε = (f ε).bind φ := by
  unfold appF
  rw [if_pos h]
/-- what a lambda sees of its maker's slots -/
def Lc.see : Lc → Lc
  | .d x => .d x
  | _ => .u
def lamE (ε : Ev) : Ev := ε.map Lc.see
def Lc.cap : Lc → Dt
  | .d x => x
  | _ => .non
def capD (ε : Ev) : List Dt := ε.map Lc.cap
def Lc.capV (l : Lc) (o : Option V) : V := match l with
  | .d _ => o.getD .non
  | _ => .non
def capV (ε : Ev) (σ : St) : List V := List.zipWith Lc.capV ε σ
section
variable {K : PySem.W.Frag} {mg : Mg} {P : Pv} {σ : St} {H H1 : Hp} {ε : Ev}
theorem EOk.caps (E : EOk K mg P σ H ε) : Reps K mg H P (capD ε) (capV ε σ) := by
  refine Reps.mk (by simp [capD, capV, E.ln]) fun i d v h1 h2 => ?_
  unfold capD at h1
  rw [List.getElem?_map] at h1
  cases hl : ε[i]? with
  | none => rw [hl] at h1; cases h1
  | some l =>
    rw [hl] at h1
    have s := E.sl i l hl
    unfold capV at h2
    rw [List.getElem?_zipWith, hl] at h2
    cases hs : σ[i]? with
    | none => rw [hs] at h2; cases h2
    | some o =>
      rw [hs] at h2 s
      cases l with
      | d x =>
        cases h1
        cases h2
        obtain ⟨w, e, r⟩ := s
        have e : o = some w := e
        rw [e]
        exact r
      | _ => cases h1; cases h2; rfl
/-- the lambda's own slots, wherever it is called -/
theorem EOk.lam {P' : Pv} {it : Nat} {d : Dt} {v : V} (E : EOk K mg P σ H ε) (tk : ∀ a, P' a → ∃ o, H1 a = some o ∧ ∀ ps, o ≠ .tbl ps) (tb : LamX.Tabs TbC.T H1) (r : Reps K mg H1 P' (capD ε) (capV ε σ)) (rv : Rep K mg H1 P' d v) : EOk K mg P' (σ.set it (some v)) H1 ((lamE ε).set it (.d d)) := by
  refine EOk.set (ε := lamE ε) ⟨by rw [lamE, List.length_map, E.ln], tk, fun i l h => ?_, tb⟩ rv it
  unfold lamE at h
  rw [List.getElem?_map] at h
  cases hl : ε[i]? with
  | none => rw [hl] at h; cases h
  | some l0 =>
    rw [hl] at h
    have s := E.sl i l0 hl
    cases l0 with
    | d x =>
      cases h
      obtain ⟨w, e, _⟩ := s
      obtain ⟨u, h1, h2⟩ := r.get (i := i) (d := x) (by unfold capD; rw [List.getElem?_map, hl]; rfl)
      unfold capV at h1
      rw [List.getElem?_zipWith, hl, slot_some e] at h1
      cases h1
      exact ⟨w, e, h2⟩
    | _ => cases h; trivial
theorem EOk.lam0 {P' : Pv} (E : EOk K mg P σ H ε) (tk : ∀ a, P' a → ∃ o, H1 a = some o ∧ ∀ ps, o ≠ .tbl ps) (tb : LamX.Tabs TbC.T H1) (r : Reps K mg H1 P' (capD ε) (capV ε σ)) : EOk K mg P' σ H1 (lamE ε) := by
  refine ⟨by rw [lamE, List.length_map, E.ln], tk, fun i l h => ?_, tb⟩
  unfold lamE at h
  rw [List.getElem?_map] at h
  cases hl : ε[i]? with
  | none => rw [hl] at h; cases h
  | some l0 =>
    rw [hl] at h
    have s := E.sl i l0 hl
    cases l0 with
    | d x =>
      cases h
      obtain ⟨w, e, _⟩ := s
      obtain ⟨u, h1, h2⟩ := r.get (i := i) (d := x) (by unfold capD; rw [List.getElem?_map, hl]; rfl)
      unfold capV at h1
      rw [List.getElem?_zipWith, hl, slot_some e] at h1
      cases h1
      exact ⟨w, e, h2⟩
    | _ => cases h; trivial
theorem ext_of (e : LamX.ExtN H H1) (t : LamX.Tabs TbC.T H1) : Ext H H1 := ⟨fun b o h n _ => e b o h n, fun b q m _ => t (b, q) m⟩
end
/-- from what a def is to hand back, to its body's ends -/
theorem sout_body {X : Cx} {P : Pv} {H : Hp} {Q : VK} {E : XK} {D : Ends} {r : Rs} (hn : ∀ σ H', D.nx σ H' = Q .non H') (hr : D.rt = Q) (q : OOut X.K X.mg P H Q E (bodyR r)) : SOut X ⟨H, P, no⟩ (wE E) D r := by
  cases r with
  | bad => exact q
  | ex ce =>
    obtain ⟨c, ε⟩ := ce
    obtain ⟨C, h1, h2⟩ := q
    exact ⟨C, h1, fun σ H' S' => h2 H' S'.x⟩
  | ok re =>
    cases re with
    | nx ε => exact fun σ H' S' => by rw [hn]; exact q .non H' S'.x rfl
    | rt d => exact fun v H' x rv => by rw [hr]; exact q v H' x rv
    | ro xs => exact fun p vs H' x fr np hl rv => by rw [hr]; exact q p vs H' x (fr.resolve_right fun z => z) hl rv
    | bk ε => exact q.elim
    | ct ε => exact q.elim
noncomputable def lam2F (n : Nat) (gg : Dt → (Dt → Rz Str Dt) → Sg) (it : Nat) (fe kb : Fn) : Fn := fun ε => (fe ε).bind fun d => oneOf fun L => (bodyF n (gg L fun x => kb ((lamE ε).set it (.d x))) [d, L]).bind fun o => .ok o.dt
section
variable {X : Cx} {W : WX}
/-- x(e, lambda tn: body), x a def of the text that calls what it got -/
theorem pd_lam2 {x a1 a2 tn : Str} {g c P : Addr} {k it i n : Nat} {pg params : Arguments} {bg : List Stmt} {sg scope : Scope} {fd : FuncData} {Ng : List Str} {body e : Expr} {p lpos pos : Pos} {fe kb : Fn} {gg : Dt → (Dt → Rz Str Dt) → Sg}
    (Fg : FunD X.K x x pg bg sg [] [] g fd) (hm : X.mg x = some (.ref g))
    (hbg : ∀ (kV doc pm : Value) (an : Option Addr) (cdv ct : Value) (us : List Value), us.length = [a1, a2].length → bindArgs (PySem.W.fnOf x x pg bg sg .none kV doc pm an cdv ct) ⟨us, []⟩ = pure ([a1, a2].zip us))
    (Sg : FnScope Ng [a1, a2] sg) (hNg : Ng[i]? = some a2) (hva : Vis sg a2)
    (TB : LamX.TabB X.base X.mg c P) (hcode : X.env.code = .ref c) {q0 : Str} (hq : X.env.qual = q0) (hmT : (P, q0 ++ "<lambda>") ∈ TbC.T) (hu : ∀ p ∈ TbC.T, p.1 = P → p.2 = q0 ++ "<lambda>") (hr : Room (k + 2) X.A) (tk : Takes X W)
    (L : LamP X.env.scope scope tn) (hNd : X.N.Nodup) (hit : X.N[it]? = some tn)
    (hbind : ∀ (q : Str) (cl : List (Str × Addr)) (pm cv ctv u : Value), bindArgs (PySem.W.kla_fn "<lambda>" q params body scope cl pm cv ctv) ⟨[u], []⟩ = pure [(tn, u)])
    (ha : PD X W e fe)
    (hbody : ∀ (A : Around) (outer : List Env) (s : Shared) (H : Hp) (E : XK) (f c' : Addr), Room k (A.deeper (LamX.lamEnv X scope s.heap.objs.size f c')) → Takes (LamX.lamCx X A outer s H E scope f c') (wE E) → PD (LamX.lamCx X A outer s H E scope f c') (wE E) body kb)
    (hG : ∀ (cdg : Value) (s : Shared) (H : Hp) (E : XK) (L : Dt) (φ : Dt → Rz Str Dt), Room (k + 1) (X.A.deeper (envOfC x sg s.heap.objs.size g cdg)) → Takes (cxOf (L2.CX X.prog X.w) X.prog X.w X.K X.mg X.base Ng x sg g cdg X.A X.stack s H E) (wE E) →
      (∀ (e : Expr) (fe : Fn) (p1 p2 : Pos), PD (cxOf (L2.CX X.prog X.w) X.prog X.w X.K X.mg X.base Ng x sg g cdg X.A X.stack s H E) (wE E) e fe →
        starEach [e] (cxOf (L2.CX X.prog X.w) X.prog X.w X.K X.mg X.base Ng x sg g cdg X.A X.stack s H E).env = [(false, eval e (cxOf (L2.CX X.prog X.w) X.prog X.w X.K X.mg X.base Ng x sg g cdg X.A X.stack s H E).env)] →
        PD (cxOf (L2.CX X.prog X.w) X.prog X.w X.K X.mg X.base Ng x sg g cdg X.A X.stack s H E) (wE E) (.Call (.Name a2 p1) [e] [] p2) (appF i L φ fe)) →
      SDs (cxOf (L2.CX X.prog X.w) X.prog X.w X.K X.mg X.base Ng x sg g cdg X.A X.stack s H E) (wE E) bg (gg L φ))
    (hnl : n = Ng.length := by rfl) (hdef : defaultsOf params X.env = ([], []) := by rfl) (hg : Gl X x := by rfl) (hdb : (x == ("__debug__" : Str)) = false := by decide) (hd : (a2 == ("__debug__" : Str)) = false := by decide) (hcd : (a2 == ("__classdict__" : Str)) = false := by decide)
    (he : starEach (e :: [.Lambda params body scope lpos]) X.env = (false, eval e X.env) :: starEach [.Lambda params body scope lpos] X.env := by rfl) (hpl : (backTo pos (starEach [.Lambda params body scope lpos] X.env)).any (·.1) = false := by rfl) :
    PD X W (.Call (.Name x p) [e, .Lambda params body scope lpos] [] pos) (lam2F n gg it fe kb) := by
  subst hq hnl
  have hb := Fg.bindsN (ps := [a1, a2]) hbg
  obtain ⟨oc, od, dV, kV, doc, pm, an, cdv, ct, osl, efd, lk, hcg, _, _⟩ := Fg.ex
  subst efd
  refine ⟨fun pins s σ H Q I ⟨Pv, ε, E, q⟩ => ?_⟩
  refine wpAny_Call_Name_kw (ld_glob I hg hm ?_ hdb)
  refine PySem.W.callWith_K (h₀ := X.base) I.ok.mod.kin Fg.kp ?_ he hpl
  rw [he]
  refine Calls.spliced_cons (thn (ha.run pins s σ H (fun v H1 => Ext H H1 ∧ ∃ d, Rep X.K X.mg H1 Pv d v ∧ Out X W σ H (oneOf fun L => (bodyF Ng.length (gg L fun x => kb ((lamE ε).set it (.d x))) [d, L]).bind fun o => .ok o.dt) fun d => ∀ v H', Ext H H' → Rep X.K X.mg H' Pv d v → Q v H') I
    ⟨Pv, ε, E, q.bind.mono fun d q v H1 e1 r1 => ⟨e1, d, r1, q⟩⟩) fun u s1 ⟨v, H1, I1, ru, e1, d, r1, q⟩ => ?_)
  have E1 := E.ext e1
  refine Calls.spliced_cons (LamX.lam_make2 I1 TB hcode hmT hu E1.tb hdef (L.has I1.ok) fun f c' pm' ctv H2 s2 I2 eN T2 hf hfn hfr hco => ?_)
  refine Calls.spliced_nil ⟨I2.kIn, ?_⟩
  have e2 : Ext H1 H2 := ext_of eN T2
  have E2 := E1.ext e2
  have hOne := oneOf_at (h := fun L => (bodyF Ng.length (gg L fun x => kb ((lamE ε).set it (.d x))) [d, L]).bind fun o => Rz.ok (ε := Str) o.dt) (fun z => by rw [z] at q; exact q) (.fn f c' (X.env.qual ++ "<lambda>") (capV ε σ) (capD ε))
  rw [hOne] at q
  have rL : Rep X.K X.mg H2 Pv (.fn f c' (X.env.qual ++ "<lambda>") (capV ε σ) (capD ε)) (.ref f) := ⟨rfl, hco, E2.caps⟩
  have rc : codeAny (model X.prog X.w) X.A (.call (.ref g) ⟨[u, .ref f], []⟩) (CR (L2.CX X.prog X.w) X.stack X.prog X.w H2 s2 Q (WE W σ)) s2 := by
    refine LamX.run_ofS (N := Ng) (ps := [a1, a2]) (us := [u, .ref f]) (vs := [v, .ref f]) lk hcg Sg hr I2.env0 (hb s2 [u, .ref f] I2.kIn rfl) (.cons ru (.cons rfl .nil)) rfl fun hr' => ?_
    have tkZ : Takes (cxOf (L2.CX X.prog X.w) X.prog X.w X.K X.mg X.base Ng x sg g cdv X.A X.stack s2 H2 (WE W σ)) (wE (WE W σ)) := takes_of rfl rfl rfl rfl
    have hS := hG cdv s2 H2 (WE W σ) (.fn f c' (X.env.qual ++ "<lambda>") (capV ε σ) (capD ε)) (fun x => kb ((lamE ε).set it (.d x))) hr' tkZ ?_
    · refine ⟨_, hS ⟨H2, Pv, no⟩, startE Ng.length [d, .fn f c' (X.env.qual ++ "<lambda>") (capV ε σ) (capD ε)], sok_start E2.tk E2.tb ⟨v, _, rfl, r1.ext e2, _, _, rfl, rL, rfl⟩, ?_⟩
      exact sout_body (fun _ _ => rfl) rfl (OOut.toD E (e1.trans e2) q)
    · intro e' fe' p1 p2 he' hst'
      refine pe_weak (lamP_act (E := WE W σ) (tb := tD X (wE (WE W σ)) kb) I2 L hNd hit hf hfn hfr (fun u => hbind _ _ _ _ _ u) tkZ (fun _ _ _ _ z => z) hr' (fun A outer s H hr2 => hbody A outer s H (WE W σ) f c' hr2 (takes_of rfl rfl rfl rfl)) he' hNg hva hst' hd hcd) fun σZ HZ QZ ⟨PZ, εZ, EZ, qZ⟩ => ?_
      by_cases hi : εZ[i]? = some (.d (.fn f c' (X.env.qual ++ "<lambda>") (capV ε σ) (capD ε)))
      · rw [appF_eq hi] at qZ
        obtain ⟨w, ew, eF, hcZ, rZ⟩ := EZ.sl i _ hi
        subst eF
        refine ⟨slot_some ew, PZ, εZ, EZ, qZ.bind.mono fun dd qd vv HH ee rr => ?_⟩
        have EH := EZ.ext ee
        refine ⟨ee.at_ hcZ LamX.codeO_ne, PZ, _, E.lam EH.tk EH.tb (rZ.ext ee) rr, ?_⟩
        have z := Out.ext qd ee
        cases hk : kb ((lamE ε).set it (.d dd)) with
        | bad => rw [hk] at z; exact z
        | ex cc =>
          rw [hk] at z
          obtain ⟨C, z1, z2⟩ := z
          exact ⟨C, z1, z2⟩
        | ok a =>
          rw [hk] at z
          exact fun v' H' x' r' => z v' H' (ee.trans x') r'
      · unfold appF at qZ
        rw [if_neg hi] at qZ
        exact qZ.elim
  have hx := passAt tk σ
  refine wpAny_call (codeAny_mono rc fun r s3 hq => ?_)
  cases r with
  | error er => exact hx pins H2 s2 er s3 I2 hq
  | ok fl =>
    cases fl with
    | ret u => exact I2.after hq
    | _ => exact False.elim hq
end
end DL
end
section
set_option Elab.async false
set_option linter.all false
set_option maxRecDepth 100000
set_option maxHeartbeats 800000
set_option autoImplicit false
namespace DL
open PySem PySem.Spec PyProof.Rows L2
section
variable [TbC]
variable {P : Program} {w : World} {K : PySem.W.Frag} {mg : Str → Option Value} {base : Heap}
/-- a def whose code object is told by its place -/
theorem fnD_okC {x qual : Str} {st : Stmt} {p : He.Defn} {fd : FuncData} {N ps : List Str} {k : Nat} {g : Sg} (F : FunD K x qual (defArgs st) (defBody st) (defScope st) [] [] (He.fAd K p) fd) (S : FnScope N ps (defScope st))
    (hbody : ∀ (A : Around) (outer : List Env) (s : Shared) (H : Hp) (E : XK), Room k (A.deeper (envOfC qual (defScope st) s.heap.objs.size (He.fAd K p) (.ref (He.codeOf K p)))) → Takes (cxOf (L2.CX P w) P w K mg base N qual (defScope st) (He.fAd K p) (.ref (He.codeOf K p)) A outer s H E) (wE E) →
      SDs (cxOf (L2.CX P w) P w K mg base N qual (defScope st) (He.fAd K p) (.ref (He.codeOf K p)) A outer s H E) (wE E) (defBody st) g) : FnOk P w K mg base (L2.CX P w) (k + 1) (He.fAd K p) fd ps (spD K mg ps.length (bodyF N.length g)) := by
  obtain ⟨oc, od, dV, kV, doc, pm, an, cdv, ct, osl, rfl, lk, hcd, _, _⟩ := F.ex
  obtain ⟨c, rfl⟩ := He.codeIn_ref hcd
  obtain rfl : He.codeOf K p = c := He.codeOf_eq lk rfl
  refine fn_of lk hcd S (fun vs H Q E ⟨_, _, hn, _, _, r, _⟩ => by rw [← r.length]; exact hn) fun A outer s H vs Q E hr h => ?_
  obtain ⟨P', ds, hl, hp, ht, r, q⟩ := h
  exact ⟨_, hbody A outer s H E hr (takes_of rfl rfl rfl rfl) ⟨H, P', no⟩, startE N.length ds, sok_start hp ht r, sout_body (fun _ _ => rfl) rfl q⟩
theorem df_mkC {x qual : Str} {st : Stmt} {p : He.Defn} {fd : FuncData} {N ps : List Str} {k n : Nat} {g : Sg} {G : Fd} (F : FunD K x qual (defArgs st) (defBody st) (defScope st) [] [] (He.fAd K p) fd) (S : FnScope N ps (defScope st)) (hm : mg x = some (.ref (He.fAd K p)))
    (hb : ∀ (kV doc pm : Value) (an : Option Addr) (cdv ct : Value) (us : List Value), us.length = ps.length → bindArgs (PySem.W.fnOf x qual (defArgs st) (defBody st) (defScope st) .none kV doc pm an cdv ct) ⟨us, []⟩ = pure (ps.zip us))
    (hbody : ∀ (A : Around) (outer : List Env) (s : Shared) (H : Hp) (E : XK), Room k (A.deeper (envOfC qual (defScope st) s.heap.objs.size (He.fAd K p) (.ref (He.codeOf K p)))) → Takes (cxOf (L2.CX P w) P w K mg base N qual (defScope st) (He.fAd K p) (.ref (He.codeOf K p)) A outer s H E) (wE E) →
      SDs (cxOf (L2.CX P w) P w K mg base N qual (defScope st) (He.fAd K p) (.ref (He.codeOf K p)) A outer s H E) (wE E) (defBody st) g) (hn : n = ps.length := by rfl) (hG : G = bodyF N.length g := by rfl) : Df P w K mg base (k + 1) x n G := by
  subst hn hG
  exact ⟨_, fd, ps, fnD_okC F S hbody, hm, F.kp, F.bindsN hb⟩
end
/-! ### the end of a law with tables -/
section
variable {fa : List He.Fa} {fn : List He.DefD} {tf : List He.Defn} {xs : List (PySem.W.Frag → Bool)}
abbrev exOf (xs : List (PySem.W.Frag → Bool)) : PySem.W.Frag → Bool := fun K => xs.all fun t => t K
theorem exOf_at {K : PySem.W.Frag} (c : exOf xs K = true) (i : Nat) {t : PySem.W.Frag → Bool} (h : xs[i]? = some t := by rfl) : t K = true := List.all_eq_true.mp c t (List.mem_of_getElem? h)
/-- the tables' addresses differ -/
def apart (tf : List He.Defn) : PySem.W.Frag → Bool := fun K => decide ((tf.map fun p => (He.cT K p).2).Nodup)
def tabsOf (K : PySem.W.Frag) (ts : List (He.Defn × Str)) : List (Addr × Str) := ts.map fun p => ((He.cT K p.1).2, p.2)
theorem tabs_mem {K : PySem.W.Frag} {ts : List (He.Defn × Str)} {p : He.Defn} {q : Str} (h : (p, q) ∈ ts) : ((He.cT K p).2, q) ∈ tabsOf K ts := List.mem_map.mpr ⟨(p, q), h, rfl⟩
theorem tabs_one {K : PySem.W.Frag} : ∀ {ts : List (He.Defn × Str)} {p : He.Defn} {q : Str}, ((ts.map (·.1)).map fun p => (He.cT K p).2).Nodup → (p, q) ∈ ts → ∀ r ∈ tabsOf K ts, r.1 = (He.cT K p).2 → r.2 = q
  | [], _, _, _, h, _, _, _ => nomatch h
  | t :: ts, p, q, nd, h, r, hr, e => by
    have nd' := List.nodup_cons.mp nd
    have key : ∀ p q, (p, q) ∈ ts → (He.cT K p).2 ≠ (He.cT K t.1).2 := fun p q h z => nd'.1 (by
      show (He.cT K t.1).2 ∈ _
      rw [← z]
      exact List.mem_map.mpr ⟨p, List.mem_map.mpr ⟨(p, q), h, rfl⟩, rfl⟩)
    rcases List.mem_cons.mp h with rfl | h
    · rcases List.mem_cons.mp hr with rfl | hr
      · rfl
      · obtain ⟨u, hu, rfl⟩ := List.mem_map.mp hr
        exact absurd e (key u.1 u.2 hu)
    · rcases List.mem_cons.mp hr with rfl | hr
      · exact absurd e.symm (key p q h)
      · exact tabs_one nd'.2 h r hr e
theorem law_at {l : PySem.W.OpenLaw} {w : World} {K : PySem.W.Frag} {k n : Nat} {x : Str} {mg : Str → Option Value} {f : Addr} {h : Heap} {ts : List (He.Defn × Str)} {tst : List He.Tab} {ex : PySem.W.Frag → Bool} {fd : FuncData} (hn : n = 63) (X : K.In h) (c : He.SaysX fa fn tst (ts.map (·.1)) ex w h K)
    (hb : ∀ (s : Shared) (v : Value), BindsTo s fd ⟨[v], []⟩ [(x, v)])
    (hF : ∀ base : Heap, K.In base → base.Ns mainGlobals mg → (∀ p ∈ ts.map (·.1), LamX.TabB base mg (He.cT K p).1 (He.cT K p).2) → FnOk l.prog w K mg base CX0 k f fd [x] (@spLaw ⟨tabsOf K ts, w⟩ K)) : LamX.LawAtS l w K CX0 k n x mg f h := by
  subst hn
  refine ⟨fd, (ts.map (·.1)).map (He.cT K), @spLaw ⟨tabsOf K ts, w⟩ K, ?_, ?_, ?_, hb, ?_, fun base a b t => hF base a b fun p hp => t _ (List.mem_map_of_mem hp)⟩
  · intro p hp
    obtain ⟨q, hq, rfl⟩ := List.mem_map.mp hp
    exact c.empty q hq
  · intro p hp
    obtain ⟨q, hq, rfl⟩ := List.mem_map.mp hp
    exact c.out q hq
  · intro p hp
    obtain ⟨q, hq, rfl⟩ := List.mem_map.mp hp
    exact PySem.W.codeHd_of_K X (c.hd q hq)
  · intro H a ns hl _ hT hS
    refine ⟨a, ns, rfl, hS, fun p hp => ?_, hl, fun _ => rfl⟩
    obtain ⟨q, hq, rfl⟩ := List.mem_map.mp hp
    exact LamX.TabS.nil (hT (He.cT K q.1) (List.mem_map_of_mem (List.mem_map_of_mem hq)))
end
end DL
end
section
set_option Elab.async false
set_option linter.all false
set_option maxRecDepth 100000
set_option maxHeartbeats 800000
set_option autoImplicit false
namespace DL
open PySem PySem.Spec PyProof.Rows L2
variable [TbC]
/-! ### dicts whose keys are tuples of tuples -/
section
variable {X : Cx} {pins : List (Addr × Obj)} {σ : L2.St} {H : Hp} {s : Shared} {P : Pv}
mutual
theorem nk_is (I : Inv X pins σ H s) : ∀ (d : Dt) (v : V) (u : Value) (k : NestedKey), Rep X.K X.mg H P d v → nk d = some k → RelV v u → NestedIs s.heap k u
  | .non, v, u, k, h, e, r => by
    cases e
    rw [show v = .non from h] at r
    rw [show u = .none from r]
    exact .none
  | .int i, v, u, k, h, e, r => by
    cases e
    rw [show v = .int i from h] at r
    obtain ⟨t, rfl⟩ := r
    exact .int i t
  | .str x, v, u, k, h, e, r => by
    cases e
    rw [show v = .str x from h] at r
    obtain ⟨t, rfl⟩ := r
    exact .text x t
  | .tup ds, v, u, k, ⟨a, vs, ev, h1, h2⟩, e, r => by
    subst ev
    rw [nk] at e
    obtain ⟨ks, e1, rfl⟩ := Option.map_eq_some_iff.mp e
    obtain rfl : u = Value.ref a := r
    obtain ⟨its, rv, ⟨o, g1, g2, n, g3⟩, _⟩ := I.tuple h1
    exact .tup g1 g2 g3 (nks_is I ds vs its ks h2 e1 rv)
  | .bl _, _, _, _, _, e, _ => by cases e
  | .lst _, _, _, _, _, e, _ => by cases e
  | .frl _, _, _, _, _, e, _ => by cases e
  | .ins _ _ _, _, _, _, _, e, _ => by cases e
  | .fn _ _ _ _ _, _, _, _, _, e, _ => by cases e
  | .exn _ _, _, _, _, _, e, _ => by cases e
theorem nks_is (I : Inv X pins σ H s) : ∀ (ds : List Dt) (vs : List V) (us : List Value) (ks : List NestedKey), Reps X.K X.mg H P ds vs → nks ds = some ks → Vals vs us → NestedAll s.heap ks us
  | [], vs, us, ks, h, e, r => by
    cases e
    rw [show vs = [] from h] at r
    cases r
    exact .nil
  | d :: ds, vs, us, ks, ⟨v, rest, ev, h1, h2⟩, e, r => by
    subst ev
    rw [nks] at e
    obtain ⟨k, e1, e⟩ := Option.bind_eq_some_iff.mp e
    obtain ⟨ks', e2, rfl⟩ := Option.map_eq_some_iff.mp e
    cases r with
    | cons r1 r2 => exact .cons (nk_is I d v _ k h1 e1 r1) (nks_is I ds rest _ ks' h2 e2 r2)
end
/-- a tuple, not too deep -/
def okK (d : Dt) : Option NestedKey := match d with
  | .tup ds => (nk (.tup ds)).bind fun k => if k.depth ≤ 8 then some k else none
  | _ => none
theorem okK_some {d : Dt} {k : NestedKey} (h : okK d = some k) : nk d = some k ∧ k.depth ≤ 8 ∧ ∃ ds, d = .tup ds := by
  cases d with
  | tup ds =>
    unfold okK at h
    cases e : nk (.tup ds) with
    | none => simp only [e] at h; cases h
    | some j =>
      simp only [e, Option.bind_some] at h
      by_cases z : j.depth ≤ 8
      · rw [if_pos z] at h
        cases h
        exact ⟨rfl, z, ds, rfl⟩
      · rw [if_neg z] at h
        cases h
  | _ => cases h
def deepOk (xs : List (Dt × Int)) : Bool := xs.all fun x => (okK x.1).isSome
theorem dco_ok {w : World} {Pr : Program} {h : Heap} {a : Addr} {ys : List (NestedKey × Addr × Int)} (d : dcV w a ys h) : ObjOk Pr w H h a (dcO w a ys) :=
  ⟨d, let ⟨o, _, _, _, h1, _⟩ := d; ⟨o, h1⟩, fun _ _ ⟨o, es, ep, vs, h1, r⟩ st => ⟨o, es, ep, vs, st o h1, r⟩⟩
/-- the dict in the library's words -/
theorem dco_of (I : Inv X pins σ H s) {a : Addr} {ys : List (NestedKey × Addr × Int)} {xs : List (Dt × Int)} (d : dcV X.w a ys s.heap) (r : DcOk X.K X.mg H P xs ys) (hd : deepOk xs = true) :
    ∃ vs : List (NestedKey × Addr × Value), s.heap.DictOfH (nestedKind X.prog X.w) a vs ∧ Paired (fun (y : NestedKey × Addr × Int) (v : NestedKey × Addr × Value) => y.1 = v.1 ∧ y.2.1 = v.2.1 ∧ RelV (.int y.2.2) v.2.2) ys vs ∧ ys.length ≤ sizeLine ∧ (a == sysModules) = false := by
  obtain ⟨o, es, ep, vs, h1, h2, h3, h4, h5, h6, h7, h8⟩ := d
  have ek : vs.map (·.1) = ys.map (·.1) := by
    clear h4 h6 h7 r
    induction h5 with
    | nil => rfl
    | cons p _ ih => rw [List.map_cons, List.map_cons, ih, p.1]
  refine ⟨vs, ⟨o, es, ep, h1, h2, h3, h4, fun v hv => ?_, by rw [ek]; exact h6⟩, h5, h7, h8⟩
  obtain ⟨i, hi⟩ := List.mem_iff_getElem?.mp hv
  have key : ∃ y, ys[i]? = some y ∧ y.1 = v.1 ∧ y.2.1 = v.2.1 := by
    clear h4 h6 h7 r ek hv
    induction h5 generalizing i with
    | nil => cases hi
    | cons p q ih =>
      cases i with
      | zero => cases hi; exact ⟨_, rfl, p.1, p.2.1⟩
      | succ i => exact ih i (by simpa using hi)
  obtain ⟨y, hy, e1, e2⟩ := key
  have q := congrArg (fun z => z[i]?) r.2
  simp only [List.getElem?_map, hy, Option.map_some] at q
  obtain ⟨x, hx, ex⟩ := Option.map_eq_some_iff.mp q
  have ex1 : nk x.1 = some y.1 := congrArg Prod.fst ex
  obtain ⟨v', g1, g2⟩ := r.1.get (i := i) (d := x.1) (by rw [List.getElem?_map, hx]; rfl)
  rw [List.getElem?_map, hy] at g1
  cases g1
  have dp : (okK x.1).isSome = true := List.all_eq_true.mp hd x (List.mem_of_getElem? hx)
  obtain ⟨k, hk⟩ := Option.isSome_iff_exists.mp dp
  obtain ⟨k1, k2, _⟩ := okK_some hk
  rw [ex1] at k1
  cases k1
  rw [← e1, ← e2]
  exact ⟨nk_is I x.1 _ _ _ g2 ex1 rfl, k2⟩
/-! look, store -/
def dcGet (xs : List (Dt × Int)) (k : NestedKey) : Option Int := (xs.find? fun x => decide (nk x.1 = some k)).map (·.2)
def dcPut (xs : List (Dt × Int)) (d : Dt) (k : NestedKey) (v : Int) : List (Dt × Int) := if (dcGet xs k).isSome then xs.map fun x => if nk x.1 = some k then (x.1, v) else x else xs ++ [(d, v)]
theorem dc_get {xs : List (Dt × Int)} {ys : List (NestedKey × Addr × Int)} {vs : List (NestedKey × Addr × Value)} (k : NestedKey) (h : (xs.map fun x => (nk x.1, x.2)) = ys.map fun y => (some y.1, y.2.2)) (p : Paired (fun (y : NestedKey × Addr × Int) (v : NestedKey × Addr × Value) => y.1 = v.1 ∧ y.2.1 = v.2.1 ∧ RelV (.int y.2.2) v.2.2) ys vs) :
    (dcGet xs k = none ∧ atKey vs k = none) ∨ ∃ n b u, dcGet xs k = some n ∧ atKey vs k = some (b, u) ∧ RelV (.int n) u := by
  induction p generalizing xs with
  | nil =>
    cases xs with
    | nil => exact .inl ⟨rfl, rfl⟩
    | cons x xs => cases h
  | @cons y v ys vs q r ih =>
    cases xs with
    | nil => cases h
    | cons x xs =>
      rw [List.map_cons, List.map_cons] at h
      injection h with h1 h2
      injection h1 with h3 h4
      by_cases e : y.1 = k
      · refine .inr ⟨x.2, v.2.1, v.2.2, ?_, ?_, by rw [h4]; exact q.2.2⟩
        · unfold dcGet
          rw [List.find?_cons_of_pos (by rw [h3, e]; exact decide_eq_true rfl)]
          rfl
        · unfold atKey
          rw [List.find?_cons_of_pos (by rw [← q.1, e]; exact decide_eq_true rfl)]
          rfl
      · have e1 : dcGet (x :: xs) k = dcGet xs k := by
          unfold dcGet
          rw [List.find?_cons_of_neg (by rw [h3]; simpa using e)]
        have e2 : atKey (v :: vs) k = atKey vs k := by
          unfold atKey
          rw [List.find?_cons_of_neg (by rw [← q.1]; simpa using e)]
        rw [e1, e2]
        exact ih h2
end
/-- the dict of slot i, also while it is walked -/
def dictAt (ε : Ev) (i : Nat) : Option (List (Dt × Int)) := match ε[i]? with
  | some (.m xs) => if deepOk xs = true then some xs else none
  | some (.mf xs) => if deepOk xs = true then some xs else none
  | _ => none
section
variable {X : Cx} {W : WX} {pins : List (Addr × Obj)} {σ : L2.St} {H : Hp} {s : Shared} {P : Pv} {ε : Ev} {i : Nat} {xs : List (Dt × Int)}
/-- where it stands -/
def DcAt (X : Cx) (H : Hp) (P : Pv) (a : Addr) (xs : List (Dt × Int)) : Prop := ∃ ys, (H a = some (dcO X.w a ys) ∨ ∃ o, H a = some (.frz o (dcO X.w a ys))) ∧ DcOk X.K X.mg H P xs ys
theorem dictAt_slot (hw : X.w = TbC.w) (E : EOk X.K X.mg P σ H ε) (h : dictAt ε i = some xs) : deepOk xs = true ∧ ∃ a, σ[i]?.join = some (.ref a) ∧ DcAt X H P a xs := by
  unfold dictAt at h
  unfold DcAt
  rw [hw]
  cases e : ε[i]? with
  | none => rw [e] at h; cases h
  | some l =>
    have z := E.sl i l e
    rw [e] at h
    cases l with
    | m zs =>
      dsimp only at h
      split at h
      · cases h
        obtain ⟨a, ys, q, _, h1, r⟩ := z
        exact ⟨by assumption, a, q, ys, .inl h1, r⟩
      · cases h
    | mf zs =>
      dsimp only at h
      split at h
      · cases h
        obtain ⟨a, o, ys, q, h1, r⟩ := z
        exact ⟨by assumption, a, q, ys, .inr ⟨o, h1⟩, r⟩
      · cases h
    | _ => cases h
theorem DcAt.ext {H1 : Hp} {a : Addr} (h : DcAt X H P a xs) (e : Ext H H1) : DcAt X H1 P a xs := by
  obtain ⟨ys, z, r⟩ := h
  refine ⟨ys, z.imp (fun z => e.at_ z nt_dc) (fun ⟨o, z⟩ => ⟨o, e.at_ z nt_frz⟩), r.tr (Tr.of e)⟩
theorem DcAt.dc (I : Inv X pins σ H s) {a : Addr} (h : DcAt X H P a xs) : ∃ ys, dcV X.w a ys s.heap ∧ DcOk X.K X.mg H P xs ys := by
  obtain ⟨ys, z | ⟨o, z⟩, r⟩ := h
  · exact ⟨ys, (I.hok a _ z).1, r⟩
  · exact ⟨ys, (I.hok a _ z).2.1, r⟩
theorem dc_type {a : Addr} {ys : List (NestedKey × Addr × Int)} (d : dcV X.w a ys s.heap) : s.TypeIs (.ref a) "dict" ∧ ∀ b, Value.ref a = .ref b → ∃ ob, s.heap.get? b = some ob ∧ ob.dict = none := by
  obtain ⟨o, _, _, _, h1, h2, _⟩ := d
  exact ⟨⟨o, h1, h2.1⟩, fun b e => by cases e; exact ⟨o, h1, h2.2.1⟩⟩
/-- d.get(k, e) -/
def dgetF (i : Nat) (f g : Fn) : Fn := fun ε => match dictAt ε i with
  | some xs => (f ε).bind fun kd => (g ε).bind fun e => match okK kd, e with
    | some k, .int n => .ok (.int ((dcGet xs k).getD n))
    | _, _ => .bad
  | none => .bad
theorem pd_dget2 (i : Nat) {x : Str} {px apos cpos : Pos} {k e : Expr} {f g : Fn} (hw : X.w = TbC.w) (hu : X.A.units + 64 < cLine) (hk : PD X W k f) (he : PD X W e g) (m : M2 X (.Name x px) "get" apos k e cpos := by exact ⟨rfl, rfl, rfl, rfl⟩) (hN : X.N[i]? = some x := by rfl)
    (hv : Vis X.env.scope x := by first | exact Or.inl rfl | exact Or.inr (Or.inl rfl) | exact Or.inr (Or.inr rfl)) (hd : (x == ("__debug__" : Str)) = false := by decide) (hcd : (x == ("__classdict__" : Str)) = false := by decide) :
    PD X W (.Call (.Attribute (.Name x px) "get" apos) [k, e] [] cpos) (dgetF i f g) := by
  refine ⟨fun pins s σ H Q I ⟨P, ε, E, q⟩ => ?_⟩
  unfold dgetF at q
  cases hx : dictAt ε i with
  | none => rw [hx] at q; exact q.elim
  | some xs =>
    rw [hx] at q
    obtain ⟨dp, a, hs, D⟩ := dictAt_slot hw E hx
    refine wpAny_Call_method m.base m.few m.line PySem.F.plainAttrs_dict PySem.F.slot_dict_get PySem.F.type_dict_get (thn ((pe_var (pos := px) (i := i) hN hv hd hcd).run pins s σ H (fun v H1 => v = .ref a ∧ H1 = H) I ⟨.ref a, slot_some hs, rfl, rfl⟩) fun u s1 ⟨v, H1, I1, ru, ev, eH⟩ => ?_)
    subst ev eH
    obtain rfl : u = Value.ref a := ru
    obtain ⟨ys1, d1, _⟩ := D.dc I1
    refine ⟨(dc_type d1).1, (dc_type d1).2, ?_⟩
    rw [m.trees]
    refine Calls.callWith_builtin rfl (Calls.evalArgs_plain (Calls.spliced_cons (thn (hk.run pins s1 σ H1 (fun v H2 => Ext H1 H2 ∧ ∃ kd, Rep X.K X.mg H2 P kd v ∧ Out X W σ H1 ((g ε).bind fun e => match okK kd, e with
      | some k, .int n => .ok (.int ((dcGet xs k).getD n))
      | _, _ => .bad) fun d => ∀ v H', Ext H1 H' → Rep X.K X.mg H' P d v → Q v H') I1 ⟨P, ε, E, q.bind.mono fun kd q v H2 x2 r2 => ⟨x2, kd, r2, q⟩⟩) fun ku s2 ⟨kv, H2, I2, rk, x2, kd, r2, q2⟩ =>
      Calls.spliced_cons (thn (he.run pins s2 σ H2 (fun v H3 => Ext H2 H3 ∧ ∃ d, Rep X.K X.mg H3 P d v ∧ Out X W σ H1 (match okK kd, d with
      | some k, .int n => .ok (.int ((dcGet xs k).getD n))
      | _, _ => .bad) fun d => ∀ v H', Ext H1 H' → Rep X.K X.mg H' P d v → Q v H') I2 ⟨P, ε, E.ext x2, (q2.bind.ext x2).mono fun d q v H3 x3 r3 => ⟨x3, d, r3, q⟩⟩) fun eu s3 ⟨evv, H3, I3, re, x3, d, r3, q3⟩ => Calls.spliced_nil ?_))))
    cases ok : okK kd with
    | none => rw [ok] at q3; exact q3.elim
    | some key =>
      cases d with
      | int n =>
        rw [ok] at q3
        have q3 : ∀ v H', Ext H1 H' → Rep X.K X.mg H' P (.int ((dcGet xs key).getD n)) v → Q v H' := q3
        obtain ⟨n1, n2, ds, rfl⟩ := okK_some ok
        · obtain ⟨b, vs, rfl, g1, g2⟩ := r2.ext x3
          obtain rfl : ku = Value.ref b := rk
          have D3 := (D.ext x2).ext x3
          obtain ⟨ys, d3, ro⟩ := D3.dc I3
          obtain ⟨vs', hm, pr, hl, hsm⟩ := dco_of I3 d3 ro dp
          have hkey : (nestedKind X.prog X.w).is s3.heap key b := ⟨nk_is I3 (.tup ds) (.ref b) (.ref b) key ⟨b, vs, rfl, g1, g2⟩ n1 rfl, n2⟩
          refine getOr_keyed (knd := nestedKind X.prog X.w) (show X.A.units + 1 + 8 < cLine by omega) hkey hsm ⟨vs', hm, rfl⟩ ?_
          rw [valueAt_pairsH]
          have re : RelV (V.int n) eu := by rw [← show evv = V.int n from r3]; exact re
          rcases dc_get key ro.2 pr with ⟨h1, h2⟩ | ⟨nn, bb, uu, h1, h2, h3⟩
          · rw [h1] at q3
            rw [h2]
            exact ⟨.int n, H3, I3.tok _, re, q3 _ H3 (x2.trans x3) rfl⟩
          · rw [h1] at q3
            rw [h2]
            exact ⟨.int nn, H3, I3.tok _, h3, q3 _ H3 (x2.trans x3) rfl⟩
      | _ => rw [ok] at q3; exact q3.elim
/-- d[k], it is there -/
def dixF (i : Nat) (f : Fn) : Fn := fun ε => match dictAt ε i with
  | some xs => (f ε).bind fun kd => .ofO ((okK kd).bind fun k => (dcGet xs k).map .int)
  | none => .bad
theorem pd_dix (i : Nat) {x : Str} {px pos : Pos} {k : Expr} {f : Fn} (hw : X.w = TbC.w) (hu : X.A.units + 64 < cLine) (hk : PD X W k f) (hs : NoSl k := by exact fun _ _ => rfl) (hN : X.N[i]? = some x := by rfl)
    (hv : Vis X.env.scope x := by first | exact Or.inl rfl | exact Or.inr (Or.inl rfl) | exact Or.inr (Or.inr rfl)) (hd : (x == ("__debug__" : Str)) = false := by decide) (hcd : (x == ("__classdict__" : Str)) = false := by decide) :
    PD X W (.Subscript (.Name x px) k pos) (dixF i f) := by
  refine ⟨fun pins s σ H Q I ⟨P, ε, E, q⟩ => ?_⟩
  unfold dixF at q
  cases hx : dictAt ε i with
  | none => rw [hx] at q; exact q.elim
  | some xs =>
    rw [hx] at q
    obtain ⟨dp, a, hs', D⟩ := dictAt_slot hw E hx
    refine subD_of PySem.F.slot_dict_getitem.lookup hs (thn ((pe_var (pos := px) (i := i) hN hv hd hcd).run pins s σ H (fun v H1 => v = .ref a ∧ H1 = H) I ⟨.ref a, slot_some hs', rfl, rfl⟩) fun u s1 ⟨v, H1, I1, ru, ev, eH⟩ =>
      thn (hk.run pins s1 σ H1 (fun v H2 => Ext H1 H2 ∧ ∃ kd, Rep X.K X.mg H2 P kd v ∧ Out X W σ H1 (.ofO ((okK kd).bind fun k => (dcGet xs k).map .int)) fun d => ∀ v H', Ext H1 H' → Rep X.K X.mg H' P d v → Q v H') I1 ⟨P, ε, by rw [eH]; exact E, by rw [eH]; exact q.bind.mono fun kd q v H2 x2 r2 => ⟨x2, kd, r2, q⟩⟩) fun ku s2 ⟨kv, H2, I2, rk, x2, kd, r2, q2⟩ => ?_)
    subst ev eH
    obtain rfl : u = Value.ref a := ru
    obtain ⟨d, hd', q3⟩ := q2.ofO
    obtain ⟨key, ok, hd'⟩ := Option.bind_eq_some_iff.mp hd'
    obtain ⟨n, hn, rfl⟩ := Option.map_eq_some_iff.mp hd'
    obtain ⟨n1, n2, ds, rfl⟩ := okK_some ok
    obtain ⟨b, vs, rfl, g1, g2⟩ := r2
    obtain rfl : ku = Value.ref b := rk
    obtain ⟨ys, d3, ro⟩ := (D.ext x2).dc I2
    obtain ⟨vs', hm, pr, hl, hsm⟩ := dco_of I2 d3 ro dp
    have hkey : (nestedKind X.prog X.w).is s2.heap key b := ⟨nk_is I2 (.tup ds) (.ref b) (.ref b) key ⟨b, vs, rfl, g1, g2⟩ n1 rfl, n2⟩
    refine ⟨(dc_type d3).1, ?_⟩
    rcases dc_get key ro.2 pr with ⟨h1, h2⟩ | ⟨nn, bb, uu, h1, h2, h3⟩
    · rw [h1] at hn; cases hn
    · rw [h1] at hn
      cases hn
      exact getItem_keyed (knd := nestedKind X.prog X.w) (show X.A.units + 1 + 8 < cLine by omega) hkey ⟨vs', hm, rfl⟩ (by rw [valueAt_pairsH, h2]; rfl) ⟨.int n, H2, I2.tok _, h3, q3 _ H2 x2 rfl⟩
/-! d = {} -/
def dnewS (i : Nat) : Sg := fun ε => .ok (.nx (ε.set i (.m [])))
theorem pe_dnew0 {pos : Pos} : PE X (.Dict [] [] pos) (fun _ H Q => ∀ d, H d = none → Q (.ref d) (upd H d (dcO X.w d []))) := ⟨fun pins s σ H Q I h => by
  have at_ : (s.heap.push { cls := .type "dict", data := .dict #[] }).get? s.heap.objs.size = some { cls := .type "dict", data := .dict #[] } := Heap.get?_push_size _ rfl
  refine wpAny_Dict_empty ⟨.ref s.heap.objs.size, _, I.laid (a := s.heap.objs.size) (o := dcO X.w s.heap.objs.size []) (t' := s.toks) (fun _ _ z => Heap.get?_push_of_some _ z) (Nat.le_refl _) (dco_ok ?_), rfl, h _ (I.hok.fresh (Nat.le_refl _))⟩
  have hb : sysModules < s.heap.objs.size := I.big
  exact ⟨_, #[], _, [], at_, ⟨rfl, rfl, rfl⟩, rfl, rfl, .nil, .nil, Nat.zero_le _, by rw [beq_eq_false_iff_ne]; exact fun z => by rw [z] at hb; exact Nat.lt_irrefl _ hb⟩⟩
/-- a new thing of one's own -/
theorem SOk.ownX {K : PySem.W.Frag} {mg : Mg} {F : Frm} {σ : L2.St} {H H' : Hp} {ε : Ev} (S : SOk K mg F σ H ε) (e : Ext H H') {p : Addr} (hp : Fresh H p) (i : Nat) (l1 : Lc) (h1 : l1.isO) (hk : OwnK H' p) (sl : SlotOk K mg H' (more (prv F σ ε) p) l1 (some (.ref p))) : SOk K mg F (σ.set i (some (.ref p))) H' (ε.set i l1) := by
  have S1 := S.ext e
  have npv : ¬ prv F σ ε p := S.e.ne hp
  have at_ : ∀ (j : Nat) (l : Lc), (ε.set i l1)[j]? = some l → (j = i ∧ l = l1 ∧ i < ε.length) ∨ (j ≠ i ∧ ε[j]? = some l) := fun j l h => by
    by_cases hj : i = j
    · subst hj
      by_cases hi : i < ε.length
      · rw [List.getElem?_set_self hi] at h; cases h; exact .inl ⟨rfl, rfl, hi⟩
      · rw [List.getElem?_eq_none (by rw [List.length_set]; omega)] at h; cases h
    · rw [List.getElem?_set_ne hj] at h
      exact .inr ⟨fun z => hj z.symm, h⟩
  have at_i : i < ε.length → (σ.set i (some (V.ref p)))[i]?.join = some (.ref p) := fun hi => by rw [List.getElem?_set_self (by rw [← S.e.ln]; exact hi)]; rfl
  have at_j : ∀ {j : Nat}, j ≠ i → (σ.set i (some (V.ref p)))[j]? = σ[j]? := fun hj => List.getElem?_set_ne (fun z => hj z.symm)
  have ow : ∀ a, ownA (σ.set i (some (.ref p))) (ε.set i l1) a → ownA σ ε a ∨ a = p := fun a ⟨j, l, h1, h2, h3⟩ => by
    rcases at_ j l h1 with ⟨rfl, rfl, hi⟩ | ⟨hj, h⟩
    · rw [at_i hi] at h3
      cases h3
      exact .inr rfl
    · rw [at_j hj] at h3
      exact .inl ⟨j, l, h, h2, h3⟩
  have nt : ∃ o, H' p = some o ∧ ∀ ps, o ≠ .tbl ps := by
    rcases hk with ⟨xs, h⟩ | ⟨C, dx, fs, h⟩ | ⟨w, a, ys, h⟩
    · exact ⟨_, h, nt_lst⟩
    · exact ⟨_, h, nt_ins⟩
    · exact ⟨_, h, nt_dc⟩
  have E2 : EOk K mg (more (prv F σ ε) p) (σ.set i (some (.ref p))) H' (ε.set i l1) := by
    refine ⟨by rw [List.length_set, List.length_set, S.e.ln], fun a h => ?_, fun j l h => ?_, S1.e.tb⟩
    · rcases h with h | h
      · exact S1.e.tk a h
      · rw [h]; exact nt
    · rcases at_ j l h with ⟨rfl, rfl, hi⟩ | ⟨hj, h⟩
      · rw [at_i hi]
        exact sl
      · rw [at_j hj]
        exact ((S.e.sl j l h).more hp).ext e
  refine ⟨E2.less (fun a h => ?_) fun a h => .inr h, S1.x, S.p, fun j l a h1 h2 h3 => ?_, fun j xs a h1 h3 => ?_, fun j k l l' a hn h1 h2 h3 h4 h5 => ?_⟩
  · rcases h with h | h
    · exact .inl (.inl h)
    · rcases ow a h with h | h
      · exact .inl (.inr h)
      · exact .inr h
  · rcases at_ j l h1 with ⟨rfl, rfl, hi⟩ | ⟨hj, h⟩
    · rw [at_i hi] at h3
      cases h3
      by_cases hm : F.M p
      · exact .inr hm
      · exact .inl (S.x.fresh hp hm)
    · rw [at_j hj] at h3
      exact S.f j l a h h2 h3
  · rcases at_ j _ h1 with ⟨rfl, _, hi⟩ | ⟨hj, h⟩
    · rw [at_i hi] at h3
      cases h3
      exact fun z => npv (.inl z)
    · rw [at_j hj] at h3
      exact S.n j xs a h h3
  · rcases at_ j l h1 with ⟨rfl, rfl, hi⟩ | ⟨hj, h⟩
    · rw [at_i hi] at h5
      cases h5
      rcases at_ k l' h3 with ⟨rfl, _⟩ | ⟨hk', h⟩
      · exact absurd rfl hn
      · rw [at_j hk']
        exact fun z => npv (.inr ⟨k, l', h, h4, z⟩)
    · rw [at_j hj] at h5
      rcases at_ k l' h3 with ⟨rfl, rfl, hi⟩ | ⟨hk', h'⟩
      · rw [at_i hi]
        intro z
        cases z
        exact npv (.inr ⟨j, l, h, h2, h5⟩)
      · rw [at_j hk']
        exact S.d j k l l' a hn h h2 h' h4 h5
theorem sd_dnew {i : Nat} {x : Str} {pos pos' pos2 : Pos} (hw : X.w = TbC.w) (hN : X.N.Nodup) (hi : X.N[i]? = some x := by rfl) (hx : Loc X.env.scope x := by first | exact Or.inl rfl | exact Or.inr rfl) (hs : swapsWith (.Dict [] [] pos2) (some (.Name x pos')) pos.line X.env = pure false := by rfl)
    (hf : X.fn x = true ∨ X.env.scope.names.lookup x = some .local := by first | exact .inl rfl | exact .inr rfl | assumption) : SD X W (.Assign [.Name x pos'] (.Dict [] [] pos2) pos) (dnewS i) := fun F => ps_weak (ps_set hN hi hx pe_dnew0 hs hf) fun D σ H ⟨ε, S, q⟩ => by
  intro d hd
  rw [hw]
  exact q _ _ (S.ownX (Ext.new hd) (.of hd) i (.m []) trivial (.inr (.inr ⟨_, _, _, upd_same⟩)) ⟨d, [], rfl, .inr rfl, upd_same, rfl, rfl⟩)
/-! d[k] = v -/
def dputR (i : Nat) (ε : Ev) (xs : List (Dt × Int)) (kd v : Dt) : Rs := match okK kd, v with
  | some k, .int n => if deepOk xs = true ∧ xs.length < sizeLine then .ok (.nx (ε.set i (.m (dcPut xs kd k n)))) else .bad
  | _, _ => .bad
def dputV (i : Nat) (f : Fn) (ε : Ev) (v : Dt) : Rs := match ε[i]? with
  | some (.m xs) => (exS ε (f ε)).bind fun kd => dputR i ε xs kd v
  | _ => .bad
def dputS (i : Nat) (f g : Fn) : Sg := fun ε => (exS ε (g ε)).bind fun v => dputV i f ε v
theorem storedH_pr {ys : List (NestedKey × Addr × Int)} {vs : List (NestedKey × Addr × Value)} (p : Paired (fun (y : NestedKey × Addr × Int) (v : NestedKey × Addr × Value) => y.1 = v.1 ∧ y.2.1 = v.2.1 ∧ RelV (.int y.2.2) v.2.2) ys vs) (k : NestedKey) (n : Int) (u : Value) (ru : RelV (.int n) u) :
    Paired (fun (y : NestedKey × Addr × Int) (v : NestedKey × Addr × Value) => y.1 = v.1 ∧ y.2.1 = v.2.1 ∧ RelV (.int y.2.2) v.2.2) (ys.map fun y => if y.1 = k then (y.1, y.2.1, n) else y) (vs.map (putAt k u)) := by
  induction p with
  | nil => exact .nil
  | @cons y v ys vs q r ih =>
    refine .cons ?_ ih
    unfold putAt
    dsimp only
    by_cases e : y.1 = k
    · rw [if_pos e, if_pos (by rw [← q.1]; exact e)]
      exact ⟨q.1, q.2.1, ru⟩
    · rw [if_neg e, if_neg (by rw [← q.1]; exact e)]
      exact q
theorem dc_put {K : PySem.W.Frag} {mg : Mg} {xs : List (Dt × Int)} {ys : List (NestedKey × Addr × Int)} {kd : Dt} {k : NestedKey} {b : Addr} {n : Int} (r : DcOk K mg H P xs ys) (hk : Rep K mg H P kd (.ref b)) (nk_ : nk kd = some k) :
    DcOk K mg H P (dcPut xs kd k n) (if (dcGet xs k).isSome then ys.map (fun y => if y.1 = k then (y.1, y.2.1, n) else y) else ys ++ [(k, b, n)]) := by
  unfold dcPut
  by_cases hh : (dcGet xs k).isSome = true
  · rw [if_pos hh, if_pos hh]
    clear hh
    have e1 : (xs.map fun x => if nk x.1 = some k then (x.1, n) else x).map (·.1) = xs.map (·.1) := by
      rw [List.map_map]
      refine List.map_congr_left fun x _ => ?_
      show (if nk x.1 = some k then (x.1, n) else x).1 = x.1
      split <;> rfl
    have e2 : (ys.map fun y => if y.1 = k then (y.1, y.2.1, n) else y).map (fun y => V.ref y.2.1) = ys.map fun y => V.ref y.2.1 := by
      rw [List.map_map]
      refine List.map_congr_left fun y _ => ?_
      show V.ref (if y.1 = k then (y.1, y.2.1, n) else y).2.1 = V.ref y.2.1
      split <;> rfl
    refine ⟨by rw [e1, e2]; exact r.1, ?_⟩
    have z := r.2
    clear r e1 e2 hk
    induction xs generalizing ys with
    | nil =>
      cases ys with
      | nil => rfl
      | cons _ _ => cases z
    | cons x xs ih =>
      cases ys with
      | nil => cases z
      | cons y ys =>
        rw [List.map_cons, List.map_cons] at z
        injection z with z1 z2
        injection z1 with z3 z4
        rw [List.map_cons, List.map_cons, List.map_cons, List.map_cons, ih z2]
        congr 1
        by_cases e : y.1 = k
        · rw [if_pos e, if_pos (by rw [z3, e])]
          exact Prod.ext z3 rfl
        · rw [if_neg e, if_neg (fun w => e (by rw [z3] at w; exact Option.some.inj w))]
          exact Prod.ext z3 z4
  · rw [if_neg hh, if_neg hh]
    refine ⟨?_, ?_⟩
    · rw [List.map_append, List.map_append]
      exact r.1.append ⟨_, _, rfl, hk, rfl⟩
    · rw [List.map_append, List.map_append, r.2]
      show _ ++ [(nk kd, n)] = _ ++ [(some k, n)]
      rw [nk_]
theorem paired_app {α β : Type} {R : α → β → Prop} {as cs : List α} {bs ds : List β} (p : Paired R as bs) (q : Paired R cs ds) : Paired R (as ++ cs) (bs ++ ds) := by
  induction p with
  | nil => exact q
  | cons h _ ih => exact .cons h ih
theorem find_same {xs : List (Dt × Int)} {ys : List (NestedKey × Addr × Int)} {vs : List (NestedKey × Addr × Value)} {k : NestedKey} (h : (xs.map fun x => (nk x.1, x.2)) = ys.map fun y => (some y.1, y.2.2)) (p : Paired (fun (y : NestedKey × Addr × Int) (v : NestedKey × Addr × Value) => y.1 = v.1 ∧ y.2.1 = v.2.1 ∧ RelV (.int y.2.2) v.2.2) ys vs) :
    (dcGet xs k).isSome = (atKey vs k).isSome := by
  rcases dc_get k h p with ⟨h1, h2⟩ | ⟨_, _, _, h1, h2, _⟩ <;> (rw [h1, h2]; try rfl)
theorem sd_dput (i : Nat) {x : Str} {px pos' pos : Pos} {k e : Expr} {f g : Fn} (hw : X.w = TbC.w) (hu : X.A.units + 64 < cLine) (hk : PD X W k f) (he : PD X W e g) (hN : X.N[i]? = some x := by rfl) (hs : swapsWith e (some (.Subscript (.Name x px) k pos')) pos.line X.env = pure false := by rfl)
    (hv : Vis X.env.scope x := by first | exact Or.inl rfl | exact Or.inr (Or.inl rfl) | exact Or.inr (Or.inr rfl)) (hd : (x == ("__debug__" : Str)) = false := by decide) (hcd : (x == ("__classdict__" : Str)) = false := by decide) :
    SD X W (.Assign [.Subscript (.Name x px) k pos'] e pos) (dputS i f g) := fun F => by
  refine ⟨fun pins s σ H D I ⟨ε, S, q⟩ => ?_⟩
  unfold dputS at q
  refine wpAny_Assign_Subscript (thn (he.run pins s σ H (fun v H1 => Ext H H1 ∧ ∃ d, Rep X.K X.mg H1 (prv F σ ε) d v ∧ SOut X F W D (dputV i f ε d)) I ⟨_, ε, S.e, (q.exp S).mono fun d q v H1 x1 r1 => ⟨x1, d, r1, q⟩⟩) fun eu s1 ⟨ev, H1, I1, re, x1, d, r1, q1⟩ => ?_) hs
  unfold dputV at q1
  cases hx : ε[i]? with
  | none => rw [hx] at q1; exact q1.elim
  | some l =>
    cases l with
    | m xs =>
      rw [hx] at q1
      have q1 : SOut X F W D ((exS ε (f ε)).bind fun kd => dputR i ε xs kd d) := q1
      have S1 := S.ext x1
      obtain ⟨a, ys0, hs', _, h0, _⟩ := S1.e.sl i _ hx
      refine thn ((pe_var (pos := px) (i := i) hN hv hd hcd).run pins s1 σ H1 (fun v H2 => v = .ref a ∧ H2 = H1) I1 ⟨.ref a, slot_some hs', rfl, rfl⟩) fun u s2 ⟨v, H2, I2, ru, e1, e2⟩ => ?_
      subst e1 e2
      obtain rfl : u = Value.ref a := ru
      refine thn (hk.run pins s2 σ H2 (fun v H3 => Ext H2 H3 ∧ ∃ kd, Rep X.K X.mg H3 (prv F σ ε) kd v ∧ SOut X F W D (dputR i ε xs kd d)) I2 ⟨_, ε, S1.e, (SOut.exp S1 q1).mono fun kd q v H3 x3 r3 => ⟨x3, kd, r3, q⟩⟩) fun ku s3 ⟨kv, H3, I3, rk, x3, kd, r3, q3⟩ => ?_
      unfold dputR at q3
      cases ok : okK kd with
      | none => rw [ok] at q3; exact q3.elim
      | some key =>
        cases d with
        | int n =>
          rw [ok] at q3
          dsimp only at q3
          by_cases z : deepOk xs = true ∧ xs.length < sizeLine
          · rw [if_pos z] at q3
            obtain ⟨n1, n2, ds, rfl⟩ := okK_some ok
            obtain ⟨b, vs, rfl, g1, g2⟩ := r3
            obtain rfl : ku = Value.ref b := rk
            have S3 := S1.ext x3
            obtain ⟨a', ys, hs3, p3, h3, ro⟩ := S3.e.sl i _ hx
            rw [hs'] at hs3
            cases hs3
            rw [← hw] at h3
            have d3 : dcV X.w a ys s3.heap := (I3.hok a _ h3).1
            obtain ⟨vs', hm, pr, hl, hsm⟩ := dco_of I3 d3 ro z.1
            have hkey : (nestedKind X.prog X.w).is s3.heap key b := ⟨nk_is I3 (.tup ds) (.ref b) (.ref b) key ⟨b, vs, rfl, g1, g2⟩ n1 rfl, n2⟩
            have re : RelV (V.int n) eu := by rw [← show ev = V.int n from r1]; exact re
            have lxy : xs.length = ys.length := by simpa using congrArg List.length ro.2
            have lyv : ys.length = vs'.length := Paired.length pr
            refine wpAny_setItem_heap (knd := nestedKind X.prog X.w) (show X.A.units + 1 + 8 < cLine by omega) hkey hm (fun h' hm' sb => ?_) (by omega)
            let ys' := if (dcGet xs key).isSome then ys.map (fun y => if y.1 = key then (y.1, y.2.1, n) else y) else ys ++ [(key, b, n)]
            have hpr : Paired (fun (y : NestedKey × Addr × Int) (v : NestedKey × Addr × Value) => y.1 = v.1 ∧ y.2.1 = v.2.1 ∧ RelV (.int y.2.2) v.2.2) ys' (storedH vs' key b eu) := by
              show Paired _ (if (dcGet xs key).isSome then _ else _) (if (atKey vs' key).isSome then _ else _)
              rw [find_same ro.2 pr]
              split
              · exact storedH_pr pr key n eu re
              · exact paired_app pr (.cons ⟨rfl, rfl, re⟩ .nil)
            obtain ⟨o', es', ep', g1', g2', g3', g4', _, g6'⟩ := hm'
            have ek : ys'.map (·.1) = (storedH vs' key b eu).map (·.1) := by
              clear g4' g6'
              revert hpr
              generalize storedH vs' key b eu = zs
              generalize ys' = ws
              intro hpr
              induction hpr with
              | nil => rfl
              | cons p _ ih => rw [List.map_cons, List.map_cons, ih, p.1]
            have ly : ys'.length ≤ sizeLine := by
              show (if (dcGet xs key).isSome then ys.map (fun y => if y.1 = key then (y.1, y.2.1, n) else y) else ys ++ [(key, b, n)]).length ≤ _
              split
              · rw [List.length_map]; omega
              · rw [List.length_append, List.length_singleton]; omega
            have dv : dcV X.w a ys' h' := ⟨o', es', ep', _, g1', g2', g3', g4', hpr, by rw [ek]; exact g6', ly, hsm⟩
            have I4 : Inv X pins σ (upd H3 a (dcO X.w a ys')) { s3 with heap := h', toks := s3.toks + (nestedKind X.prog X.w).draws key } :=
              I3.write (x := a) (e := a) (by rw [h3]; exact trivial) (.inl rfl) (fun c u hc hu => (sb.2 c hc).trans hu) ⟨o', g1'⟩ (dco_ok dv)
            refine ⟨σ, _, I4, q3 σ _ ?_⟩
            rw [hw]
            refine S3.put (l1 := .m (dcPut xs (.tup ds) key n)) hx trivial trivial (fun _ z => nomatch z) hs' nt_dc ⟨a, ys', rfl, p3, upd_same, ?_⟩
            refine DcOk.tr (Tr.write p3 (.inr (.inr ⟨_, _, _, h3⟩))) (dc_put ro ⟨b, vs, rfl, g1, g2⟩ n1)
          · rw [if_neg z] at q3; exact q3.elim
        | _ => rw [ok] at q3; exact q3.elim
    | _ => rw [hx] at q1; exact q1.elim
end
end DL
end
section
set_option Elab.async false
set_option linter.all false
set_option maxRecDepth 100000
set_option maxHeartbeats 800000
set_option autoImplicit false
namespace DL
open PySem PySem.Spec PyProof.Rows L2
variable [TbC]
/-! ### a dict is walked -/
def Itm (w : World) (d : Addr) (o : Obj) (ys : List (NestedKey × Addr × Int)) : It where
  go := fun i H => H d = some (.frz o (dcO w d ys)) ∧ i < ys.length
  yld := fun i H x H' => H' = H ∧ ∃ y : NestedKey × Addr × Int, ys[i]? = some y ∧ x = .ref y.2.1
  stop := fun i H => H d = some (.frz o (dcO w d ys)) ∧ ys.length ≤ i
theorem paired_at {α β : Type} {R : α → β → Prop} {as : List α} {bs : List β} {i : Nat} {a : α} (p : Paired R as bs) (h : as[i]? = some a) : ∃ b, bs[i]? = some b ∧ R a b := by
  induction p generalizing i with
  | nil => cases h
  | cons q _ ih =>
    cases i with
    | zero => cases h; exact ⟨_, rfl, q⟩
    | succ i => exact ih (by simpa using h)
section
variable {X : Cx} {W : WX} {pins : List (Addr × Obj)} {σ : L2.St} {H : Hp} {s : Shared} {P : Pv} {d : Addr} {o : Obj} {ys : List (NestedKey × Addr × Int)}
theorem frzM (I : Inv X pins σ H s) (h : H d = some (.frz o (dcO X.w d ys))) : (d == sysModules) = false ∧ s.heap.get? d = some o ∧ o.ExactDict ∧ ∃ (es : Array DictEntry) (ep : Nat), o.data = .dict es ep ∧ es.size = ys.length ∧
    ∀ (i : Nat) (y : NestedKey × Addr × Int), ys[i]? = some y → ∃ en : DictEntry, es[i]? = some en ∧ en.key = .ref y.2.1 := by
  obtain ⟨hg, ⟨o', es, ep, vs, h1, h2, h3, h4, h5, h6, h7, h8⟩, _⟩ := I.hok d _ h
  rw [hg] at h1
  cases h1
  have ly : ys.length = vs.length := Paired.length h5
  refine ⟨h8, hg, h2, es, ep, h3, ?_, fun i y hy => ?_⟩
  · have := congrArg List.length h4
    rw [List.length_map, Array.length_toList] at this
    omega
  · obtain ⟨v, hv, _, e, _⟩ := paired_at h5 hy
    refine ⟨⟨v.1.hash X.w, .ref v.2.1, v.2.2⟩, ?_, by rw [e]⟩
    rw [← Array.getElem?_toList, h4, List.getElem?_map, hv]
    rfl
end
theorem turn_m {Pr : Program} {w : World} {K : PySem.W.Frag} {tg : Expr} {d : Addr} {o : Obj} {es : Array DictEntry} {ep : Nat} {ys : List (NestedKey × Addr × Int)} (it : Addr) (hdat : o.data = .dict es ep) :
    Turn Pr w K tg (Itm w d o ys) [it] it (fun n hp => hp.IsKeyIter it d n ys.length ep) where
  mem := List.mem_singleton.mpr rfl
  obj := fun n hp ki b mb => by
    rw [List.mem_singleton.mp mb]
    obtain ⟨ob, g1, _, g3⟩ := ki
    exact ⟨ob, g1, fun v z => by rw [g3] at z; exact nomatch z⟩
  keep := fun n hp hp' ki kk => ki.at fun ob g => kk it (List.mem_singleton.mpr rfl) ob g
  item := by
    intro X eP eW eK calm n pins s σ H E I fp ki hgo
    subst eP eW eK
    obtain ⟨hfz, hlt⟩ := hgo
    obtain ⟨p0, p1, p2, p3, p4, p5⟩ := fp it (List.mem_singleton.mpr rfl)
    obtain ⟨q1, q2, q3, es2, ep2, q4, q5, q6⟩ := frzM I hfz
    rw [hdat] at q4
    cases q4
    obtain ⟨y, hy⟩ : ∃ y, ys[n]? = some y := ⟨ys[n], List.getElem?_eq_getElem hlt⟩
    obtain ⟨en, e1, e2⟩ := q6 n y hy
    refine next_key_item ki q2 hdat q5 e1 fun hp' ki' same => ?_
    have J : Inv X pins σ H { s with heap := hp' } := I.turned (t' := s.toks) (fun b u hb g => (same.2 b hb).trans g) p0 p1 p3 p4 p5
    obtain ⟨ob, g1, g2, g3⟩ := id ki'
    exact ⟨en.key, rfl, go_of (s := { s with heap := hp' }) g1 g2 g3 (by decide) ⟨.ref y.2.1, H, J, e2, ⟨rfl, y, hy, rfl⟩, ki', fun b mb => (fp b mb).1⟩⟩
  done := by
    intro X eP eW eK calm n pins s σ H E I fp ki hst
    subst eP eW eK
    obtain ⟨hfz, hle⟩ := hst
    obtain ⟨p0, p1, p2, p3, p4, p5⟩ := fp it (List.mem_singleton.mpr rfl)
    obtain ⟨q1, q2, q3, es2, ep2, q4, q5, q6⟩ := frzM I hfz
    rw [hdat] at q4
    cases q4
    exact next_key_end (I.ok.hd calm) ki q2 hdat q5 hle fun hp' keep => ⟨rfl, I.turned (t' := s.toks) (fun b u hb g => keep b u hb g) p0 p1 p3 p4 p5⟩
  self := fun A n s Q E ki hq => by
    have ty := ki.typeIs
    refine wpAny_pyIter_slot ty F.slot_dict_keyiterator_iter (wpAny_call_entry F.slot_dict_keyiterator_iter ty F.entry_dict_keyiterator_iter ?_ (F.args_dict_keyiterator_iter_1 _))
    exact wpAny_pure ⟨_, rfl, "dict_keyiterator", _, ty, F.slot_dict_keyiterator_next.lookup, hq⟩
section
variable {X : Cx} {W : WX} {i : Nat} {x : Str} {px : Pos} {tg : Expr}
theorem pi_m (hN : X.N[i]? = some x) (hv : Vis X.env.scope x) (hd : (x == ("__debug__" : Str)) = false) (hcd : (x == ("__classdict__" : Str)) = false) :
    PI X tg (.Name x px) (fun σ H R => ∃ d o ys, σ[i]? = some (some (.ref d)) ∧ H d = some (.frz o (dcO X.w d ys)) ∧ R (Itm X.w d o ys) H) := by
  refine ⟨fun pins s σ H R I ⟨d, o, ys, hs, hf, q⟩ => ?_⟩
  refine thn ((pe_var (pos := px) (i := i) hN hv hd hcd).run pins s σ H (fun v H1 => v = .ref d ∧ H1 = H) I ⟨.ref d, hs, rfl, rfl⟩) fun u s1 ⟨v, H1, I1, ru, e1, e2⟩ => ?_
  subst e1 e2
  obtain rfl : u = Value.ref d := ru
  obtain ⟨q1, q2, q3, es, ep, q4, q5, _⟩ := frzM I1 hf
  refine iter_keys q1 q2 q3 q4 (pi_one (tk := s1.toks) I1 _ (turn_m _ q4) ⟨_, Heap.get?_push_size _ rfl, rfl, ?_⟩ q)
  rw [q5]
  rfl
/-- the keys of a dict that is walked -/
def itM (i : Nat) : Fs := fun ε => match ε[i]? with
  | some (.mf xs) => .ok (xs.map (·.1))
  | _ => .bad
theorem idM (i : Nat) (hw : X.w = TbC.w) (hN : X.N[i]? = some x := by rfl) (hv : Vis X.env.scope x := by first | exact Or.inl rfl | exact Or.inr (Or.inl rfl) | exact Or.inr (Or.inr rfl)) (hd : (x == ("__debug__" : Str)) = false := by decide)
    (hcd : (x == ("__classdict__" : Str)) = false := by decide) : ID X W tg (.Name x px) (itM i) := pi_weak (pi_m hN hv hd hcd) fun σ H R ⟨P, ε, E, q⟩ => by
  unfold itM at q
  cases e : ε[i]? with
  | none => rw [e] at q; exact q.elim
  | some l =>
    rw [e] at q
    have z := E.sl i l e
    cases l with
    | mf xs =>
      obtain ⟨a, o, ys, hs, hf, ro⟩ := z
      rw [← hw] at hf
      refine ⟨a, o, ys, slot_some hs, hf, q _ H Ext.refl ⟨fun n H2 d k hn => ?_, fun n H2 k hn => ⟨k.at_ hf nt_frz, ?_⟩⟩⟩
      · have hl : n < xs.length := by
          have := (List.getElem?_eq_some_iff.mp hn).1
          simpa using this
        have lxy : xs.length = ys.length := by simpa using congrArg List.length ro.2
        refine ⟨⟨k.at_ hf nt_frz, by omega⟩, fun v H3 ⟨h3, y, hy, ev⟩ => ⟨h3, ?_⟩⟩
        obtain ⟨v', g1, g2⟩ := ro.1.get hn
        rw [List.getElem?_map, hy] at g1
        cases g1
        rw [ev]
        exact g2
      · have lxy : xs.length = ys.length := by simpa using congrArg List.length ro.2
        rw [List.length_map] at hn
        omega
    | _ => exact q.elim
/-- a dict is locked, while an expression walks it -/
def lockN (i : Nat) (f : Fs) : Fs := fun ε => match ε[i]? with
  | some (.m xs) => (match f ((lamE ε).set i (.mf xs)) with
    | .ok ds => .ok ds
    | _ => .bad)
  | _ => .bad
theorem pn_lock {e : Expr} {f : Fs} (i : Nat) (h : PN X W e f) : PN X W e (lockN i f) := pe_weak (pe_lock h) fun σ H Q ⟨P, ε, E, q⟩ => by
  unfold lockN at q
  cases hx : ε[i]? with
  | none => rw [hx] at q; exact q.elim
  | some l =>
    rw [hx] at q
    cases l with
    | m xs =>
      obtain ⟨a, ys, hs, pa, h0, ro⟩ := E.sl i _ hx
      have hi : i < ε.length := (List.getElem?_eq_some_iff.mp hx).1
      cases hf : f ((lamE ε).set i (.mf xs)) with
      | bad => simp only [hf] at q; exact q.elim
      | ex c => simp only [hf] at q; exact q.elim
      | ok ds =>
        simp only [hf] at q
        have q : ∀ p vs H', Ext H H' → Fresh H p → H' p = some (.lst vs) → Reps X.K X.mg H' (more P p) ds vs → Q (.ref p) H' := q
        refine ⟨a, dcO TbC.w a ys, h0, trivial, fun od => ?_⟩
        have ok0 : OwnK H a := .inr (.inr ⟨_, _, _, h0⟩)
        have tw : Tr P P H (upd H a (.frz od (dcO TbC.w a ys))) := Tr.write pa ok0
        refine ⟨P, (lamE ε).set i (.mf xs), ⟨by rw [List.length_set, lamE, List.length_map, E.ln], fun b hb => ?_, fun j l hj => ?_, (Xt.put (M := fun b => b = a) Xt.refl (.inr rfl) ok0).tabs E.tb⟩, ?_⟩
        · by_cases eb : b = a
          · rw [eb, upd_same]; exact ⟨_, rfl, nt_frz⟩
          · rw [upd_ne eb]; exact E.tk b hb
        · by_cases hji : i = j
          · subst hji
            rw [List.getElem?_set_self (by rw [lamE, List.length_map]; exact hi)] at hj
            cases hj
            exact ⟨a, od, ys, hs, upd_same, ro.tr tw⟩
          · rw [List.getElem?_set_ne hji] at hj
            unfold lamE at hj
            rw [List.getElem?_map] at hj
            cases hl : ε[j]? with
            | none => rw [hl] at hj; cases hj
            | some l0 =>
              rw [hl] at hj
              have z := E.sl j l0 hl
              cases l0 with
              | d y =>
                cases hj
                obtain ⟨v, g1, g2⟩ := z
                exact ⟨v, g1, Rep.tr tw _ _ g2⟩
              | _ => cases hj; trivial
        · rw [hf]
          intro p vs H' e fr hl r
          have fz : H' a = some (.frz od (dcO TbC.w a ys)) := e.at_ upd_same nt_frz
          have npa : p ≠ a := fun z => by
            obtain ⟨ps, w⟩ := fr (.frz od (dcO TbC.w a ys)) (by rw [z]; exact upd_same)
            cases w
          have e2 : Ext H (upd H' a (dcO TbC.w a ys)) := by
            refine ⟨fun b o hb n _ => ?_, fun b q' hm t => ?_⟩
            · by_cases eb : b = a
              · rw [eb] at hb ⊢
                rw [h0] at hb
                cases hb
                exact upd_same
              · rw [upd_ne eb]
                exact e.at_ (by rw [upd_ne eb]; exact hb) n
            · have t1 := (Xt.put (M := fun b => b = a) (o := .frz od (dcO TbC.w a ys)) Xt.refl (.inr rfl) ok0).tabS b q' hm t
              have t2 := e.tabS b q' hm t1
              exact (Xt.upd (M := fun b => b = a) (o := dcO TbC.w a ys) fun u hu => by
                rw [fz] at hu
                cases hu
                exact ⟨fun _ z => (nomatch z), fun _ _ z => (nomatch z), rfl⟩).tabS b q' hm t2
          refine ⟨fz, q p vs _ e2 (fun u hu => fr u (by rw [upd_ne npa]; exact hu)) (by rw [upd_ne npa]; exact hl) ?_⟩
          refine Reps.tr ⟨fun b o hb n np => ?_, fun b o u hb nd => ?_, fun b xs hb => ?_, fun _ _ _ _ n => n, fun b c q' hb => ?_⟩ _ _ r
          · rw [upd_ne (fun eb => np (.inl (by rw [eb]; exact pa)))]; exact hb
          · rw [upd_ne (fun eb => ?_)]
            · exact hb
            · rw [eb, fz] at hb
              cases hb
              exact nd _ _ _ rfl
          · rw [upd_ne (fun eb => ?_)]
            · exact hb
            · rw [eb, fz] at hb
              cases hb
          · rw [upd_ne (fun eb => ?_)]
            · exact hb
            · rw [eb, fz] at hb
              cases hb
    | _ => exact q.elim
end
end DL
end
section
set_option Elab.async false
set_option linter.all false
set_option maxRecDepth 100000
set_option autoImplicit false
namespace DL
open PySem PySem.Spec PyProof.Rows L2
variable [TbC]
variable {X : Cx} {W : WX} {e a b c : Expr} {es : List Expr} {f g : Fn} {pos p : Pos}
theorem hu64 {k : Nat} {A : Around} (r : Room k A) : A.units + 65 < cLine := by have := r.un; omega
theorem hu63 {k : Nat} {A : Around} (r : Room k A) : A.units + 64 < cLine := r.units
/-! ### looking at a list: how often, where -/
def lmF (k : List Dt → Dt → Option Dt) (f g : Fn) : Fn := fun ε => (f ε).bind fun x => match x with
  | .lst ds => (g ε).bind fun y => .ofO (k ds y)
  | _ => .bad
def LmD (X : Cx) (r : V → List V → Hp → VK → Prop) (k : List Dt → Dt → Option Dt) : Prop := ∀ (l : Addr) (vs : List V) (y : V) (H : Hp) (Q : VK) (P : Pv) (ds : List Dt) (dy d : Dt), H l = some (.lst vs) → Reps X.K X.mg H P ds vs → Rep X.K X.mg H P dy y → k ds dy = some d →
  (∀ v H', Ext H H' → Rep X.K X.mg H' P d v → Q v H') → r (.ref l) [y] H Q
theorem pd_lm {name : Str} {id : String} {r : V → List V → Hp → VK → Prop} {k : List Dt → Dt → Option Dt} {p2 p3 : Pos} (slot : Slot "list" name id) (hty : typeOf (.builtin id) = pure (.type "method_descriptor")) (hm : MtR X id r) (hk : LmD X r k) (ha : PB X W a f) (hb : PD X W b g)
    (hbase : attributeBase a name X.env (eval a X.env) = eval a X.env)
    (hfew : ((backTo p3 (starEach (b :: []) X.env)).all (fun x => !x.1) && (backToKw p3 (keywordEach [] X.env)).all (fun x => x.1.isSome) && decide ((b :: ([] : List Expr)).length + ([] : List Keyword).length + (if ([] : List Keyword).isEmpty then 0 else 1) < 30)) = true)
    (hline : (p2.endLine == p3.line) = true) (hs : starEach (b :: []) X.env = (false, eval b X.env) :: starEach [] X.env) (hplain : (backTo p3 (starEach [] X.env)).any (·.1) = false) :
    PD X W (.Call (.Attribute a name p2) [b] [] p3) (lmF k f g) := pe_weak (pe_bm PySem.F.plainAttrs_list slot hty hm ha (ad_cons hb ad_nil hs) hbase hfew hline hs hplain) fun σ H Q ⟨P, ε, E, q⟩ =>
  ⟨P, ε, E, q.bind.mono fun dx q x H1 e1 r1 => by
    cases dx with
    | lst ds =>
      obtain ⟨l, vs, rfl, h1, rs⟩ := r1
      refine ⟨.inl ⟨rfl, vs, .of h1⟩, P, ε, E.ext e1, ?_⟩
      have q1 := q.ext e1
      show Out X W σ H1 ((g ε).bind fun x => .ok [x]) _
      cases hg : g ε with
      | ok dy =>
        rw [hg] at q1
        obtain ⟨d, hd, q2⟩ := q1.ofO
        intro ws H2 e2 r2
        obtain ⟨w, rfl, r3⟩ := Reps.sing r2
        exact hk l vs w H2 Q P ds dy d (e2.at_ h1 nt_lst) (rs.ext e2) r3 hd fun v H' x => q2 v H' (e1.trans (e2.trans x))
      | ex t => rw [hg] at q1; exact q1
      | bad => rw [hg] at q1; exact q1
    | _ => exact q.elim⟩
def cntD : List Dt → Dt → Option Dt := fun ds y => (pys ds).bind fun xs => (py y).bind fun b => if SeqAt.shaped (.list xs) = true ∧ SeqAt.shaped b = true then some (.int ((xs.countP fun z => PyData.eqv z b : Nat) : Int)) else none
def idxD : List Dt → Dt → Option Dt := fun ds y => (pys ds).bind fun xs => (py y).bind fun b => if SeqAt.shaped (.list xs) = true ∧ SeqAt.shaped b = true then (xs.findIdx? fun z => PyData.eqv z b).map fun (n : Nat) => .int (n : Int) else none
def rCntD (K : PySem.W.Frag) : V → List V → Hp → VK → Prop := fun x xs H Q => ∃ (l : Addr) (y : V) (d : PyData) (ds : List PyData), x = V.ref l ∧ xs = [y] ∧ Dp K H (V.ref l) (.list ds) ∧ Dp K H y d ∧ SeqAt.shaped (.list ds) = true ∧ SeqAt.shaped d = true ∧
  Q (.int ((ds.countP fun z => PyData.eqv z d : Nat) : Int)) H
theorem mt_cntD (hu : X.A.units + 65 < cLine) : MtR X "list.count" (rCntD X.K) := by
  intro pins s σ H x xs v us Q I rx rxs h
  obtain ⟨l, y, d, ds, rfl, rfl, hl, hy, sl, sd, q⟩ := h
  cases rx
  obtain ⟨u, rfl, ry⟩ := rxs.one
  obtain ⟨bs, r1⟩ := Dp.reads I d y u hy ry
  have lay : PyData.canLayAll0 ds = true := SeqAt.canLay_of_shaped sl
  have room : X.A.units + 1 + min (PyData.depthAll ds) d.depth < cLine := room_in_shaped sd hu
  cases hl with
  | lst hs hds =>
    obtain ⟨its, rv, ⟨⟨cls, dd, data, sls⟩, n, ho, hc, hdn, hdt⟩, _⟩ := I.list hs
    simp only at hc hdt
    subst hc hdt
    obtain ⟨as, r2⟩ := Dp.readsAll I ds _ its hds rv
    exact SeqAt.count_list_data (vs := its.toArray) ⟨_, ho, rfl, n, rfl⟩ r2 r1 (PyData.plainAll_of_canLay0 ds lay) (PyData.plain_of_canLay0 d (SeqAt.canLay_of_shaped sd)) room ⟨.int _, H, I.tok _, ⟨_, rfl⟩, q⟩
theorem cnt_ok : LmD X (rCntD X.K) cntD := fun l vs y H Q P ds dy d h1 rs r e q => by
  unfold cntD at e
  obtain ⟨xs, e1, e⟩ := Option.bind_eq_some_iff.mp e
  obtain ⟨b, e2, e⟩ := Option.bind_eq_some_iff.mp e
  split at e
  · rename_i hs
    cases e
    exact ⟨l, y, b, xs, rfl, rfl, .lst (.of h1) (reps_py _ _ _ rs e1), rep_py _ _ _ r e2, hs.1, hs.2, q _ H Ext.refl rfl⟩
  · cases e
theorem idx_ok : LmD X (rIndexD X.K) idxD := fun l vs y H Q P ds dy d h1 rs r e q => by
  unfold idxD at e
  obtain ⟨xs, e1, e⟩ := Option.bind_eq_some_iff.mp e
  obtain ⟨b, e2, e⟩ := Option.bind_eq_some_iff.mp e
  split at e
  · rename_i hs
    obtain ⟨j, e3, rfl⟩ := Option.map_eq_some_iff.mp e
    obtain ⟨g1, g2, g3⟩ := List.findIdx?_eq_some_iff_getElem.mp e3
    refine ⟨l, y, b, xs, j, xs[j], rfl, rfl, .lst (.of h1) (reps_py _ _ _ rs e1), rep_py _ _ _ r e2, hs.1, hs.2, List.getElem?_eq_getElem g1, g2, fun m z hm hz => ?_, q _ H Ext.refl rfl⟩
    obtain ⟨m1, rfl⟩ := List.getElem?_eq_some_iff.mp hz
    have := g3 m hm
    simpa using this
  · cases e
theorem pd_count {k : Nat} {p2 p3 : Pos} (hr : Room k X.A) (ha : PB X W a f) (hb : PD X W b g)
    (hbase : attributeBase a "count" X.env (eval a X.env) = eval a X.env := by rfl)
    (hfew : ((backTo p3 (starEach (b :: []) X.env)).all (fun x => !x.1) && (backToKw p3 (keywordEach [] X.env)).all (fun x => x.1.isSome) && decide ((b :: ([] : List Expr)).length + ([] : List Keyword).length + (if ([] : List Keyword).isEmpty then 0 else 1) < 30)) = true := by rfl)
    (hline : (p2.endLine == p3.line) = true := by rfl) (hs : starEach (b :: []) X.env = (false, eval b X.env) :: starEach [] X.env := by rfl) (hplain : (backTo p3 (starEach [] X.env)).any (·.1) = false := by rfl) :
    PD X W (.Call (.Attribute a "count" p2) [b] [] p3) (lmF cntD f g) := pd_lm PySem.F.slot_list_count PySem.F.type_list_count (mt_cntD (hu64 hr)) cnt_ok ha hb hbase hfew hline hs hplain
theorem pd_index {k : Nat} {p2 p3 : Pos} (hr : Room k X.A) (ha : PB X W a f) (hb : PD X W b g)
    (hbase : attributeBase a "index" X.env (eval a X.env) = eval a X.env := by rfl)
    (hfew : ((backTo p3 (starEach (b :: []) X.env)).all (fun x => !x.1) && (backToKw p3 (keywordEach [] X.env)).all (fun x => x.1.isSome) && decide ((b :: ([] : List Expr)).length + ([] : List Keyword).length + (if ([] : List Keyword).isEmpty then 0 else 1) < 30)) = true := by rfl)
    (hline : (p2.endLine == p3.line) = true := by rfl) (hs : starEach (b :: []) X.env = (false, eval b X.env) :: starEach [] X.env := by rfl) (hplain : (backTo p3 (starEach [] X.env)).any (·.1) = false := by rfl) :
    PD X W (.Call (.Attribute a "index" p2) [b] [] p3) (lmF idxD f g) := pd_lm PySem.F.slot_list_index PySem.F.type_list_index (mt_indexD (hu64 hr)) idx_ok ha hb hbase hfew hline hs hplain
/-! ### two lists put together are a new list -/
def catD : Dt → Dt → Option (List Dt)
  | .lst xs, .lst ys => if xs.length + ys.length ≤ sizeLine then some (xs ++ ys) else none
  | _, _ => none
def binN (h : Dt → Dt → Option (List Dt)) (f g : Fn) : Fs := fun ε => (f ε).bind fun x => (g ε).bind fun y => .ofO (h x y)
theorem nAdd (ha : PB X W a f) (hb : PB X W b g) : PN X W (.BinOp a .Add b pos) (binN catD f g) := pe_weak (pe_op op_cat ha hb) fun σ H Q ⟨P, ε, E, q⟩ => by
  refine two_of (T := fun _ P H ds => ∀ p vs H', Ext H H' → Fresh H p → H' p = some (.lst vs) → Reps X.K X.mg H' (more P p) ds vs → Q (.ref p) H') E q fun x y H1 dx dy E1 e r1 r2 q => ?_
  obtain ⟨ds, hd, q⟩ := q.ofO
  unfold catD at hd
  split at hd
  · split at hd
    · rename_i hz
      cases hd
      obtain ⟨l, vs, rfl, h1, s1⟩ := r1
      obtain ⟨l', vs', rfl, h1', s1'⟩ := r2
      exact ⟨l, l', vs, vs', rfl, rfl, h1, h1', by rw [← s1.length, ← s1'.length]; exact hz, fun m hm => q _ _ _ (e.trans (Ext.new hm)) (Ext.fresh e (.of hm)) upd_same (Reps.tr (Tr.more (.of (by exact hm))) _ _ (s1.append s1') |> fun z => Reps.ext (Ext.new hm) z)⟩
    · cases hd
  · cases hd
/-! ### one's own list: an item taken out, turned round, emptied -/
def popK (ds xs : List Dt) : Option (List Dt) := match xs with
  | [.int i] => if 0 ≤ i ∧ i < (ds.length : Int) ∧ i < 2 ^ 63 then some (ds.eraseIdx i.toNat) else none
  | _ => none
theorem Reps.erase {K : PySem.W.Frag} {mg : Mg} {H : Hp} {P : Pv} : ∀ (n : Nat) {ds : List Dt} {vs : List V}, Reps K mg H P ds vs → Reps K mg H P (ds.eraseIdx n) (vs.eraseIdx n)
  | _, [], vs, h => by rw [show vs = [] from h]; simpa using (show Reps K mg H P [] [] from rfl)
  | 0, d :: ds, vs, ⟨v, r, e, _, h2⟩ => by rw [e]; exact h2
  | n + 1, d :: ds, vs, ⟨v, r, e, h1, h2⟩ => by rw [e]; exact ⟨v, _, rfl, h1, Reps.erase n h2⟩
def popS (i : Nat) (f : Fn) : Sg := chS i (consF f nilF) popK
theorem sd_popAt (i : Nat) {x : Str} {px p2 p3 : Pos} (he : PD X W e f) (hN : X.N[i]? = some x := by rfl) (hv : Vis X.env.scope x := by first | exact Or.inl rfl | exact Or.inr (Or.inl rfl) | exact Or.inr (Or.inr rfl)) (hd : (x == ("__debug__" : Str)) = false := by decide)
    (hcd : (x == ("__classdict__" : Str)) = false := by decide) (hbase : attributeBase (.Name x px) "pop" X.env (eval (.Name x px) X.env) = eval (.Name x px) X.env := by rfl)
    (hfew : ((backTo p3 (starEach (e :: []) X.env)).all (fun x => !x.1) && (backToKw p3 (keywordEach [] X.env)).all (fun x => x.1.isSome) && decide ((e :: ([] : List Expr)).length + ([] : List Keyword).length + (if ([] : List Keyword).isEmpty then 0 else 1) < 30)) = true := by rfl)
    (hline : (p2.endLine == p3.line) = true := by rfl) (hs : starEach (e :: []) X.env = (false, eval e X.env) :: starEach [] X.env := by rfl) (hplain : (backTo p3 (starEach [] X.env)).any (·.1) = false := by rfl)
    (hsw : swapsWith (.Call (.Attribute (.Name x px) "pop" p2) [e] [] p3) none pos.line X.env = pure false := by rfl) :
    SD X W (.Expr (.Call (.Attribute (.Name x px) "pop" p2) [e] [] p3) pos) (popS i f) := fun F =>
  ps_weak (ps_expr (pe_bm PySem.F.plainAttrs_list PySem.F.slot_list_pop PySem.F.type_list_pop mt_popAt (pe_var (i := i) hN hv hd hcd) (ad_cons he ad_nil hs) hbase hfew hline hs hplain) hsw) fun D σ H ⟨ε, S, q⟩ =>
    ch_of S q fun a vs ws ds xs es H1 Q h1 r1 r2 hk k => by
      unfold popK at hk
      split at hk
      · rename_i j
        by_cases hl : 0 ≤ j ∧ j < (ds.length : Int) ∧ j < 2 ^ 63
        · rw [if_pos hl] at hk
          cases hk
          obtain ⟨w, rfl, r3⟩ := Reps.sing r2
          rw [show w = V.int j from r3]
          have len := r1.length
          have hj : j.toNat < vs.length := by omega
          exact ⟨a, vs, j, j.toNat, vs[j.toNat], rfl, rfl, h1, by omega, hl.2.2, by unfold seqIndex?; simp only []; split <;> simp_all <;> omega, List.getElem?_eq_getElem hj, k _ (Reps.erase _ r1) _⟩
        · rw [if_neg hl] at hk; cases hk
      · cases hk
theorem ch_of0 {F : Frm} {D : Ends} {i : Nat} {k : List Dt → List Dt → Option (List Dt)} {ε : Ev} {σ : St} {H : Hp} {r : V → List V → Hp → VK → Prop} (S : SOk X.K X.mg F σ H ε) (q : SOut X F W D (chS i nilF k ε))
    (hr : ∀ (a : Addr) (vs : List V) (ds es : List Dt) (H1 : Hp) (Q : VK), H1 a = some (.lst vs) → Reps X.K X.mg H1 (prv F σ ε) ds vs → k ds [] = some es → (∀ us, Reps X.K X.mg H1 (prv F σ ε) es us → ∀ v, Q v (upd H1 a (.lst us))) → r (.ref a) [] H1 Q) :
    ∃ v, σ[i]? = some (some v) ∧ tyV X.K "list" v H ∧ r v [] H fun _ H2 => D.nx σ H2 := by
  obtain ⟨v, h1, h2, P, ε', E, z⟩ := ch_of (W := W) (r := fun v ws H1 Q => ws = [] → r v ws H1 Q) S q fun a vs ws ds xs es H1 Q g1 g2 g3 g4 g5 hw => by
    subst hw
    have : xs = [] := by
      cases xs with
      | nil => rfl
      | cons d t => obtain ⟨v, rest, e, _⟩ := g3; cases e
    subst this
    exact hr a vs ds es H1 Q g1 g2 g4 g5
  exact ⟨v, h1, h2, z [] H Ext.refl rfl rfl⟩
def revS (i : Nat) : Sg := chS i nilF fun ds _ => some ds.reverse
theorem Reps.rev {K : PySem.W.Frag} {mg : Mg} {H : Hp} {P : Pv} : ∀ {ds : List Dt} {vs : List V}, Reps K mg H P ds vs → Reps K mg H P ds.reverse vs.reverse
  | [], vs, h => by rw [show vs = [] from h]; exact rfl
  | d :: ds, vs, ⟨v, r, e, h1, h2⟩ => by rw [e, List.reverse_cons, List.reverse_cons]; exact (Reps.rev h2).append (Reps.one h1)
theorem sd_reverse (i : Nat) {x : Str} {px p2 p3 : Pos} (hN : X.N[i]? = some x := by rfl) (hv : Vis X.env.scope x := by first | exact Or.inl rfl | exact Or.inr (Or.inl rfl) | exact Or.inr (Or.inr rfl)) (hd : (x == ("__debug__" : Str)) = false := by decide)
    (hcd : (x == ("__classdict__" : Str)) = false := by decide) (hbase : attributeBase (.Name x px) "reverse" X.env (eval (.Name x px) X.env) = eval (.Name x px) X.env := by rfl) (hline : (p2.endLine == p3.line) = true := by rfl)
    (hsw : swapsWith (.Call (.Attribute (.Name x px) "reverse" p2) [] [] p3) none pos.line X.env = pure false := by rfl) :
    SD X W (.Expr (.Call (.Attribute (.Name x px) "reverse" p2) [] [] p3) pos) (revS i) := fun F =>
  ps_weak (ps_expr (pe_bm0 PySem.F.plainAttrs_list PySem.F.slot_list_reverse PySem.F.type_list_reverse mt_reverse (pe_var (i := i) hN hv hd hcd) hbase hline) hsw) fun D σ H ⟨ε, S, q⟩ =>
    ch_of0 S q fun a vs ds es H1 Q h1 r1 hk k => by
      cases hk
      exact ⟨a, vs, rfl, rfl, h1, k _ r1.rev _⟩
/-! ### is not True, is not False -/
def notBD : O2
  | .bl x, .bl y => some (.bl (!decide (x = y)))
  | _, _ => none
theorem notB_ok : OpD X rNotB notBD := fun x y H Q P dx dy d _ r1 r2 e q => by
  unfold notBD at e
  split at e
  · cases e
    exact ⟨_, _, r1, r2, q _ H Ext.refl rfl⟩
  · cases e
theorem dNotB (ha : PB X W a f) (hb : PB X W b g) : PD X W (.Compare a [.IsNot] [b] pos) (bin notBD f g) := pd_cmp op_notBl notB_ok ha hb (nomark _)
theorem tNotB (ha : PB X W a f) (hb : PB X W b g) : TD X W (.Compare a [.IsNot] [b] pos) (tst (bin notBD f g)) := td_cmp op_notBl notB_ok ha hb (nomark _)
end DL
end
section
set_option Elab.async false
set_option linter.all false
set_option maxRecDepth 100000
set_option maxHeartbeats 800000
set_option autoImplicit false
namespace DL
open PySem PySem.Spec PyProof.Rows L2
variable [TbC]
/-! ### isinstance of an exception that a suite holds -/
section
variable {X : Cx} {W : WX} {a D : Addr} {oe : Obj}
theorem call_isP (C : ExcC X.K D) (hp : (a, oe) ∈ X.pn) (hz : Zc (.ref D) none oe) (hf : ∃ vs, oe.data = .fields vs) : CallR X (.builtin "isinstance") (rIsE X.K D a) := fun pins s σ H xs us Q I r ⟨c, cv, b, ex, hcv, e, q⟩ => by
  subst ex
  match us, r with
  | [_, uc], .cons rx (.cons rt .nil) =>
    cases rx
    cases hcv _ rt
    have hget := (I.pin (a, oe) (List.mem_append.mpr (.inl hp))).1
    have J : PySem.W.InstAt s.heap a oe D none := by
      obtain ⟨vs, hv⟩ := hf
      obtain ⟨oc, od, oda, osl⟩ := oe
      obtain ⟨z1, z2⟩ := hz
      dsimp only at z1 z2 hv
      subst z1 z2 hv
      exact ⟨hget, rfl, rfl, trivial⟩
    have kx := PySem.W.handS_kitx_exc (x := a) (ox := oe) C.hg C.hk C.hs C.hd C.ha C.hn C.ht C.hm
    exact PySem.W.kia_one kx I.kIn J e (fun z => nomatch z) fun tk => ⟨.bl b, H, Inv.kept (t' := tk) I fun _ _ z => z, rfl, q⟩
/-- the exception at a, as data: its address alone is looked at -/
def isED (a : Addr) (b : Bool) : Dt → Option Dt
  | .fn f _ _ _ _ => if f = a then some (.bl b) else none
  | _ => none
theorem isED_no {b : Bool} {f c : Addr} {q : Str} {ws : List V} {ds : List Dt} (z : f ≠ a) : isED a b (.fn f c q ws ds) = none := if_neg z
theorem isED_eq {b : Bool} {c : Addr} {q : Str} {ws : List V} {ds : List Dt} : isED a b (.fn a c q ws ds) = some (.bl b) := if_pos rfl
theorem dIsE {T : Str} {e : Expr} {f : Fn} {cv : V} {cu : Value} {b : Bool} {p p2 pos : Pos} (C : ExcC X.K D) (hp : (a, oe) ∈ X.pn) (hz : Zc (.ref D) none oe) (hf : ∃ vs, oe.data = .fields vs) (hm : X.mg "isinstance" = none) (ha : PB X W e f)
    (hT : PE X (.Name T p2) fun σ H Q => Q cv H) (hu : ∀ u, RelV cv u → u = cu) (hk : PySem.W.kitOne X.K (.ref D) cu = some b) (hg : Gl X "isinstance" := by rfl)
    (he : starEach (e :: [.Name T p2]) X.env = (false, eval e X.env) :: starEach [.Name T p2] X.env := by rfl) (he2 : starEach [.Name T p2] X.env = [(false, eval (.Name T p2) X.env)] := by rfl) (hpl : (backTo pos (starEach [.Name T p2] X.env)).any (·.1) = false := by rfl) :
    PD X W (.Call (.Name "isinstance" p) [e, .Name T p2] [] pos) (un (isED a b) f) :=
  pe_weak (pe_callB (call_isP C hp hz hf) hg hm boot_isinstance (pa_cons ha (pa_cons hT pa_nil he2) he) (by decide) (by decide) he hpl) fun σ H Q ⟨P, ε, E, q⟩ =>
    ⟨P, ε, E, q.bind.mono fun dx q x H1 e1 r1 => by
      obtain ⟨d, hh, q⟩ := q.ofO
      cases dx with
      | fn f' c' q' ws ds =>
        by_cases z : f' = a
        · subst z
          rw [isED_eq] at hh
          cases hh
          obtain ⟨rfl, _⟩ := r1
          exact ⟨cv, cu, b, rfl, hu, hk, q _ H1 e1 rfl⟩
        · rw [isED_no z] at hh
          cases hh
      | _ => cases hh⟩
theorem ref_only {c : Addr} : ∀ u, RelV (.ref c) u → u = .ref c := fun _ h => h
theorem ty_only {n : String} : ∀ u, RelV (.ty n) u → u = .type n := fun _ h => h
/-! what asks for the room of units alone -/
variable {b : Expr} {f g : Fn} {e e2 : Expr} {p pos : Pos}
theorem tNeU (hu : X.A.units + 65 < cLine) (ha : PB X W e f) (hb : PB X W e2 g) : TD X W (.Compare e [.NotEq] [e2] pos) (tst (bin neD f g)) := td_cmp (op_neD (Nat.lt_of_succ_lt hu)) ne_ok ha hb (nomark _)
theorem pd_countU {p2 p3 : Pos} (hu : X.A.units + 65 < cLine) (ha : PB X W e f) (hb : PD X W b g)
    (hbase : attributeBase e "count" X.env (eval e X.env) = eval e X.env := by rfl)
    (hfew : ((backTo p3 (starEach (b :: []) X.env)).all (fun x => !x.1) && (backToKw p3 (keywordEach [] X.env)).all (fun x => x.1.isSome) && decide ((b :: ([] : List Expr)).length + ([] : List Keyword).length + (if ([] : List Keyword).isEmpty then 0 else 1) < 30)) = true := by rfl)
    (hline : (p2.endLine == p3.line) = true := by rfl) (hs : starEach (b :: []) X.env = (false, eval b X.env) :: starEach [] X.env := by rfl) (hplain : (backTo p3 (starEach [] X.env)).any (·.1) = false := by rfl) :
    PD X W (.Call (.Attribute e "count" p2) [b] [] p3) (lmF cntD f g) := pd_lm PySem.F.slot_list_count PySem.F.type_list_count (mt_cntD hu) cnt_ok ha hb hbase hfew hline hs hplain
theorem pd_indexU {p2 p3 : Pos} (hu : X.A.units + 65 < cLine) (ha : PB X W e f) (hb : PD X W b g)
    (hbase : attributeBase e "index" X.env (eval e X.env) = eval e X.env := by rfl)
    (hfew : ((backTo p3 (starEach (b :: []) X.env)).all (fun x => !x.1) && (backToKw p3 (keywordEach [] X.env)).all (fun x => x.1.isSome) && decide ((b :: ([] : List Expr)).length + ([] : List Keyword).length + (if ([] : List Keyword).isEmpty then 0 else 1) < 30)) = true := by rfl)
    (hline : (p2.endLine == p3.line) = true := by rfl) (hs : starEach (b :: []) X.env = (false, eval b X.env) :: starEach [] X.env := by rfl) (hplain : (backTo p3 (starEach [] X.env)).any (·.1) = false := by rfl) :
    PD X W (.Call (.Attribute e "index" p2) [b] [] p3) (lmF idxD f g) := pd_lm PySem.F.slot_list_index PySem.F.type_list_index (mt_indexD hu) idx_ok ha hb hbase hfew hline hs hplain
end
/-! ### the word of an exception that a suite holds -/
/-- the def at f hands back wd, of an exception of the class D -/
def WdOk (P : Program) (w : World) (K : PySem.W.Frag) (mg : Mg) (base : Heap) (lv : Nat) (f D : Addr) (wd : Dt) : Prop :=
  ∀ (A : Around) (outer : List Env) (s : Shared) (H : Hp) (a : Addr) (oe : Obj) (c : Addr) (q : Str) (Q : VK), L2H.RoomH lv A → L2H.PinOk outer H s (a, oe) → Zc (.ref D) none oe → (∃ vs, oe.data = .fields vs) → Env0 P w K mg base A outer s H →
    H c = some (LamX.CodeO c q) → LamX.Tabs TbC.T H → (∀ v H', Ext H H' → Rep K mg H' no wd v → Q v H') → codeAny (model P w) A (.call (.ref f) ⟨[.ref a], []⟩) (CR C8.CX0 outer P w H s Q C8.E0) s
theorem wd_of {P : Program} {w : World} {K : PySem.W.Frag} {mg : Mg} {base : Heap} {k : Nat} {x e0 : Str} {f D : Addr} {wd : Dt} {st : Stmt} {fd : FuncData} {N : List Str} {g : Addr → Sg} (Fg : FunD K x x (defArgs st) (defBody st) (defScope st) [] [] f fd) (S : FnScope N [e0] (defScope st))
    (hb : ∀ (kV doc pm : Value) (an : Option Addr) (cdv ct : Value) (us : List Value), us.length = [e0].length → bindArgs (PySem.W.fnOf x x (defArgs st) (defBody st) (defScope st) .none kV doc pm an cdv ct) ⟨us, []⟩ = pure ([e0].zip us))
    (hbody : ∀ (cdv : Value) (A : Around) (outer : List Env) (s : Shared) (H : Hp) (Q : VK) (a : Addr) (oe : Obj), Zc (.ref D) none oe → (∃ vs, oe.data = .fields vs) → L2H.RoomH k (A.deeper (envOfC x (defScope st) s.heap.objs.size f cdv)) → SDs (L2H.cxH C8.CX0 P w K mg base N x (defScope st) f cdv A outer s H C8.E0 (a, oe)) W0 (defBody st) (g a))
    (hg : ∀ a c q, g a (startE N.length [.fn a c q [] []]) = .ok (.rt wd)) : WdOk P w K mg base (k + 1) f D wd := by
  intro A outer s H a oe c q Q hr hpin hz hf e0 hc ht hQ
  have hbA := Fg.bindsA hb
  obtain ⟨oc, od, dV, kV, doc, pm, an, cdv, ct, osl, efd, lk, hcd, _, _⟩ := Fg.ex
  subst efd
  have KX : K.In s.heap := fun b o z => (e0.bs b o (e0.mod.kin b o z)).1
  have lim := e0.mod.nolimit.keeps fun b o z => (e0.bs b o z).1
  have hbs := hbA s [.ref a] rfl
  have hkind : ∀ y ∈ [_].zip [Value.ref a], (defScope st).names.lookup y.1 = some .local ∨ ((defScope st).names.lookup y.1 = some .cell ∧ ((cellsFrom (s.heap.objs.size + 1) (defScope st).names []).lookup y.1).isSome = true) := fun y hy => by
    rcases S.par y.1 (List.of_mem_zip hy).1 with z | z
    · exact .inl z
    · exact .inr ⟨z, PySem.W.cellsFrom_some _ _ _ (.inl z)⟩
  refine codeAny_call_function hr.depth (KX _ _ lk) rfl S.co S.gen rfl (PySem.W.codeRec_of KX hcd) (hbs _ _ _ _ ?_)
  refine wpAny_newFunctionEnv_cells S.kind hkind fun env he s1 x1 => ?_
  subst he
  refine ⟨lim.keeps x1.toInCall.keep, codeAny_func ?_⟩
  have I := L2H.inv_startH (CX := C8.CX0) (E := C8.E0) (cd := cdv) (f := f) (qual := x) S hpin e0 (vs := [.ref a]) rfl (.cons rfl .nil) x1
  have hS := hbody cdv A outer s H Q a oe hz hf (hr.deeper _)
  refine wpAny_mono ((hS ⟨H, no, no⟩).run [] s1 _ H { nx := fun _ _ => False, rt := Q } I ⟨startE N.length [.fn a c q [] []], sok_start (fun _ z => z.elim) ht ⟨_, _, rfl, ⟨rfl, hc, rfl⟩, rfl⟩, ?_⟩) (fun fl s' hs => ?_) fun e s' hs => hs
  · rw [hg]
    exact fun v H' e r => hQ v H' e r
  · cases fl with
    | ret u =>
      obtain ⟨v, σ', H', J, rv, q⟩ := hs
      exact ⟨v, H', J.os, J.bare, J.base, J.hok, rv, q⟩
    | next => exact hs.elim fun _ z => z.elim fun _ z => z.2.elim
    | brk => exact hs.elim fun _ z => z.elim fun _ z => z.2.elim
    | cont => exact hs.elim fun _ z => z.elim fun _ z => z.2.elim
/-- e(), e holds what was made of the exception: the call of the def -/
def wdD (a : Addr) (wd : Dt) : Dt → Option Dt
  | .fn f _ _ _ _ => if f = a then some wd else none
  | _ => none
theorem wdD_no {a f c : Addr} {wd : Dt} {q : Str} {ws : List V} {ds : List Dt} (z : f ≠ a) : wdD a wd (.fn f c q ws ds) = none := if_neg z
theorem wdD_eq {a c : Addr} {wd : Dt} {q : Str} {ws : List V} {ds : List Dt} : wdD a wd (.fn a c q ws ds) = some wd := if_pos rfl
/-- texts, and tuples of texts: the same whatever is private -/
def Plain (d : Dt) : Prop := ∀ (K : PySem.W.Frag) (mg : Mg) (H : Hp) (P P' : Pv) (v : V), Rep K mg H P d v → Rep K mg H P' d v
theorem plain_str {x : Str} : Plain (.str x) := fun _ _ _ _ _ _ h => h
section
variable {X : Cx} {a D : Addr} {oe : Obj} {pn : List (Addr × Obj)} {x : Str} {e : Expr} {f : Fn} {p pos : Pos} {lv : Nat} {fw : Addr} {wd : Dt}
theorem pd_word (hw : WdOk X.prog X.w X.K X.mg X.base lv fw D wd) (pl : Plain wd) (hm : X.mg x = some (.ref fw)) (hkp : PySem.W.keepIn X.K (.ref fw) = true) (hr : L2H.RoomH lv X.A) (hz : Zc (.ref D) none oe) (hf : ∃ vs, oe.data = .fields vs)
    (ha : PD (X.suite a ((a, oe) :: pn)) W0 e f) (hg : Gl X x := by rfl) (hdb : (x == ("__debug__" : Str)) = false := by decide)
    (he : starEach (e :: []) (X.suite a ((a, oe) :: pn)).env = (false, eval e (X.suite a ((a, oe) :: pn)).env) :: starEach [] (X.suite a ((a, oe) :: pn)).env := by rfl) (hpl : (backTo pos (starEach [] (X.suite a ((a, oe) :: pn)).env)).any (·.1) = false := by rfl) :
    PD (X.suite a ((a, oe) :: pn)) W0 (.Call (.Name x p) [e] [] pos) (un (wdD a wd) f) := by
  refine ⟨fun pins s σ H Q I ⟨P, ε, E, q⟩ => ?_⟩
  refine wpAny_Call_Name_kw (ld_glob I hg hm ?_ hdb)
  refine PySem.W.callWith_K (h₀ := X.base) I.ok.mod.kin hkp ?_ he hpl
  refine thn ((pa_cons ha pa_nil he).run pos pins s σ H (fun vs H1 => Ext H H1 ∧ ∃ c q' d, vs = [.ref a] ∧ H1 c = some (LamX.CodeO c q') ∧ d = wd ∧ ∀ v H', Ext H H' → Rep X.K X.mg H' P d v → Q v H') I ⟨P, ε, E, q.bind.mono fun dx q x H1 e1 r1 => ?_⟩) fun us s1 ⟨vs, H1, I1, r, e1, c, q', d, ev, hc, ed, q9⟩ => ⟨I1.kIn, ?_⟩
  · obtain ⟨d, hh, q⟩ := q.ofO
    refine ⟨e1, ?_⟩
    cases dx with
    | fn f' c' q' ws ds =>
      obtain ⟨rfl, hc, _⟩ := r1
      by_cases z : f' = a
      · subst z
        rw [wdD_eq] at hh
        cases hh
        exact ⟨c', q', _, rfl, hc, rfl, q⟩
      · rw [wdD_no z] at hh
        cases hh
    | _ => cases hh
  · subst ev ed
    cases r with
    | cons rx rr =>
      cases rr
      cases rx
      have P1 := I1.pin (a, oe) (List.mem_append_left _ List.mem_cons_self)
      have hpin : L2H.PinOk X.stack H1 s1 (a, oe) := ⟨P1.1, P1.2.1, fun hm => (List.mem_cons.mp (I1.stkSub a hm)).elim P1.2.2.1 P1.2.2.2.1, P1.2.2.2.2⟩
      refine wpAny_call (codeAny_mono (hw (X.A.mark (some (.ref a))) X.stack s1 H1 a oe c q' Q ⟨hr.dp, hr.un⟩ hpin hz hf I1.env0 hc (e1.tabs E.tb) fun v H' x r => q9 v H' (e1.trans x) (pl _ _ _ _ _ _ r)) fun r s' hq => ?_)
      cases r with
      | error e => exact (show False from hq).elim
      | ok fl =>
        cases fl with
        | ret u => exact I1.after hq
        | _ => exact False.elim hq
end
/-! ### x(lambda: body), x catches what the body raises -/
section
variable {X : Cx} {pins : List (Addr × Obj)} {σ : L2.St} {H : Hp} {s : Shared}
/-- a(), in the def that got the lambda, within a try -/
theorem lam0_act {CXg : CXT} {Eg : XK} {Ng : List Str} {qg : Str} {sg : Scope} {g f c' : Addr} {cdg pm ctv : Value} {params : Arguments} {body : Expr} {scope : Scope} {k i : Nat} {a : Str} {pn : List (Addr × Obj)} {xe : Value → Shared → Prop} {W : WX} {tb : XK → TE} {p1 p2 : Pos}
    (I : Inv X pins σ H s) (L : LamX.LamS X.env.scope scope)
    (hf : s.heap.get? f = some (PySem.W.kla_obj "<lambda>" (X.env.qual ++ "<lambda>") params body scope (cloFrom X.env.cells scope.names []) pm c' ctv)) (hfn : H f = none) (hfr : f ∉ frs X.stack)
    (hbind : bindArgs (PySem.W.kla_fn "<lambda>" (X.env.qual ++ "<lambda>") params body scope (cloFrom X.env.cells scope.names []) pm (.ref c') ctv) ⟨[], []⟩ = pure [])
    (tk : Takes ((cxOf CXg X.prog X.w X.K X.mg X.base Ng qg sg g cdg X.A X.stack s H Eg).tr pn xe) W) (hr : Room (k + 1) (X.A.deeper (envOfC qg sg s.heap.objs.size g cdg)))
    (hbody : ∀ (A : Around) (outer : List Env) (s : Shared) (H : Hp) (E : XK), Room k (A.deeper (LamX.lamEnv X scope s.heap.objs.size f c')) → PE (LamX.lamCx X A outer s H E scope f c') body (tb E))
    (hN : Ng[i]? = some a) (hv : Vis sg a) (hd : (a == ("__debug__" : Str)) = false := by decide) (hcd : (a == ("__classdict__" : Str)) = false := by decide) :
    PE ((cxOf CXg X.prog X.w X.K X.mg X.base Ng qg sg g cdg X.A X.stack s H Eg).tr pn xe) (.Call (.Name a p1) [] [] p2)
      (fun σZ HZ Q => σZ[i]? = some (some (.ref f)) ∧ HZ c' = some (LamX.CodeO c' (X.env.qual ++ "<lambda>")) ∧ tb (WE W σZ) σ HZ Q) := by
  refine ⟨fun pinsZ sZ σZ HZ Q IZ ⟨hs, hc, ht⟩ => ?_⟩
  have vr := pe_var (X := (cxOf CXg X.prog X.w X.K X.mg X.base Ng qg sg g cdg X.A X.stack s H Eg).tr pn xe) (pos := p1) (i := i) hN hv hd hcd
  refine wpAny_Call_Name_kw (thn (vr.run pinsZ sZ σZ HZ (fun v H1 => v = .ref f ∧ H1 = HZ) IZ ⟨.ref f, hs, rfl, rfl⟩) fun u s1 ⟨v, H1, I1, r1, ev, eH⟩ => ?_)
  subst ev
  rw [eH] at I1
  cases (show u = Value.ref f from r1)
  have at1 : s1.heap.get? f = some (PySem.W.kla_obj "<lambda>" (X.env.qual ++ "<lambda>") params body scope (cloFrom X.env.cells scope.names []) pm c' ctv) :=
    I1.base.keep f _ hf hfn hfr fun z => nomatch (show f ∈ ([] : List Addr) from z)
  refine PySem.W.callWith_F0 ⟨_, _, _, _, at1⟩ ?_
  have un1 : Un (frs X.stack) [] H HZ s.heap s1.heap := I1.base
  obtain ⟨⟨oc, ws, t, hoc, hdc, hvc⟩, _, _⟩ := I1.hok c' _ hc
  have rc : codeAny (model X.prog X.w) (X.A.deeper (envOfC qg sg s.heap.objs.size g cdg)) (.call (.ref f) ⟨[], []⟩)
      (CR (L2.CX X.prog X.w) (envOfC qg sg s.heap.objs.size g cdg :: X.stack) X.prog X.w HZ s1 Q (WE W σZ)) s1 := by
    refine PySem.W.kla_callFunE hr.depth at1 rfl L.co L.gen rfl ⟨c', oc, ws, t, rfl, hoc, hdc, hvc⟩ ?_
    rw [hbind]
    refine wpAny_pure (wpAny_newFunctionEnv (fun y hy => (L.own y hy).2) (fun y hy => absurd hy (by simp)) (fun h₁ hns hsb => ⟨I1.nolimit.fresh _ hsb, (?_ : codeAny _ _ (.expr body (LamX.lamEnv X scope s1.heap.objs.size f c')) _ _)⟩) L.kind)
    have kp1 : ∀ b o, s1.heap.get? b = some o → h₁.get? b = some o := fun b o z => hsb.extBut b o (Nat.ne_of_lt (Heap.lt_size z)) (Heap.get?_push_of_some _ z)
    have J := LamX.lam_start2 (tk := s1.toks + ([] : List (Str × Value)).length) (E := WE W σZ) (f := f) (c' := c') I L I1.env0 hr.hd un1 hns kp1
    refine PySem.W.kla_codeExpr (wpAny_mono ((hbody _ _ s1 HZ (WE W σZ) (hr.deeper _)).run [] _ _ HZ Q J ht) (fun w s' ⟨w', H', J', rw', q⟩ => ⟨w', H', J'.os, J'.bare, J'.base, J'.hok, rw', q⟩) fun _ _ hq => hq)
  have hx := passAt tk σZ
  refine wpAny_call (codeAny_mono rc fun r s' hq => ?_)
  cases r with
  | error er => exact hx pinsZ HZ s1 er s' I1 hq
  | ok fl =>
    cases fl with
    | ret u => exact I1.after hq
    | _ => exact False.elim hq
end
def toldF (tw : List (Str × Dt)) (res : Dt → Dt) (kb : Fn) : Fn := fun ε => match kb (lamE ε) with
  | .ok d => .ok d
  | .ex c => .ofO ((tw.lookup c).map res)
  | .bad => .bad
/-- of each class that may be caught, its word -/
def TwOk (P : Program) (w : World) (K : PySem.W.Frag) (mg : Mg) (base : Heap) (lv : Nat) (hx : Str) (wx : Str) (tw : List (Str × Dt)) : Prop :=
  ∃ C fw, mg hx = some (.ref C) ∧ mg wx = some (.ref fw) ∧ PySem.W.keepIn K (.ref fw) = true ∧ ∀ c wd, tw.lookup c = some wd → Plain wd ∧ ∃ D, mg c = some (.ref D) ∧ PySem.W.exmOne K (.ref D) (.ref C) = some true ∧ WdOk P w K mg base lv fw D wd
section
variable {X : Cx} {W : WX}
theorem pd_told {x a1 en hx wx : Str} {g c P : Addr} {k lw : Nat} {pg params : Arguments} {b0 : Stmt} {suite : List Stmt} {sg scope : Scope} {fd : FuncData} {Ng : List Str} {body : Expr} {p lpos pos p1 p2 p3 p4 p5 p6 : Pos} {kb : Fn} {tw : List (Str × Dt)} {res : Dt → Dt} {gs : Addr → Dt → Sg}
    (Fg : FunD X.K x x pg [.Try [.Return (some (.Call (.Name a1 p1) [] [] p2)) p3] [.ExceptHandler (some (.Name hx p4)) (some en) (b0 :: suite) p5] [] [] p6] sg [] [] g fd) (hm : X.mg x = some (.ref g))
    (hbg : ∀ (kV doc pm : Value) (an : Option Addr) (cdv ct : Value) (us : List Value), us.length = [a1].length → bindArgs (PySem.W.fnOf x x pg [.Try [.Return (some (.Call (.Name a1 p1) [] [] p2)) p3] [.ExceptHandler (some (.Name hx p4)) (some en) (b0 :: suite) p5] [] [] p6] sg .none kV doc pm an cdv ct) ⟨us, []⟩ = pure ([a1].zip us))
    (Sg : FnScope Ng [a1] sg) (hNg : Ng = [a1, en]) (hva : Vis sg a1) (hle : sg.names.lookup en = some .local) (hlx : sg.names.lookup hx = some .globalImplicit) (hdx : (hx == ("__debug__" : Str)) = false)
    (TB : LamX.TabB X.base X.mg c P) (hcode : X.env.code = .ref c) {q0 : Str} (hq : X.env.qual = q0) (hmT : (P, q0 ++ "<lambda>") ∈ TbC.T) (hu : ∀ p ∈ TbC.T, p.1 = P → p.2 = q0 ++ "<lambda>") (hr : Room (k + 2) X.A) (hlw : lw ≤ k + 1) (tk : Takes X W)
    (L : LamX.LamS X.env.scope scope)
    (hbind : ∀ (q : Str) (cl : List (Str × Addr)) (pm cv ctv : Value), bindArgs (PySem.W.kla_fn "<lambda>" q params body scope cl pm cv ctv) ⟨[], []⟩ = pure [])
    (hbody : ∀ (A : Around) (outer : List Env) (s : Shared) (H : Hp) (E : XK) (f c' : Addr), Room k (A.deeper (LamX.lamEnv X scope s.heap.objs.size f c')) → Takes (LamX.lamCx X A outer s H E scope f c') (wE E) → PD (LamX.lamCx X A outer s H E scope f c') (wE E) body kb)
    (hT : TwOk X.prog X.w X.K X.mg X.base lw hx wx tw)
    (hS : ∀ (cdg : Value) (s : Shared) (H : Hp) (E : XK) (a D fw : Addr) (oe : Obj) (pn : List (Addr × Obj)) (wd : Dt), WdOk X.prog X.w X.K X.mg X.base lw fw D wd → Plain wd → X.mg wx = some (.ref fw) → PySem.W.keepIn X.K (.ref fw) = true → L2H.RoomH lw (X.A.deeper (envOfC x sg s.heap.objs.size g cdg)) → Zc (.ref D) none oe → (∃ vs, oe.data = .fields vs) →
      SDs ((cxOf (L2.CX X.prog X.w) X.prog X.w X.K X.mg X.base Ng x sg g cdg X.A X.stack s H E).suite a ((a, oe) :: pn)) W0 (b0 :: suite) (gs a wd))
    (hres : ∀ a c q wd, gs a wd [.u, .d (.fn a c q [] [])] = .ok (.rt (res wd)))
    (hdef : defaultsOf params X.env = ([], []) := by rfl) (hg : Gl X x := by rfl) (hdb : (x == ("__debug__" : Str)) = false := by decide) (hd : (a1 == ("__debug__" : Str)) = false := by decide) (hcd : (a1 == ("__classdict__" : Str)) = false := by decide) (hne : a1 ≠ en := by decide)
    (he : starEach [.Lambda params body scope lpos] X.env = [(false, eval (.Lambda params body scope lpos) X.env)] := by rfl) (hpl : (backTo pos (starEach [] X.env)).any (·.1) = false := by rfl) :
    PD X W (.Call (.Name x p) [.Lambda params body scope lpos] [] pos) (toldF tw res kb) := by
  subst hq hNg
  have hb := Fg.bindsN (ps := [a1]) hbg
  obtain ⟨oc, od, dV, kV, doc, pm, an, cdv, ct, osl, efd, lk, hcg, _, _⟩ := Fg.ex
  subst efd
  obtain ⟨C, fw, hCm, hWm, hWk, hT⟩ := hT
  refine ⟨fun pins s σ H Q I ⟨Pv, ε, E, q⟩ => ?_⟩
  refine wpAny_Call_Name_kw (ld_glob I hg hm ?_ hdb)
  refine PySem.W.callWith_K (h₀ := X.base) I.ok.mod.kin Fg.kp ?_ he hpl
  rw [he]
  refine Calls.spliced_cons (LamX.lam_make2 I TB hcode hmT hu E.tb hdef (L.has I.ok) fun f c' pm' ctv H2 s2 I2 eN T2 hf hfn hfr hco => ?_)
  refine Calls.spliced_nil ⟨I2.kIn, ?_⟩
  have e2 : Ext H H2 := ext_of eN T2
  have E2 := E.ext e2
  have rc : codeAny (model X.prog X.w) X.A (.call (.ref g) ⟨[.ref f], []⟩) (CR (L2.CX X.prog X.w) X.stack X.prog X.w H2 s2 Q (WE W σ)) s2 := by
    refine LamX.run_ofS (N := [a1, en]) (ps := [a1]) (us := [.ref f]) (vs := [.ref f]) lk hcg Sg hr I2.env0 (hb s2 [.ref f] I2.kIn rfl) (.cons rfl .nil) rfl fun hr' => ?_
    have hgl : Gl (cxOf (L2.CX X.prog X.w) X.prog X.w X.K X.mg X.base [a1, en] x sg g cdv X.A X.stack s2 H2 (WE W σ)) hx := hlx
    have tkZ : Takes (cxOf (L2.CX X.prog X.w) X.prog X.w X.K X.mg X.base [a1, en] x sg g cdv X.A X.stack s2 H2 (WE W σ)) (wE (WE W σ)) := takes_of rfl rfl rfl rfl
    have hnd : [a1, en].Nodup := by simp [hne]
    let ts : Addr → Value → Option Addr → TS := fun a cls d Dn σ3 H3 => ∃ D wd F, cls = .ref D ∧ d = none ∧ Plain wd ∧ WdOk X.prog X.w X.K X.mg X.base lw fw D wd ∧ tS ((cxOf (L2.CX X.prog X.w) X.prog X.w X.K X.mg X.base [a1, en] x sg g cdv X.A X.stack s2 H2 (WE W σ)).suite a []) F W0 (gs a wd) Dn σ3 H3
    refine ⟨_, pss_one (L2H.ps_try_asH (i := 1) (tb := fun W' D σZ HZ => σZ[0]? = some (some (.ref f)) ∧ HZ c' = some (LamX.CodeO c' (X.env.qual ++ "<lambda>")) ∧ tD X (wE (WE W' σZ)) kb σ HZ D.rt) (ts := ts) rfl rfl hnd rfl hle ⟨hgl, hdx, .inl hCm⟩ tkZ ?_ ?_), ?_⟩
    · intro W' pn xe _ tk' _
      refine pss_one (ps_weak (ps_ret (lam0_act (tb := fun E => tD X (wE E) kb) I2 L hf hfn hfr (hbind _ _ _ _ _) tk' hr' (fun A outer s H E hr2 => hbody A outer s H E f c' hr2 (takes_of rfl rfl rfl rfl)) (i := 0) rfl hva hd hcd)) fun D σZ HZ h => h)
    · intro a oe cls d pn hz hfd
      refine ⟨fun pins3 s3 σ3 H3 Dn I3 ⟨D, wd, F, hcl, hdn, pl, hW, h3⟩ => ?_⟩
      subst hcl hdn
      have r4 := hr'
      exact ((hS cdv s2 H2 (WE W σ) a D fw oe pn wd hW pl hWm hWk (L2H.roomH_of (hr'.mono hlw)) hz hfd) F).run pins3 s3 σ3 H3 Dn I3 h3
    · refine ⟨rfl, hco, Pv, _, E2.lam0 E2.tk E2.tb E2.caps, ?_⟩
      have q2 : Out X W σ H (toldF tw res kb ε) fun d => ∀ v H', Ext H H' → Rep X.K X.mg H' Pv d v → Q v H' := q
      unfold toldF at q2
      cases hk : kb (lamE ε) with
      | bad => rw [hk] at q2; exact q2
      | ok d => rw [hk] at q2; exact fun v H' x r => q2 v H' (e2.trans x) r
      | ex cn =>
        rw [hk] at q2
        obtain ⟨d, hd1, q3⟩ := q2.ofO
        obtain ⟨wd, hl, rfl⟩ := Option.map_eq_some_iff.mp hd1
        obtain ⟨pl, D, hD, hex, hW⟩ := hT cn wd hl
        refine ⟨D, hD, fun H' x => ⟨true, hex, fun _ a ha => ?_, fun z => nomatch z⟩⟩
        have E3 := E2.ext x
        have no1 : ∀ (i : Nat) (l : Lc), ([.u, .d (.fn a c' (X.env.qual ++ "<lambda>") [] [])] : Ev)[i]? = some l → ¬ l.isO := fun i l h o => by
          match i, h with
          | 0, h => cases h; exact o
          | 1, h => cases h; exact o
          | n + 2, h => cases h
        refine ⟨D, wd, ⟨H', Pv, no⟩, rfl, rfl, pl, hW, [.u, .d (.fn a c' (X.env.qual ++ "<lambda>") [] [])], ⟨⟨rfl, fun b hb => hb.elim (E3.tk b) fun ⟨i, l, h1, h2, _⟩ => absurd h2 (no1 i l h1), fun i l h => ?_, E3.tb⟩, Xt.refl, E3.tk, fun i l _ h1 h2 => absurd h2 (no1 i l h1), fun i xs _ h1 => absurd trivial (no1 i _ h1), fun i j l l' _ _ h1 h2 => absurd h2 (no1 i l h1)⟩, ?_⟩
        · match i, h with
          | 0, h => cases h; trivial
          | 1, h => cases h; exact ⟨.ref a, rfl, rfl, x.at_ hco LamX.codeO_ne, rfl⟩
          | n + 2, h => cases h
        · rw [hres]
          exact fun v H4 x4 r4 => q3 v H4 (e2.trans (x.trans x4)) r4
  have hx2 := passAt tk σ
  refine wpAny_call (codeAny_mono rc fun r s3 hq => ?_)
  cases r with
  | error er => exact hx2 pins H2 s2 er s3 I2 hq
  | ok fl =>
    cases fl with
    | ret u => exact I2.after hq
    | _ => exact False.elim hq
end
/-! ### told, as the laws write it -/
def toldS (a : Addr) (wd : Dt) : Sg := rtS (tupF (consF (kc (.str "refused")) (consF (un (wdD a wd) (gv 1)) nilF)))
def toldR (wd : Dt) : Dt := .tup [.str "refused", wd]
theorem wd_at {a c : Addr} {q : Str} {wd : Dt} {x : Lc} : un (wdD a wd) (gv 1) [x, .d (.fn a c q [] [])] = .ok wd := by
  show Rz.ofO (wdD a wd (.fn a c q [] [])) = _
  rw [wdD_eq]
  rfl
theorem told_res (a c : Addr) (q : Str) (wd : Dt) : toldS a wd [.u, .d (.fn a c q [] [])] = .ok (.rt (toldR wd)) := by
  have e := wd_at (a := a) (c := c) (q := q) (wd := wd) (x := .u)
  unfold toldS rtS tupF consF nilF
  simp only [e]
  rfl
def toldS1 (a : Addr) (wd : Dt) : Sg := rtS (un (wdD a wd) (gv 1))
def toldR1 (wd : Dt) : Dt := wd
theorem told_res1 (a c : Addr) (q : Str) (wd : Dt) : toldS1 a wd [.u, .d (.fn a c q [] [])] = .ok (.rt (toldR1 wd)) := by
  have e := wd_at (a := a) (c := c) (q := q) (wd := wd) (x := .u)
  unfold toldS1 rtS
  rw [e]
  rfl
theorem lk_cons {k c : Str} {v wd : Dt} {r : List (Str × Dt)} (h : ((k, v) :: r).lookup c = some wd) : (c = k ∧ wd = v) ∨ r.lookup c = some wd := by
  by_cases e : c = k
  · subst e
    rw [List.lookup_cons_self] at h
    exact .inl ⟨rfl, (Option.some.inj h).symm⟩
  · refine .inr ?_
    rw [List.lookup] at h
    have z : (c == k) = false := beq_eq_false_iff_ne.mpr e
    rw [z] at h
    exact h
theorem lk_nil {c : Str} {wd : Dt} (h : ([] : List (Str × Dt)).lookup c = some wd) : False := nomatch h
/-! ### what is asked of a class of refusals -/
def errX (hx : Str) (fl : List (Str × Bool)) (c : Str) : PySem.W.Frag → Bool := fun K =>
  decide (PySem.W.findIn K (.ref (He.ga K c)) "__getattribute__" = some (some (.builtin "BaseException.__getattribute__"))) && (decide (PySem.W.findIn K (.ref (He.ga K c)) "__getattr__" = some none) && (decide (PySem.W.subIn K (.ref (He.ga K c)) (.type "BaseException") = some true) &&
  (PySem.W.hasDictIn K (He.ga K c) && (decide (PySem.W.findIn K (.ref (He.ga K c)) "__class__" = some (some (.builtin "object.__class__"))) && (decide (PySem.W.specialIn K (.builtin "object.__class__") "__get__" = some (some (.builtin "getset_descriptor.__get__"))) &&
  (decide (PySem.W.takesIn K (.builtin "object.__class__") = some true) && (decide (PySem.W.mroIn K (He.ga K c) (.type "object") = some true) && (decide (PySem.W.exmOne K (.ref (He.ga K c)) (.ref (He.ga K hx)) = some true) &&
  (decide (PySem.W.kitOne K (.ref (He.ga K c)) (.type "ValueError") = some true) && fl.all fun p => decide (PySem.W.kitOne K (.ref (He.ga K c)) (.ref (He.ga K p.1)) = some p.2))))))))))
structure ErrC (K : PySem.W.Frag) (hx : Str) (fl : List (Str × Bool)) (c : Str) : Prop where
  cl : ExcC K (He.ga K c)
  h : PySem.W.exmOne K (.ref (He.ga K c)) (.ref (He.ga K hx)) = some true
  v : PySem.W.kitOne K (.ref (He.ga K c)) (.type "ValueError") = some true
  k : ∀ p ∈ fl, PySem.W.kitOne K (.ref (He.ga K c)) (.ref (He.ga K p.1)) = some p.2
theorem errX_ok {K : PySem.W.Frag} {hx c : Str} {fl : List (Str × Bool)} (h : errX hx fl c K = true) : ErrC K hx fl c := by
  unfold errX at h
  simp only [Bool.and_eq_true, decide_eq_true_eq, List.all_eq_true] at h
  obtain ⟨h1, h2, h3, h4, h5, h6, h7, h8, h9, h10, h11⟩ := h
  exact ⟨⟨h1, h2, h3, h4, h5, h6, h7, h8⟩, h9, h10, h11⟩
theorem ErrC.at_ {K : PySem.W.Frag} {hx c : Str} {fl : List (Str × Bool)} (E : ErrC K hx fl c) (i : Nat) {d : Str} {b : Bool} (h : fl[i]? = some (d, b) := by rfl) : PySem.W.kitOne K (.ref (He.ga K c)) (.ref (He.ga K d)) = some b := E.k (d, b) (List.mem_of_getElem? h)
end DL
end
section
set_option Elab.async false
set_option linter.all false
set_option maxRecDepth 100000
set_option maxHeartbeats 800000
set_option autoImplicit false
namespace DL
open PySem PySem.Spec PyProof.Rows L2
variable [TbC]
/-! ### instances: their fields -/
def putK (f : Str) : List Str → List Str
  | g :: ks => if g = f then g :: ks else g :: putK f ks
  | [] => [f]
def putX {α : Type} (f : Str) (y : α) : List Str → List α → List α
  | g :: ks, z :: xs => if g = f then y :: xs else z :: putX f y ks xs
  | _, _ => [y]
theorem putK_len {α : Type} (f : Str) (y : α) : ∀ (ks : List Str) (xs : List α), ks.length = xs.length → (putK f ks).length = (putX f y ks xs).length
  | [], [], _ => rfl
  | g :: ks, z :: xs, h => by
    have h' : ks.length = xs.length := by simpa using h
    unfold putK putX
    by_cases e : g = f
    · rw [if_pos e, if_pos e]; simpa using h
    · rw [if_neg e, if_neg e]; simpa using putK_len f y ks xs h'
  | [], _ :: _, h => by simp at h
  | _ :: _, [], h => by simp at h
theorem put_zip (f : Str) (v : V) : ∀ (ks : List Str) (vs : List V), ks.length = vs.length → putF f v (ks.zip vs) = (putK f ks).zip (putX f v ks vs)
  | [], [], _ => rfl
  | g :: ks, z :: vs, h => by
    have h' : ks.length = vs.length := by simpa using h
    unfold putK putX
    by_cases e : g = f
    · rw [if_pos e, if_pos e]
      show (if g = f then (g, v) :: ks.zip vs else _) = _
      rw [if_pos e]; rfl
    · rw [if_neg e, if_neg e]
      show (if g = f then _ else (g, z) :: putF f v (ks.zip vs)) = _
      rw [if_neg e, put_zip f v ks vs h']; rfl
  | [], _ :: _, h => by simp at h
  | _ :: _, [], h => by simp at h
section
variable {K : PySem.W.Frag} {mg : Mg} {H : Hp} {P : Pv}
theorem Reps.putX {f : Str} {d : Dt} {v : V} (r : Rep K mg H P d v) : ∀ {ks : List Str} {xs : List Dt} {vs : List V}, ks.length = xs.length → Reps K mg H P xs vs → Reps K mg H P (putX f d ks xs) (putX f v ks vs)
  | [], [], vs, _, h => by rw [show vs = [] from h]; exact ⟨v, [], rfl, r, rfl⟩
  | g :: ks, z :: xs, vs, h, ⟨w, ws, e, h1, h2⟩ => by
    subst e
    unfold DL.putX
    by_cases e : g = f
    · rw [if_pos e, if_pos e]; exact ⟨v, ws, rfl, r, h2⟩
    · rw [if_neg e, if_neg e]; exact ⟨w, _, rfl, h1, Reps.putX r (by simpa using h) h2⟩
  | [], _ :: _, _, h, _ => by simp at h
  | _ :: _, [], _, h, _ => by simp at h
theorem Reps.fld {f : Str} {d : Dt} : ∀ {ks : List Str} {xs : List Dt} {vs : List V}, Reps K mg H P xs vs → (ks.zip xs).lookup f = some d → ∃ v, (ks.zip vs).lookup f = some v ∧ Rep K mg H P d v
  | [], _, _, _, h => nomatch h
  | _ :: _, [], _, _, h => nomatch h
  | g :: ks, z :: xs, vs, ⟨w, ws, e, h1, h2⟩, h => by
    subst e
    by_cases e : f = g
    · subst e
      rw [List.zip_cons_cons, List.lookup_cons_self] at h ⊢
      cases h
      exact ⟨w, rfl, h1⟩
    · have z : (f == g) = false := beq_eq_false_iff_ne.mpr e
      rw [List.zip_cons_cons, List.lookup, z] at h ⊢
      exact Reps.fld h2 h
end
def fldD (cn f : Str) : Dt → Option Dt
  | .ins c ks xs => if c = cn then (ks.zip xs).lookup f else none
  | _ => none
section
variable {X : Cx} {W : WX} {e : Expr} {g : Fn} {pos : Pos} {C : Addr}
theorem dFld {cn f : Str} (hC : X.mg cn = some (.ref C)) (c : Cls X.K C) (n : NoAttr X.K C f) (ha : PB X W e g) (hb : attributeBase e f X.env (eval e X.env) = eval e X.env := by rfl) : PD X W (.Attribute e f pos) (un (fldD cn f) g) :=
  pe_weak (pe_fld ha hb) fun σ H Q ⟨P, ε, E, q⟩ => ⟨P, ε, E, q.bind.mono fun dx q x H1 e1 r1 => by
    obtain ⟨d, hh, q9⟩ := q.ofO
    cases dx with
    | ins c' ks xs =>
      by_cases z : c' = cn
      · subst z
        rw [show fldD c' f (.ins c' ks xs) = (ks.zip xs).lookup f from if_pos rfl] at hh
        obtain ⟨a, C', dx, vs, rfl, h1, h2, h3, h4⟩ := r1
        rw [hC] at h1
        cases h1
        obtain ⟨v, h5, h6⟩ := Reps.fld h4 hh
        exact ⟨a, C, dx, _, v, rfl, h2, c, n, h5, q9 v H1 e1 h6⟩
      · rw [show fldD cn f (.ins c' ks xs) = none from if_neg z] at hh
        cases hh
    | _ => cases hh⟩
/-- self.f = e -/
def fldS (i : Nat) (cn f : Str) (g : Fn) : Sg := fun ε => (exS ε (g ε)).bind fun d => match ε[i]? with
  | some (.i a c ks xs) => if c = cn ∧ ks.length < 900 ∧ ks.length = xs.length then .ok (.nx (ε.set i (.i a c (putK f ks) (putX f d ks xs)))) else .bad
  | _ => .bad
theorem sd_fld (i : Nat) {cn f x : Str} {px pos' : Pos} (hC : X.mg cn = some (.ref C)) (c : Cls X.K C) (n : NoAttr X.K C f) (he : PD X W e g) (hN : X.N[i]? = some x := by rfl) (hv : Vis X.env.scope x := by first | exact Or.inl rfl | exact Or.inr (Or.inl rfl) | exact Or.inr (Or.inr rfl)) (hd : (x == ("__debug__" : Str)) = false := by decide)
    (hcd : (x == ("__classdict__" : Str)) = false := by decide) (hs : swapsWith e (some (.Attribute (.Name x px) f pos')) pos.line X.env = pure false := by rfl) :
    SD X W (.Assign [.Attribute (.Name x px) f pos'] e pos) (fldS i cn f g) := fun F => ps_weak (ps_fld (pe_var (i := i) hN hv hd hcd) he hs) fun D σ H ⟨ε, S, q⟩ =>
  ⟨_, ε, S.e, (q.exp S).mono fun d q v H1 x1 r1 => by
    have S1 := S.ext x1
    cases hs : ε[i]? with
    | none => rw [hs] at q; exact q.elim
    | some l =>
      rw [hs] at q
      cases l with
      | i a c' ks xs =>
        have q9 : SOut X F W D (if c' = cn ∧ ks.length < 900 ∧ ks.length = xs.length then .ok (.nx (ε.set i (.i a c' (putK f ks) (putX f d ks xs)))) else .bad) := q
        clear q
        by_cases z : c' = cn ∧ ks.length < 900 ∧ ks.length = xs.length
        · rw [if_pos z] at q9
          obtain ⟨rfl, z2, z3⟩ := z
          obtain ⟨C', dx, vs, h1, h2, h3, h4, h5, h6⟩ := S1.e.sl i _ hs
          rw [hC] at h3
          cases h3
          have hl : (ks.zip vs).length < 1000 := by rw [List.length_zip, h5]; omega
          refine ⟨.ref a, slot_some h1, a, C, dx, _, rfl, h4, c, n, hl, ?_⟩
          refine q9 σ _ (S1.put (l1 := .i a c' (putK f ks) (putX f d ks xs)) hs trivial trivial (fun _ z => nomatch z) h1 nt_ins ⟨C, dx, putX f v ks vs, rfl, h2, hC, by rw [upd_same, put_zip f v ks vs h5], putK_len f v ks vs h5, ?_⟩)
          exact Reps.tr (Tr.write h2 (.inr (.inl ⟨_, _, _, h4⟩))) _ _ (Reps.putX r1 z3 h6)
        · rw [if_neg z] at q9
          exact q9.elim
      | _ => exact q.elim⟩
end
/-! ### methods -/
structure DfM (P : Program) (w : World) (K : PySem.W.Frag) (mg : Str → Option Value) (base : Heap) (lv : Nat) (cn m : Str) (n : Nat) (G : Fd) : Prop where
  ex : ∃ C fa fd ps, FnOk P w K mg base (L2.CX P w) lv fa fd ps (spD K mg n G) ∧ mg cn = some (.ref C) ∧ Cls K C ∧ Meth K C m fa ∧ L2.Binds K fd ps []
/-- what a method is called upon -/
def selfD (cn m : Str) : Dt → Option Dt
  | .ins c ks xs => if c = cn ∧ (ks.contains m) = false then some (.ins c ks xs) else none
  | _ => none
def methF (cn m : Str) (n : Nat) (G : Fd) (fo : Fn) (fs : Fs) : Fn := fun ε => ((un (selfD cn m) fo) ε).bind fun x => (fs ε).bind fun ds => if (x :: ds).length = n then (G (x :: ds)).bind fun o => .ok o.dt else .bad
def methN (cn m : Str) (n : Nat) (G : Fd) (fo : Fn) (fs : Fs) : Fs := fun ε => ((un (selfD cn m) fo) ε).bind fun x => (fs ε).bind fun ds => if (x :: ds).length = n then (G (x :: ds)).bind fun o => match o with
  | .ow xs => .ok xs
  | .va _ => .bad else .bad
section
variable {X : Cx} {W : WX} {e o : Expr} {es : List Expr} {fo : Fn} {fs : Fs} {pos apos : Pos} {k j n : Nat} {cn m : Str} {G : Fd}
theorem no_look {m : Str} : ∀ {ks : List Str} {vs : List V}, (ks.contains m) = false → (ks.zip vs).lookup m = none
  | [], _, _ => rfl
  | _ :: _, [], _ => rfl
  | k :: ks, v :: vs, h => by
    rw [List.contains_cons, Bool.or_eq_false_iff] at h
    rw [List.zip_cons_cons, List.lookup, h.1]
    exact no_look h.2
/-- the receiver -/
theorem self_of {H : Hp} {P : Pv} {dx d : Dt} {v : V} {C : Addr} (hC : X.mg cn = some (.ref C)) (r : Rep X.K X.mg H P dx v) (h : selfD cn m dx = some d) : d = dx ∧ ∃ a dd fs, v = .ref a ∧ H a = some (.ins C dd fs) ∧ fs.lookup m = none := by
  cases dx with
  | ins c ks xs =>
    by_cases z : c = cn ∧ (ks.contains m) = false
    · rw [show selfD cn m (.ins c ks xs) = some (.ins c ks xs) from if_pos z] at h
      cases h
      obtain ⟨a, C', dd, vs, rfl, h1, h2, _, h3, h4⟩ := r
      rw [z.1, hC] at h1
      cases h1
      exact ⟨rfl, a, dd, _, rfl, h2, no_look z.2⟩
    · rw [show selfD cn m (.ins c ks xs) = none from if_neg z] at h
      cases h
  | _ => cases h
theorem meth_run {t : TA} {pl : Sem Bool} {R : Dt → List Dt → Rz Str Dt → Prop} (Fk : DfM X.prog X.w X.K X.mg X.base j cn m n G) (hr : Room k X.A) (hj : j ≤ k) (tk : Takes X W) (hs : PD X W o fo) (ha : AD X W (e :: es) fs) {pins : List (Addr × Obj)} {s : Shared} {σ : St} {H : Hp} {Q : VK} {P : Pv} {ε : Ev}
    (I : Inv X pins σ H s) (E : EOk X.K X.mg P σ H ε)
    (q : Out X W σ H (((un (selfD cn m) fo) ε).bind fun x => (fs ε).bind fun ds => (.ok (x, ds) : Rz Str (Dt × List Dt))) fun p => ∀ H1 vs, Ext H H1 → Reps X.K X.mg H1 P (p.1 :: p.2) vs → spD X.K X.mg n G vs H1 Q (WE W σ))
    (hst : starEach (e :: es) X.env = (false, eval e X.env) :: starEach es X.env) (hpl : (backTo pos (starEach es X.env)).any (·.1) = false)
    (ht : eval (.Call (.Attribute o m apos) (e :: es) [] pos) X.env = (do
      let ov ← eval o X.env
      standAt apos.atName
      let (f, first) ← holding [ov] (getMethod ov m pl)
      callWith pos f first (backTo pos (starEach (e :: es) X.env)) (backToKw pos (keywordEach [] X.env)))) :
    wpAny (model X.prog X.w) X.A (eval (.Call (.Attribute o m apos) (e :: es) [] pos) X.env) (EP X pins σ Q) X.xe s := by
  obtain ⟨C, fa, fd, ps, F, hC, c, hm, hb⟩ := Fk.ex
  refine PySem.W.methodCall_KW (pl := pl) (thn (hs.run pins s σ H (fun v H1 => Ext H H1 ∧ ∃ d, Rep X.K X.mg H1 P d v ∧ (∃ a dd ff, v = .ref a ∧ H1 a = some (.ins C dd ff) ∧ ff.lookup m = none) ∧ Out X W σ H ((fs ε).bind fun ds => (.ok (d, ds) : Rz Str (Dt × List Dt))) fun p => ∀ H1 vs, Ext H H1 → Reps X.K X.mg H1 P (p.1 :: p.2) vs → spD X.K X.mg n G vs H1 Q (WE W σ)) I ⟨P, ε, E, ?_⟩) fun u s1 ⟨x, H1, I1, rx, e1, d, rd, ⟨a, dd, ff, ex, ea, l⟩, q⟩ => ?_) ht
  · unfold un at q
    cases hf : fo ε with
    | bad => rw [hf] at q; exact q
    | ex c => rw [hf] at q; exact q
    | ok dx =>
      rw [hf] at q
      show ∀ v H', Ext H H' → _ → _
      intro v H' x r
      have q : Out X W σ H ((Rz.ofO (selfD cn m dx)).bind fun x => (fs ε).bind fun ds => (.ok (x, ds) : Rz Str (Dt × List Dt))) fun p => ∀ H1 vs, Ext H H1 → Reps X.K X.mg H1 P (p.1 :: p.2) vs → spD X.K X.mg n G vs H1 Q (WE W σ) := q
      cases hd : selfD cn m dx with
      | none => rw [hd] at q; exact q.elim
      | some d =>
        rw [hd] at q
        have q9 : Out X W σ H ((fs ε).bind fun ds => (.ok (d, ds) : Rz Str (Dt × List Dt))) fun p => ∀ H1 vs, Ext H H1 → Reps X.K X.mg H1 P (p.1 :: p.2) vs → spD X.K X.mg n G vs H1 Q (WE W σ) := q
        obtain ⟨ed, a, dd, ff, h1, h2, h3⟩ := self_of hC r hd
        rw [← ed] at r
        exact ⟨x, d, r, ⟨a, dd, ff, h1, h2, h3⟩, q9⟩
  · subst ex
    cases (show u = Value.ref a from rx)
    refine getmeth_ok I1 ea c hm l ?_
    refine PySem.W.callWith_K (first := [.ref a]) (h₀ := X.base) I.ok.mod.kin hm.kp (thn (ha.run pos pins s1 σ H1 (fun vs H2 => spD X.K X.mg n G (.ref a :: vs) H2 Q (WE W σ)) I1 ⟨P, ε, E.ext e1, ?_⟩) fun us s2 ⟨vs, H2, I2, r, q2⟩ => ⟨I2.kIn, ?_⟩) hst hpl
    · have q1 := q.ext e1
      cases hf : fs ε with
      | bad => rw [hf] at q1; exact q1
      | ex c => rw [hf] at q1; exact q1
      | ok ds =>
        rw [hf] at q1
        exact fun vs H2 x2 r2 => q1 H2 (.ref a :: vs) (e1.trans x2) ⟨_, _, rfl, rd.ext x2, r2⟩
    · exact run_fnS (us := .ref a :: us) (vs := .ref a :: vs) F (hr.mono hj) hb (passAt tk σ) I2 (.cons rfl r) q2
theorem dMeth {pl : Sem Bool} (Fk : DfM X.prog X.w X.K X.mg X.base j cn m n G) (hr : Room k X.A) (hj : j ≤ k) (tk : Takes X W) (hs : PD X W o fo) (ha : AD X W (e :: es) fs)
    (hst : starEach (e :: es) X.env = (false, eval e X.env) :: starEach es X.env := by rfl) (hpl : (backTo pos (starEach es X.env)).any (·.1) = false := by rfl)
    (ht : eval (.Call (.Attribute o m apos) (e :: es) [] pos) X.env = (do
      let ov ← eval o X.env
      standAt apos.atName
      let (f, first) ← holding [ov] (getMethod ov m pl)
      callWith pos f first (backTo pos (starEach (e :: es) X.env)) (backToKw pos (keywordEach [] X.env))) := by rfl) :
    PD X W (.Call (.Attribute o m apos) (e :: es) [] pos) (methF cn m n G fo fs) := by
  refine ⟨fun pins s σ H Q I ⟨P, ε, E, q⟩ => meth_run (t := tNil) (R := fun _ _ _ => True) Fk hr hj tk hs ha I E ?_ hst hpl ht⟩
  unfold methF at q
  refine Out.mono (k := fun p : Dt × List Dt => Out X W σ H (if (p.1 :: p.2).length = n then (G (p.1 :: p.2)).bind fun o => .ok o.dt else .bad) fun d => ∀ v H', Ext H H' → Rep X.K X.mg H' P d v → Q v H') ?_ fun p q H1 vs e1 r => sp_of E e1 r q
  cases h1 : (un (selfD cn m) fo) ε with
  | bad => rw [h1] at q; exact q
  | ex c => rw [h1] at q; exact q
  | ok x =>
    rw [h1] at q
    cases h2 : fs ε with
    | bad => rw [h2] at q; exact q
    | ex c => rw [h2] at q; exact q
    | ok ds => rw [h2] at q; exact q
theorem nMeth {pl : Sem Bool} (Fk : DfM X.prog X.w X.K X.mg X.base j cn m n G) (hr : Room k X.A) (hj : j ≤ k) (tk : Takes X W) (hs : PD X W o fo) (ha : AD X W (e :: es) fs)
    (hst : starEach (e :: es) X.env = (false, eval e X.env) :: starEach es X.env := by rfl) (hpl : (backTo pos (starEach es X.env)).any (·.1) = false := by rfl)
    (ht : eval (.Call (.Attribute o m apos) (e :: es) [] pos) X.env = (do
      let ov ← eval o X.env
      standAt apos.atName
      let (f, first) ← holding [ov] (getMethod ov m pl)
      callWith pos f first (backTo pos (starEach (e :: es) X.env)) (backToKw pos (keywordEach [] X.env))) := by rfl) :
    PN X W (.Call (.Attribute o m apos) (e :: es) [] pos) (methN cn m n G fo fs) := by
  refine ⟨fun pins s σ H Q I ⟨P, ε, E, q⟩ => meth_run (t := tNil) (R := fun _ _ _ => True) Fk hr hj tk hs ha I E ?_ hst hpl ht⟩
  unfold methN at q
  refine Out.mono (k := fun p : Dt × List Dt => Out X W σ H (if (p.1 :: p.2).length = n then (G (p.1 :: p.2)).bind fun o => match o with | .ow xs => .ok xs | .va _ => .bad else .bad) fun ds => ∀ p vs H', Ext H H' → Fresh H p → H' p = some (.lst vs) → Reps X.K X.mg H' (more P p) ds vs → Q (.ref p) H') ?_ fun p q H1 vs e1 r => spN_of E e1 r q
  cases h1 : (un (selfD cn m) fo) ε with
  | bad => rw [h1] at q; exact q
  | ex c => rw [h1] at q; exact q
  | ok x =>
    rw [h1] at q
    cases h2 : fs ε with
    | bad => rw [h2] at q; exact q
    | ex c => rw [h2] at q; exact q
    | ok ds => rw [h2] at q; exact q
/-- .. without arguments -/
theorem dMeth0 {pl : Sem Bool} (Fk : DfM X.prog X.w X.K X.mg X.base j cn m n G) (hr : Room k X.A) (hj : j ≤ k) (tk : Takes X W) (hs : PD X W o fo)
    (ht : eval (.Call (.Attribute o m apos) [] [] pos) X.env = (do
      let ov ← eval o X.env
      standAt apos.atName
      let (f, first) ← holding [ov] (getMethod ov m pl)
      callWith pos f first (backTo pos (starEach [] X.env)) (backToKw pos (keywordEach [] X.env))) := by rfl) :
    PD X W (.Call (.Attribute o m apos) [] [] pos) (methF cn m n G fo nilF) := by
  obtain ⟨C, fa, fd, ps, F, hC, c, hm, hb⟩ := Fk.ex
  refine ⟨fun pins s σ H Q I ⟨P, ε, E, q⟩ => ?_⟩
  unfold methF at q
  refine PySem.W.methodCall_KW (pl := pl) (thn (hs.run pins s σ H (fun v H1 => spD X.K X.mg n G [v] H1 Q (WE W σ) ∧ ∃ a dd ff, v = .ref a ∧ H1 a = some (.ins C dd ff) ∧ ff.lookup m = none) I ⟨P, ε, E, ?_⟩) fun u s1 ⟨x, H1, I1, rx, hsp, a, dd, ff, ex, ea, l⟩ => ?_) ht
  · unfold un at q
    cases hf : fo ε with
    | bad => rw [hf] at q; exact q
    | ex c => rw [hf] at q; exact q
    | ok dx =>
      rw [hf] at q
      show ∀ v H', Ext H H' → _ → _
      intro v H' x r
      have q : Out X W σ H ((Rz.ofO (selfD cn m dx)).bind fun x => if [x].length = n then (G [x]).bind fun o => .ok o.dt else .bad) fun d => ∀ v H', Ext H H' → Rep X.K X.mg H' P d v → Q v H' := q
      cases hd : selfD cn m dx with
      | none => rw [hd] at q; exact q.elim
      | some d =>
        rw [hd] at q
        obtain ⟨ed, a, dd, ff, h1, h2, h3⟩ := self_of hC r hd
        rw [← ed] at r
        exact ⟨sp_of (ds := [d]) E x ⟨v, [], rfl, r, rfl⟩ q, a, dd, ff, h1, h2, h3⟩
  · subst ex
    cases (show u = Value.ref a from rx)
    refine getmeth_ok I1 ea c hm l ?_
    exact PySem.W.callWith_K0 (first := [.ref a]) I1.kIn hm.kp (run_fnS (us := [.ref a]) (vs := [.ref a]) F (hr.mono hj) hb (passAt tk σ) I1 (.cons rfl .nil) hsp)
end
/-! ### a class is made -/
abbrev Fi := Addr → List Dt → Rz Str (List Str × List Dt)
def initR (x : Addr) (cn : Str) : Rs → Rz Str (List Str × List Dt)
  | .ex (c, _) => .ex c
  | .ok (.nx ε) => match ε[0]? with
    | some (Lc.i a c ks xs) => if a = x ∧ c = cn then .ok (ks, xs) else .bad
    | _ => .bad
  | _ => .bad
def initF (cn : Str) (n : Nat) (g : Sg) : Fi := fun x ds => initR x cn (g (.i x cn [] [] :: startE (n - 1) ds))
def IOut (K : PySem.W.Frag) (mg : Mg) (P : Pv) (H : Hp) (x C : Addr) (Q : VK) (E : XK) : Rz Str (List Str × List Dt) → Prop
  | .bad => False
  | .ex c => ∃ C', mg c = some (.ref C') ∧ ∀ H', Xt (fun b => b = x) H H' → E (.ref C') none H'
  | .ok r => ∀ H' dx vs, Xt (fun b => b = x) H H' → H' x = some (.ins C dx (r.1.zip vs)) → r.1.length = vs.length → Reps K mg H' P r.2 vs → Q .non H'
def spI (K : PySem.W.Frag) (mg : Mg) (cn : Str) (n : Nat) (G : Fi) : Sp := fun vs H Q E => ∃ (P : Pv) (x C dx : Addr) (rest : List V) (ds : List Dt), vs = .ref x :: rest ∧ ds.length + 1 = n ∧ mg cn = some (.ref C) ∧ H x = some (.ins C dx []) ∧ P x ∧ (∀ a, P a → ∃ o, H a = some o ∧ ∀ ps, o ≠ .tbl ps) ∧ LamX.Tabs TbC.T H ∧
  Reps K mg H P ds rest ∧ IOut K mg P H x C Q E (G x ds)
theorem startE_no {n : Nat} {ds : List Dt} : ∀ (i : Nat) (l : Lc), (startE n ds)[i]? = some l → ¬ l.isO := fun i l h o => by
  unfold startE at h
  rw [List.getElem?_append] at h
  split at h
  · rw [List.getElem?_map] at h
    cases q : ds[i]? with
    | none => rw [q] at h; cases h
    | some d => rw [q] at h; cases h; exact o
  · rw [List.getElem?_replicate] at h
    split at h
    · cases h; exact o
    · cases h
theorem sok_startI {K : PySem.W.Frag} {mg : Mg} {n0 : Str} {N : List Str} {P : Pv} {H : Hp} {ds : List Dt} {vs : List V} {x C dx : Addr} {cn : Str} (hC : mg cn = some (.ref C)) (hx : H x = some (.ins C dx [])) (px : P x) (hp : ∀ a, P a → ∃ o, H a = some o ∧ ∀ ps, o ≠ .tbl ps) (ht : LamX.Tabs (TbC.T) H) (r : Reps K mg H P ds vs) :
    SOk K mg ⟨H, P, fun b => b = x⟩ (L2.start (n0 :: N) (.ref x :: vs)) H (.i x cn [] [] :: startE N.length ds) := by
  have S := sok_start (N := N) hp ht r
  have es : L2.start (n0 :: N) (.ref x :: vs) = some (.ref x) :: L2.start N vs := by
    unfold L2.start
    simp
  rw [es]
  have only : ∀ (i : Nat) (l : Lc), (.i x cn [] [] :: startE N.length ds : Ev)[i]? = some l → l.isO → i = 0 := fun i l h o => by
    cases i with
    | zero => rfl
    | succ i => exact absurd o (startE_no i l h)
  have at0 : ∀ (i : Nat) (l : Lc) (a : Addr), (.i x cn [] [] :: startE N.length ds : Ev)[i]? = some l → l.isO → (some (V.ref x) :: L2.start N vs)[i]?.join = some (.ref a) → a = x := fun i l a h o h3 => by
    cases only i l h o
    have h3 : some (V.ref x) = some (V.ref a) := h3
    cases h3
    rfl
  refine ⟨⟨by rw [List.length_cons, List.length_cons, S.e.ln], fun a h => ?_, fun i l h => ?_, ht⟩, Xt.refl, hp, fun i l a h o h3 => .inr (at0 i l a h o h3), fun i xs a h => ?_, fun i j l l' a hn h1 h2 h3 h4 => ?_⟩
  · rcases h with h | ⟨i, l, h1, h2, h3⟩
    · exact hp a h
    · rw [at0 i l a h1 h2 h3]; exact hp x px
  · cases i with
    | zero =>
      cases h
      exact ⟨C, dx, [], rfl, .inl px, hC, hx, rfl, rfl⟩
    | succ i =>
      have z := S.e.sl i l h
      refine SlotOk.less z (fun a ha => ?_) fun o => absurd o (startE_no i l h)
      rcases ha with ha | ⟨j, l', h1, h2, h3⟩
      · exact .inl ha
      · rw [at0 j l' a h1 h2 h3]; exact .inl px
  · cases only i _ h trivial
    cases h
  · exact absurd ((only i l h1 h2).trans (only j l' h3 h4).symm) hn
section
variable {P : Program} {w : World} {K : PySem.W.Frag} {mg : Str → Option Value} {base : Heap}
/-- the class cn is made of n values (itself among them) -/
structure DfI (P : Program) (w : World) (K : PySem.W.Frag) (mg : Str → Option Value) (base : Heap) (lv : Nat) (cn : Str) (n : Nat) (G : Fi) : Prop where
  ex : ∃ C fa fd ps, FnOk P w K mg base (L2.CX P w) lv fa fd ps (spI K mg cn n G) ∧ mg cn = some (.ref C) ∧ Mk K C fa ∧ L2.Binds K fd ps []
theorem dfi_mk {x cn qual n0 : Str} {st : Stmt} {fa C : Addr} {fd : FuncData} {N ps : List Str} {k n : Nat} {g : Sg} {G : Fi} (F : FunD K x qual (defArgs st) (defBody st) (defScope st) [] [] fa fd) (S : FnScope (n0 :: N) ps (defScope st)) (hC : mg cn = some (.ref C)) (M : Mk K C fa)
    (hb : ∀ (kV doc pm : Value) (an : Option Addr) (cdv ct : Value) (us : List Value), us.length = ps.length → bindArgs (PySem.W.fnOf x qual (defArgs st) (defBody st) (defScope st) .none kV doc pm an cdv ct) ⟨us, []⟩ = pure (ps.zip us))
    (hbody : ∀ (cdv : Value) (A : Around) (outer : List Env) (s : Shared) (H : Hp) (E : XK), Room k (A.deeper (envOfC qual (defScope st) s.heap.objs.size fa cdv)) → Takes (cxOf (L2.CX P w) P w K mg base (n0 :: N) qual (defScope st) fa cdv A outer s H E) (wE E) →
      SDs (cxOf (L2.CX P w) P w K mg base (n0 :: N) qual (defScope st) fa cdv A outer s H E) (wE E) (defBody st) g) (hn : n = ps.length := by rfl) (hG : G = initF cn (n0 :: N).length g := by rfl) : DfI P w K mg base (k + 1) cn n G := by
  subst hn hG
  refine ⟨C, fa, fd, ps, F.ok S (fun vs H Q E ⟨_, _, _, _, _, _, e, hn, _, _, _, _, _, r, _⟩ => by rw [e, List.length_cons, ← r.length]; exact hn) (fun cdv A outer s H vs Q E hr h => ?_), hC, M, F.bindsN hb⟩
  obtain ⟨P', xa, C', dx, rest, ds, rfl, hl, h1, h2, h3, h4, h5, h6, q⟩ := h
  rw [hC] at h1
  cases h1
  refine ⟨_, hbody cdv A outer s H E hr (takes_of rfl rfl rfl rfl) ⟨H, P', fun b => b = xa⟩, _, sok_startI hC h2 h3 h4 h5 h6, ?_⟩
  unfold initF at q
  rw [show (n0 :: N).length - 1 = N.length from rfl] at q
  cases hg : g (.i xa cn [] [] :: startE N.length ds) with
  | bad => rw [hg] at q; exact q
  | ex ce =>
    obtain ⟨c, ε⟩ := ce
    rw [hg] at q
    obtain ⟨C2, q1, q2⟩ := q
    exact ⟨C2, q1, fun σ H' S' => q2 H' S'.x⟩
  | ok re =>
    rw [hg] at q
    cases re with
    | nx ε =>
      intro σ H' S'
      have q : IOut K mg P' H xa C Q E (match ε[0]? with
        | some (Lc.i a c ks xs) => if a = xa ∧ c = cn then .ok (ks, xs) else .bad
        | _ => .bad) := q
      cases hs : ε[0]? with
      | none => rw [hs] at q; exact q.elim
      | some l =>
        rw [hs] at q
        cases l with
        | i a c ks xs =>
          have q9 : IOut K mg P' H xa C Q E (if a = xa ∧ c = cn then .ok (ks, xs) else .bad) := q
          clear q
          by_cases z : a = xa ∧ c = cn
          · rw [if_pos z] at q9
            obtain ⟨rfl, rfl⟩ := z
            obtain ⟨C2, dx', vs', g1, g2, g3, g4, g5, g6⟩ := S'.e.sl 0 _ hs
            have g3 : mg c = some (.ref C2) := g3
            rw [hC] at g3
            cases g3
            exact q9 H' dx' vs' S'.x g4 g5 (Reps.tr (Tr.less fun b z => .inl z) _ _ g6)
          · rw [if_neg z] at q9
            exact q9.elim
        | _ => exact q.elim
    | rt d => exact q.elim
    | ro xs => exact q.elim
    | bk ε => exact q.elim
    | ct ε => exact q.elim
end
open Classical in
/-- what does not depend on where the instance stands -/
noncomputable def oneX {ε α : Type} (h : Addr → Rz ε α) : Rz ε α := if z : ∃ r, ∀ x, h x = r then Classical.choose z else .bad
theorem oneX_eq {ε α : Type} {h : Addr → Rz ε α} {r : Rz ε α} (k : ∀ x, h x = r) : oneX h = r := by
  have z : ∃ r, ∀ x, h x = r := ⟨r, k⟩
  unfold oneX
  rw [dif_pos z, ← Classical.choose_spec z 0, k]
theorem oneX_at {ε α : Type} {h : Addr → Rz ε α} (hn : oneX h ≠ .bad) (x : Addr) : oneX h = h x := by
  by_cases z : ∃ r, ∀ x, h x = r
  · unfold oneX
    rw [dif_pos z]
    exact (Classical.choose_spec z x).symm
  · exact absurd (by unfold oneX; rw [dif_neg z]) hn
noncomputable def makeF (cn : Str) (n : Nat) (G : Fi) (fs : Fs) : Fn := fun ε => (fs ε).bind fun ds => if ds.length + 1 = n then (oneX fun x => G x ds).bind fun r => .ok (.ins cn r.1 r.2) else .bad
section
variable {X : Cx} {W : WX} {e : Expr} {es : List Expr} {fs : Fs} {p pos : Pos} {k j n : Nat} {cn : Str} {G : Fi}
/-- an instance is made: its own class's def is run on it -/
theorem run_makeS {C f : Addr} {lv : Nat} {fd : FuncData} {ps : List Str} {sp : Sp} {E : XK} {pins : List (Addr × Obj)} {σ : L2.St} {H : Hp} {s : Shared} {Q : VK} {us : List Value} {vs : List V} (M : Mk X.K C f) (F : FnOk X.prog X.w X.K X.mg X.base (L2.CX X.prog X.w) lv f fd ps sp)
    (hr : Room (lv + 1) X.A) (hb : L2.Binds X.K fd ps []) (hx : PassesAt (L2.CX X.prog X.w) X σ E) (I : Inv X pins σ H s) (r : Vals vs us)
    (h : ∀ x dx, H x = none → H dx = none → dx ≠ x → sp (.ref x :: vs) (upd (upd H dx (.own x)) x (.ins C dx [])) (fun v H2 => v = .non ∧ Q (.ref x) H2) E) : wpAny (model X.prog X.w) X.A (call (.ref C) us) (EP X pins σ Q) X.xe s := by
  have sp1 := h (s.heap.objs.size + 1) s.heap.objs.size (I.hok.fresh (Nat.le_succ _)) (I.hok.fresh (Nat.le_refl _)) (Nat.ne_of_lt (Nat.lt_succ_self _))
  have J := Inv.made (C := C) I
  have rv : Vals (V.ref (s.heap.objs.size + 1) :: vs) (Value.ref (s.heap.objs.size + 1) :: us) := .cons rfl r
  have hl : (Value.ref (s.heap.objs.size + 1) :: us ++ []).length = ps.length := by
    rw [List.append_nil, ← rv.length, F.len _ _ _ _ sp1]
  have b := hb _ (Value.ref (s.heap.objs.size + 1) :: us) J.kIn hl
  rw [List.append_nil] at b
  have rc := F.run _ X.stack _ _ ⟨Value.ref (s.heap.objs.size + 1) :: us, []⟩ (Value.ref (s.heap.objs.size + 1) :: us) _ _ E (hr.make C us []) (J.env0.make C us []) b rv sp1
  refine wpAny_call (make_map (f := f) I.kIn M.makes M.init (beq_iff_eq.mp M.fn) (codeAny_mono rc fun res s2 hq => ?_))
  cases res with
  | error er => exact hx pins _ _ er s2 J hq
  | ok fl =>
    cases fl with
    | ret u =>
      obtain ⟨v, H', J2, rv2, rfl, q3⟩ := J.after hq
      exact ⟨rv2, V.ref (s.heap.objs.size + 1), H', J2, rfl, q3⟩
    | _ => exact False.elim hq
theorem dMake (Fk : DfI X.prog X.w X.K X.mg X.base j cn n G) (hr : Room k X.A) (hj : j + 1 ≤ k) (tk : Takes X W) (ha : AD X W (e :: es) fs) (hg : Gl X cn := by rfl) (hdb : (cn == ("__debug__" : Str)) = false := by decide)
    (he : starEach (e :: es) X.env = (false, eval e X.env) :: starEach es X.env := by rfl) (hpl : (backTo pos (starEach es X.env)).any (·.1) = false := by rfl) : PD X W (.Call (.Name cn p) (e :: es) [] pos) (makeF cn n G fs) := by
  obtain ⟨C, fa, fd, ps, F, hC, M, hb⟩ := Fk.ex
  refine ⟨fun pins s σ H Q I ⟨P, ε, E, q⟩ => ?_⟩
  refine wpAny_Call_Name_kw (ld_glob I hg hC ?_ hdb)
  refine PySem.W.callWith_K (h₀ := X.base) I.ok.mod.kin M.kp (thn (ha.run pos pins s σ H (fun vs H1 => ∃ ds, Ext H H1 ∧ Reps X.K X.mg H1 P ds vs ∧ Out X W σ H (if ds.length + 1 = n then (oneX fun x => G x ds).bind fun r => .ok (.ins cn r.1 r.2) else .bad) fun d => ∀ v H', Ext H H' → Rep X.K X.mg H' P d v → Q v H') I
    ⟨P, ε, E, q.bind.mono fun ds q vs H1 e1 r => ⟨ds, e1, r, q⟩⟩) fun us s1 ⟨vs, H1, I1, r, ds, e1, rs, q⟩ => ⟨I1.kIn, ?_⟩) he hpl
  refine run_makeS M F (hr.mono hj) hb (passAt tk σ) I1 r fun x dx hx hdx hne => ?_
  have x1 : Ext H1 (upd H1 dx (.own x)) := Ext.new hdx
  have hx1 : upd H1 dx (.own x) x = none := by rw [upd_ne (fun z => hne z.symm)]; exact hx
  have x2 : Ext H1 (upd (upd H1 dx (.own x)) x (.ins C dx [])) := x1.trans (Ext.new hx1)
  have E1 := E.ext e1
  have nx : ¬ P x := E1.ne (.of hx)
  have E2 := E1.ext x2
  by_cases z : ds.length + 1 = n
  · rw [if_pos z] at q
    refine ⟨more P x, x, C, dx, vs, ds, rfl, z, hC, upd_same, .inr rfl, fun a ha => ?_, E2.tb, (Reps.tr (Tr.more (.of hx)) _ _ rs).ext x2, ?_⟩
    · rcases ha with ha | ha
      · exact E2.tk a ha
      · rw [ha]; exact ⟨_, upd_same, nt_ins⟩
    · have e3 : Ext H (upd (upd H1 dx (.own x)) x (.ins C dx [])) := e1.trans x2
      have hxH : Fresh H x := Ext.fresh e1 (.of hx)
      have out : ∀ {H'}, Xt (fun b => b = x) (upd (upd H1 dx (.own x)) x (.ins C dx [])) H' → Ext H H' := fun {H'} y => Xt.join e3 y fun c u hc ht _ e => hxH.ne hc ht e
      have ho := oneX_at (h := fun x => G x ds) (fun y => by rw [y] at q; exact q) x
      rw [ho] at q
      cases hg : G x ds with
      | bad => rw [hg] at q; exact q
      | ex c =>
        rw [hg] at q
        obtain ⟨C', q1, q2⟩ := q
        exact ⟨C', q1, fun H' y => q2 H' (out y)⟩
      | ok rr =>
        rw [hg] at q
        exact fun H' dx' vs' y h1 h2 h3 => ⟨rfl, q (.ref x) H' (out y) ⟨x, C, dx', vs', rfl, hC, h1, nx, h2, Reps.tr (Tr.less fun b hb => .inl hb) _ _ h3⟩⟩
  · rw [if_neg z] at q
    exact q.elim
end
end DL
end
section
set_option Elab.async false
set_option linter.all false
set_option maxRecDepth 100000
set_option maxHeartbeats 800000
set_option autoImplicit false
namespace DL
open PySem PySem.Spec PyProof.Rows L2
variable [TbC]
/-! ### what is read without a change of the heap -/
/-- e reads f: nothing is written -/
def addI : O2
  | .int i, .int j => some (.int (i + j))
  | _, _ => none
/-- e reads f: nothing is written -/
def RV (Z : Cx) (e : Expr) (f : Fn) : Prop := ∀ (P : Pv) (ε : Ev) (σ : L2.St) (H : Hp) (s : Shared) (d : Dt) (Q : Value → Shared → Prop) (E : Value → Shared → Prop), Inv Z [] σ H s → EOk Z.K Z.mg P σ H ε → f ε = .ok d →
  (∀ u v tk, RelV v u → Rep Z.K Z.mg H P d v → Q u { s with toks := tk }) → wpAny (model Z.prog Z.w) Z.A (eval e Z.env) Q E s
section
variable {Z : Cx} {e a b : Expr} {f g : Fn} {pos : Pos}
theorem rv_var (i : Nat) {x : Str} (hN : Z.N[i]? = some x := by rfl) (hv : Vis Z.env.scope x := by first | exact Or.inl rfl | exact Or.inr (Or.inl rfl) | exact Or.inr (Or.inr rfl)) (hd : (x == ("__debug__" : Str)) = false := by decide) (hcd : (x == ("__classdict__" : Str)) = false := by decide) : RV Z (.Name x pos) (gv i) := by
  intro P ε σ H s d Q E I EO he h
  unfold gv at he
  cases hy : ε[i]? with
  | none => rw [hy] at he; cases he
  | some l =>
    rw [hy] at he
    cases l with
    | d d' =>
      cases he
      obtain ⟨v, h1, h2⟩ := EO.sl i _ hy
      obtain ⟨m, hn, hl⟩ := I.loc
      obtain ⟨u, r, lk⟩ := hl i x v hN (slot_some h1) hv
      have fin : Q u s := h u v s.toks r h2
      rcases lk with ⟨hk, hm⟩ | ⟨hk, c, hc, hcell⟩
      · exact wpAny_Name (wpAny_loadName_local I.ok.kind hk hn hm fin) hd
      · rcases hk with hk | hk
        · exact wpAny_Name (wpAny_loadName_cell I.ok.kind hk hc hcell fin) hd
        · exact wpAny_Name (wpAny_loadName_free I.ok.kind hk hc hcell fin hcd) hd
    | _ => cases he
theorem rv_int {i : Int} {j : Nat} : RV Z (.Constant (.int i) j pos) (kc (.int i)) := fun P ε σ H s d Q E I EO he h => by
  cases he
  exact wpAny_Constant_int (h _ (.int i) _ ⟨_, rfl⟩ rfl)
theorem bin_ok {o : O2} {ε : Ev} {d : Dt} (h : bin o f g ε = .ok d) : ∃ x y, f ε = .ok x ∧ g ε = .ok y ∧ o x y = some d := by
  unfold bin at h
  cases h1 : f ε with
  | ok x =>
    rw [h1, Rz.bind_ok] at h
    cases h2 : g ε with
    | ok y =>
      rw [h2, Rz.bind_ok] at h
      cases h3 : o x y with
      | some z => rw [h3] at h; cases h; exact ⟨x, y, rfl, rfl, h3⟩
      | none => rw [h3] at h; cases h
    | ex c => rw [h2] at h; cases h
    | bad => rw [h2] at h; cases h
  | ex c => rw [h1] at h; cases h
  | bad => rw [h1] at h; cases h
theorem rv_add (ha : RV Z a f) (hb : RV Z b g) : RV Z (.BinOp a .Add b pos) (bin addI f g) := fun P ε σ H s d Q E I EO he h => by
  obtain ⟨x, y, h1, h2, h3⟩ := bin_ok he
  refine wpAny_BinOp (ha P ε σ H s x _ E I EO h1 fun u v tk r1 r2 => hb P ε σ H _ y _ E (I.tok tk) EO h2 fun u' v' tk' r3 r4 => ?_)
  unfold addI at h3
  split at h3
  · cases h3
    rw [show v = V.int _ from r2] at r1
    rw [show v' = V.int _ from r4] at r3
    obtain ⟨t, rfl⟩ := r1
    obtain ⟨t', rfl⟩ := r3
    exact add_int (h _ (.int _) _ ⟨_, rfl⟩ rfl)
  · cases h3
end
def seqAt (x : Dt) (i : Int) : Option Dt := match x with
  | .lst xs => atI xs i
  | .tup xs => atI xs i
  | _ => none
def ixP : O2 := fun x y => match y with
  | .int i => if 0 ≤ i then seqAt x i else none
  | _ => none
section
variable {Z : Cx} {e a b : Expr} {f g : Fn} {pos : Pos}
theorem rv_ix (ha : RV Z a f) (hb : RV Z b g) (hs : PlainIx b := by first | exact fun _ _ => rfl | (intro _ _; rfl)) : RV Z (.Subscript a b pos) (bin ixP f g) := fun P ε σ H s d Q E I EO he h => by
  obtain ⟨x, y, h1, h2, h3⟩ := bin_ok he
  refine Subscript_ (ha P ε σ H s x _ E I EO h1 fun u v tk r1 r2 => hb P ε σ H _ y _ E (I.tok tk) EO h2 fun u' v' tk' r3 r4 => ?_)
  have J : Inv Z [] σ H { s with toks := tk' } := I.tok tk'
  unfold ixP at h3
  cases y with
  | int i =>
    by_cases h0 : 0 ≤ i
    · have h3 : seqAt x i = some d := by
        have z := h3
        simp only [if_pos h0] at z
        exact z
      rw [show v' = V.int i from r4] at r3
      obtain ⟨t, rfl⟩ := r3
      have n63 := line63
      cases x with
      | lst xs =>
        obtain ⟨p, vs, rfl, g1, _, rs⟩ := r2
        cases (show u = Value.ref p from r1)
        obtain ⟨w, e1, rw1⟩ := atI_rep rs h3
        obtain ⟨j, k1, k2, k3, k4, k5⟩ := atI_get e1
        obtain ⟨its, rr, pl, hz⟩ := J.list (.inl (.inl g1))
        obtain ⟨uw, ew, ruw⟩ := rr.get k2
        have hj : i.toNat = j := by
          rw [seqIndex_of h0 k5] at k1
          exact Option.some.inj k1
        have hl := rr.length
        exact item_listR pl.isList h0 (by omega) (by rw [hj]; simpa using ew) (h uw w tk' ruw rw1) (hs _ _)
      | tup xs =>
        obtain ⟨p, vs, rfl, g1, rs⟩ := r2
        cases (show u = Value.ref p from r1)
        obtain ⟨w, e1, rw1⟩ := atI_rep rs h3
        obtain ⟨j, k1, k2, k3, k4, k5⟩ := atI_get e1
        obtain ⟨its, rr, pl, hz⟩ := J.tuple g1
        obtain ⟨uw, ew, ruw⟩ := rr.get k2
        have hl := rr.length
        exact subscriptTail_builtinR (x := uw) pl.typeIs slot_tuple_getitem.lookup
          (getItem_tuple (j := j) (Q := fun r s' => r = uw ∧ Q r s') pl (by omega) (by omega) (by rw [List.size_toArray, ← hl]; exact k1) (by simpa using ew) ⟨rfl, h uw w tk' ruw rw1⟩) (hs _ _)
      | _ => cases h3
    · have z := h3
      simp only [if_neg h0] at z
      cases z
  | _ => cases h3
/-- e is a pair of whole numbers: it alone is laid -/
def RK (Z : Cx) (e : Expr) (f : Fn) : Prop := ∀ (P : Pv) (ε : Ev) (σ : L2.St) (H : Hp) (s : Shared) (i j : Int) (Q : Value → Shared → Prop) (E : Value → Shared → Prop), Inv Z [] σ H s → EOk Z.K Z.mg P σ H ε → f ε = .ok (.tup [.int i, .int j]) →
  (∀ u h' tk, (∀ b o, s.heap.get? b = some o → h'.get? b = some o) → Reads h' u (.tuple [.int i, .int j]) [] → Q u { s with heap := h', toks := tk }) → wpAny (model Z.prog Z.w) Z.A (eval e Z.env) Q E s
theorem pair_ok {ε : Ev} {i j : Int} (h : tupF (consF f (consF g nilF)) ε = .ok (.tup [.int i, .int j])) : f ε = .ok (.int i) ∧ g ε = .ok (.int j) := by
  unfold tupF consF nilF at h
  cases h1 : f ε with
  | ok x =>
    rw [h1, Rz.bind_ok] at h
    cases h2 : g ε with
    | ok y =>
      rw [h2] at h
      have h : (if [x, y].length ≤ sizeLine then (Rz.ok (Dt.tup [x, y]) : Rz Str Dt) else .bad) = .ok (.tup [.int i, .int j]) := h
      split at h
      · cases h; exact ⟨rfl, rfl⟩
      · cases h
    | ex c => rw [h2] at h; cases h
    | bad => rw [h2] at h; cases h
  | ex c => rw [h1] at h; cases h
  | bad => rw [h1] at h; cases h
theorem rk_tup {k : Nat} (ha : RV Z a f) (hb : RV Z b g) (h1 : starEach [a, b] Z.env = (false, eval a Z.env) :: starEach [b] Z.env := by rfl) (h2 : starEach [b] Z.env = (false, eval b Z.env) :: starEach [] Z.env := by rfl) : RK Z (.Tuple [a, b] k pos) (tupF (consF f (consF g nilF))) := fun P ε σ H s i j Q E I EO he h => by
  obtain ⟨e1, e2⟩ := pair_ok he
  refine wpAny_Tuple_spliced ?_
  rw [h1]
  show wpAny _ _ (spliced ((false, eval a Z.env) :: backTo pos (starEach [b] Z.env))) _ _ s
  refine Calls.spliced_cons (ha P ε σ H s _ _ E I EO e1 fun u v tk r1 r2 => ?_)
  rw [h2]
  show wpAny _ _ (spliced ((false, eval b Z.env) :: backTo pos (starEach [] Z.env))) _ _ _
  refine Calls.spliced_cons (hb P ε σ H _ _ _ E (I.tok tk) EO e2 fun u' v' tk' r3 r4 => ?_)
  refine Calls.spliced_nil ⟨by rw [sizeLine_eq]; show 2 ≤ _; omega, ?_⟩
  rw [show v = V.int i from r2] at r1
  rw [show v' = V.int j from r4] at r3
  obtain ⟨t, rfl⟩ := r1
  obtain ⟨t', rfl⟩ := r3
  refine h _ _ tk' (fun b o eo => Heap.get?_push_of_some _ eo) ?_
  exact .tuple (as := [] ++ ([] ++ [])) (Heap.get?_push_size _ rfl) rfl rfl (.cons (.int _ _) (.cons (.int _ _) .nil))
end
/-! ### sorted by a key -/
def lexLe (k : Int → Int × Int) : Int → Int → Bool := fun p q => decide ((k p).1 < (k q).1 ∨ ((k p).1 = (k q).1 ∧ (k p).2 ≤ (k q).2))
def keyOf (it : Nat) (kb : Fn) (ε : Ev) (n : Int) : Option (Int × Int) := match kb ((lamE ε).set it (.d (.int n))) with
  | .ok (.tup [.int a, .int b]) => some (a, b)
  | _ => none
def sortF (it : Nat) (f kb : Fn) : Fs := fun ε => (f ε).bind fun d => match d with
  | .lst ds => match asI ds with
    | some ns => if ns.all (fun n => (keyOf it kb ε n).isSome) = true then .ok ((ns.mergeSort (lexLe fun n => (keyOf it kb ε n).getD (0, 0))).map .int) else .bad
    | none => .bad
  | _ => .bad
theorem each_vals : ∀ {ns : List Int} {us : List Value}, PySem.W.EachIs (fun u n => RelV (.int n) u) us ns → Vals (ns.map V.int) us
  | _, _, .nil => .nil
  | _, _, .cons h t => .cons h (each_vals t)
theorem vals_each : ∀ {ns : List Int} {us : List Value}, Vals (ns.map V.int) us → PySem.W.EachIs (fun u n => RelV (.int n) u) us ns
  | [], _, .nil => .nil
  | _ :: _, _, .cons h t => .cons h (vals_each t)
theorem Rz.ok_of {ε α : Type} {r : Rz ε α} {a : α} (h : r = .ok a) : r = .ok a := h
section
variable {X : Cx} {W : WX}
theorem nSortK {tn : Str} {c P : Addr} {k it : Nat} {params : Arguments} {scope : Scope} {body e : Expr} {p lpos kpos pos : Pos} {f kb : Fn} (hm : X.mg "sorted" = none)
    (TB : LamX.TabB X.base X.mg c P) (hcode : X.env.code = .ref c) {q0 : Str} (hq : X.env.qual = q0) (hmT : (P, q0 ++ "<lambda>") ∈ TbC.T) (hu : ∀ p ∈ TbC.T, p.1 = P → p.2 = q0 ++ "<lambda>") (hr : Room k X.A)
    (L : LamP X.env.scope scope tn) (hNd : X.N.Nodup) (hit : X.N[it]? = some tn)
    (hbind : ∀ (q : Str) (cl : List (Str × Addr)) (pm cv ctv u : Value), bindArgs (PySem.W.kla_fn "<lambda>" q params body scope cl pm cv ctv) ⟨[u], []⟩ = pure [(tn, u)])
    (ha : PB X W e f) (hkey : ∀ (A : Around) (outer : List Env) (s : Shared) (H : Hp) (E : XK) (g c' : Addr), RK (LamX.lamCx X A outer s H E scope g c') body kb)
    (hdef : defaultsOf params X.env = ([], []) := by rfl) (hg : Gl X "sorted" := by rfl)
    (he : backTo pos (starEach (e :: []) X.env) = (false, eval e X.env) :: backTo pos (starEach [] X.env) := by rfl) (hpl : (backTo pos (starEach (e :: []) X.env)).any (·.1) = false := by rfl)
    (hs1 : starEach [e] X.env = (false, eval e X.env) :: starEach [] X.env := by rfl)
    (hkw : backToKw pos (keywordEach [⟨some ("key" : Str), .Lambda params body scope lpos, kpos⟩] X.env) = [(some ("key" : Str), do let v ← eval (.Lambda params body scope lpos) X.env; standAt pos; pure v)] := by rfl) :
    PN X W (.Call (.Name "sorted" p) [e] [⟨some ("key" : Str), .Lambda params body scope lpos, kpos⟩] pos) (sortF it f kb) := by
  subst hq
  refine ⟨fun pins s σ H Q I ⟨Pv, ε, E, q⟩ => ?_⟩
  refine wpAny_Call_Name_kw (ld_blt I hg hm (u := .builtin "sorted") (by decide +kernel) ?_ (by decide) (by decide))
  refine PyProof.Rows.callWith_kw ?_ he hpl (by rw [hkw]; rfl) (by rw [hkw]; rfl)
  rw [hkw, hs1]
  show wpAny _ _ (spliced ((false, eval e X.env) :: backTo pos (starEach [] X.env))) _ _ s
  refine Calls.spliced_cons (thn (ha.run pins s σ H (fun v H1 => ∃ (l : Addr) (ns : List Int), v = .ref l ∧ Ext H H1 ∧ H1 l = some (.lst (ns.map V.int)) ∧ Out X W σ H (if ns.all (fun n => (keyOf it kb ε n).isSome) = true then (.ok ((ns.mergeSort (lexLe fun n => (keyOf it kb ε n).getD (0, 0))).map .int) : Rz Str (List Dt)) else .bad) fun ds => ∀ p vs H', Ext H H' → Fresh H p → H' p = some (.lst vs) → Reps X.K X.mg H' (more Pv p) ds vs → Q (.ref p) H') I ⟨Pv, ε, E, ?_⟩) fun u s1 ⟨v, H1, I1, ru, l, ns, ev, e1, hl, q⟩ => ?_)
  · unfold sortF at q
    refine q.bind.mono fun dx q x H1 e1 r1 => ?_
    cases dx with
    | lst ds =>
      cases hi : asI ds with
      | none => simp only [hi] at q; exact q.elim
      | some ns =>
        simp only [hi] at q
        rw [ints_some hi] at r1
        obtain ⟨a, vs, rfl, h3, h4⟩ := r1
        rw [h4.ints] at h3
        exact ⟨a, ns, rfl, e1, h3, q⟩
    | _ => exact q.elim
  subst ev
  cases (show u = Value.ref l from ru)
  have E1 := E.ext e1
  by_cases hall : ns.all (fun n => (keyOf it kb ε n).isSome) = true
  · rw [if_pos hall] at q
    refine Calls.spliced_nil ?_
    show wpAny _ _ (evalAll [do let v ← eval (.Lambda params body scope lpos) X.env; standAt pos; pure v]) _ _ s1
    refine wpAny_evalAll_cons (wpAny_bind (LamX.lam_make2 I1 TB hcode hmT hu E1.tb hdef (L.has I1.ok) fun g c' pm' ctv H2 s2 I2 eN T2 hf hfn hfr hco => wpAny_bind (wpAny_standAt (wpAny_pure (wpAny_evalAll_nil ?_)))))
    have e2 : Ext H1 H2 := ext_of eN T2
    have E2 := E1.ext e2
    have hl2 : H2 l = some (.lst (ns.map V.int)) := e2.at_ hl nt_lst
    obtain ⟨its, rv, pl, hz⟩ := I2.list (.inl (.inl hl2))
    have hz' : ns.length ≤ sizeLine := by rw [List.length_map] at hz; exact hz
    show wpAny _ _ (call (.builtin "sorted") [.ref l] [(("key" : Str), .ref g)]) _ _ s2
    let kk : Int → PyData := fun n => .tuple [.int ((keyOf it kb ε n).getD (0, 0)).1, .int ((keyOf it kb ε n).getD (0, 0)).2]
    refine PySem.W.sorted_key_data (b := false) kk pl.isList (vals_each rv) (PySem.W.AllAlike.of fun _ _ => by simp [PySem.W.alike, PySem.W.alikeAll, kk]) (PySem.W.Sortable.tuples fun _ => ⟨_, _, rfl⟩) hz' (fun n _ => ?_) (ksk_s1 _ _) (fun _ => ksk_l1 _ _) (fun _ => ksk_t1 _ _)
      (fun v n rvn hn h tk kept => ?_) fun out c h' tk kept fresh hD hlen eo => ?_
    · have hd : (kk n).depth = 1 := by simp [kk, PyData.depth, PyData.depthAll]
      have := hr.un
      rw [hd]
      omega
    · -- a key is asked
      have J2 : Inv X pins σ H2 { s2 with heap := h, toks := tk } := I2.kept (t' := tk) kept
      have of1 := kept _ _ hf
      have key : ∃ i j, kb ((lamE ε).set it (.d (.int n))) = .ok (.tup [.int i, .int j]) ∧ kk n = .tuple [.int i, .int j] := by
        have z := List.all_eq_true.mp hall n hn
        cases hk : keyOf it kb ε n with
        | none => rw [hk] at z; cases z
        | some ij =>
          refine ⟨ij.1, ij.2, ?_, by simp only [kk, hk]; rfl⟩
          unfold keyOf at hk
          split at hk
          · rename_i a b hk2
            cases hk
            exact hk2
          · cases hk
      obtain ⟨i, j, hkb, hkk⟩ := key
      obtain ⟨⟨oc, ws, t, hoc, hdc, hvc⟩, _, _⟩ := J2.hok c' _ hco
      have e0 := J2.env0
      have e0' : Env0 X.prog X.w X.K X.mg X.base X.A.in1.in1 X.stack { s2 with heap := h, toks := tk } H2 := ⟨e0.frames, e0.mod, e0.bs, e0.bsz, e0.funs, e0.frf, e0.hok, e0.bare⟩
      have hdp : X.A.in1.in1.depth < recursionLimit := by have := hr.dp; show X.A.depth < _; omega
      have rc : codeAny (model X.prog X.w) X.A.in1.in1 (.call (.ref g) ⟨[v], []⟩) (fun r s' => match r with
          | .ok (.ret u) => PySem.W.KeyPure (kk n) { s2 with heap := h, toks := tk } u s'
          | _ => False) { s2 with heap := h, toks := tk } := by
        refine PySem.W.kla_callFunE hdp of1 rfl L.co L.gen rfl ⟨c', oc, ws, t, rfl, hoc, hdc, hvc⟩ ?_
        rw [hbind _ _ _ _ _ v]
        refine wpAny_pure (wpAny_newFunctionEnv (fun y hy => (L.own y hy).1) (fun y hy => ?_) (fun h₁ hns hsb => ⟨J2.nolimit.fresh _ hsb, (?_ : codeAny _ _ (.expr body (LamX.lamEnv X scope h.objs.size g c')) _ _)⟩) L.kind)
        · rw [List.mem_singleton.mp hy]
          exact L.par
        · have kp1 : ∀ b o, h.get? b = some o → h₁.get? b = some o := fun b o z => hsb.extBut b o (Nat.ne_of_lt (Heap.lt_size z)) (Heap.get?_push_of_some _ z)
          have J := lamP_start (tk := tk + ([(tn, v)] : List (Str × Value)).length) (E := C8.E0) (f := g) (c' := c') (v := .int n) J2 L hNd hit rvn e0' hr.hd (Un.kept fun _ _ z => z) hns kp1
          have EL := E2.lam (it := it) (d := .int n) (v := .int n) E2.tk E2.tb E2.caps rfl
          refine PySem.W.kla_codeExpr (hkey _ _ _ _ _ g c' Pv _ _ H2 _ i j _ _ J EL hkb fun u h3 tk3 kp3 rd => ?_)
          exact ⟨h3, tk3, rfl, fun b o z => kp3 b o (kp1 b o z), by rw [hkk]; exact rd⟩
      refine wpAny_call (codeAny_mono rc fun r s' hq => ?_)
      cases r with
      | error er => exact hq
      | ok fl => cases fl <;> exact hq
    · -- the sorted list
      have hsort : ns.mergeSort (PySem.W.dataLe false kk) = ns.mergeSort (lexLe fun n => (keyOf it kb ε n).getD (0, 0)) := by
        rw [PySem.W.dataLe_ii (β := Int) (fun n => ((keyOf it kb ε n).getD (0, 0)).1) (fun n => ((keyOf it kb ε n).getD (0, 0)).2)]
        rfl
      rw [hsort] at eo
      have hv := each_vals eo
      have fr2 : H2 (s2.heap.objs.size + 1) = none := I2.hok.fresh (Nat.le_succ _)
      have hlz : ((ns.mergeSort (lexLe fun n => (keyOf it kb ε n).getD (0, 0))).map V.int).length ≤ sizeLine := by
        rw [List.length_map, List.length_mergeSort]; exact hz'
      refine ⟨.ref (s2.heap.objs.size + 1), upd H2 (s2.heap.objs.size + 1) (.lst ((ns.mergeSort (lexLe fun n => (keyOf it kb ε n).getD (0, 0))).map V.int)), I2.laid (t' := tk) kept (Nat.le_succ _) ⟨hlz, out, c, hv, hD⟩, rfl, ?_⟩
      have e12 : Ext H H2 := e1.trans e2
      exact q _ _ _ (e12.trans (Ext.new fr2)) (Ext.fresh e12 (.of fr2)) upd_same (Reps.ofInts _)
  · rw [if_neg hall] at q
    exact q.elim
end
end DL
end
section
set_option Elab.async false
set_option linter.all false
set_option maxRecDepth 100000
set_option maxHeartbeats 800000
set_option autoImplicit false
namespace DL
open PySem PySem.Spec PyProof.Rows L2
variable [TbC]
def clsBody : Stmt → List Stmt
  | .ClassDef (body := b) .. => b
  | _ => []
section
variable {X : Cx} {W : WX} {a b e : Expr} {f g : Fn} {pos p : Pos}
/-! ### whether a list is empty, whatever its items -/
def ne0D : O2
  | .lst xs, .lst [] => some (.bl (!xs.isEmpty))
  | _, _ => none
def rNe0 (K : PySem.W.Frag) : R2 := fun x y H Q => ∃ (l m : Addr) (xs : List V), x = .ref l ∧ y = .ref m ∧ SqL K H l xs ∧ SqL K H m [] ∧ Q (.bl (!xs.isEmpty)) H
theorem op_ne0 (hu : X.A.units < cLine) : OpR X (compareOp .NotEq) (rNe0 X.K) := by
  intro pins s σ H x y v u Q I rx ry ⟨l, m, xs, ex, ey, h1, h2, q⟩
  subst ex ey
  cases (show v = Value.ref l from rx)
  cases (show u = Value.ref m from ry)
  obtain ⟨its, r1, p1, z1⟩ := I.list h1
  obtain ⟨its2, r2, p2, z2⟩ := I.list h2
  cases r2
  have fin : EP X pins σ Q (.bool (!xs.isEmpty)) s := ⟨.bl _, H, I, rfl, q⟩
  cases xs with
  | nil =>
    cases r1
    exact SeqAt.RcNeAt.lists (e := fun _ => true) p1.isList p2.isList rfl hu (fun j h _ => absurd h (Nat.not_lt_zero j)) X.prog X.w _ _ fin
  | cons z zs =>
    cases r1 with
    | cons _ _ => exact SeqAt.RcNeAt.lists_lengths p1.isList p2.isList (by simp) hu X.prog X.w _ _ fin
theorem emp_eq {α β : Type} {xs : List α} {ys : List β} (h : xs.length = ys.length) : ys.isEmpty = xs.isEmpty := by
  rw [Bool.eq_iff_iff, List.isEmpty_iff, List.isEmpty_iff, ← List.length_eq_zero_iff, ← List.length_eq_zero_iff, h]
theorem ne0_ok : OpD X (rNe0 X.K) ne0D := fun x y H Q P dx dy d _ r1 r2 he q => by
  unfold ne0D at he
  split at he
  · cases he
    obtain ⟨l, vs, rfl, h1, s1⟩ := r1
    obtain ⟨m, ws, rfl, h2, s2⟩ := r2
    rw [show ws = [] from s2] at h2
    refine ⟨l, m, vs, rfl, rfl, .inl (.inl h1), .inl (.inl h2), q _ H Ext.refl ?_⟩
    show V.bl (!vs.isEmpty) = _
    rw [emp_eq s1.length]
  · cases he
theorem dNe0 {k : Nat} (hr : Room k X.A) (ha : PB X W a f) (hb : PB X W b g) : PD X W (.Compare a [.NotEq] [b] pos) (bin ne0D f g) := pd_cmp (op_ne0 hr.units0) ne0_ok ha hb (nomark _)
theorem tNe0 {k : Nat} (hr : Room k X.A) (ha : PB X W a f) (hb : PB X W b g) : TD X W (.Compare a [.NotEq] [b] pos) (tst (bin ne0D f g)) := td_cmp (op_ne0 hr.units0) ne0_ok ha hb (nomark _)
/-! ### list(range(n)) -/
def lrgD : Dt → Option (List Dt)
  | .int n => if 0 ≤ n ∧ n ≤ 16777216 then some (upTo 0 n.toNat) else none
  | _ => none
theorem nListRg {p2 p3 : Pos} (hml : X.mg "list" = none) (hmr : X.mg "range" = none) (ha : PB X W e f) (hc : X.calm = true := by rfl) (hgl : Gl X "list" := by rfl) (hgr : Gl X "range" := by rfl) (n1 : starEach [e] X.env = (false, eval e X.env) :: starEach [] X.env := by rfl)
    (n2 : starEach [.Call (.Name "range" p2) [e] [] p3] X.env = (false, eval (.Call (.Name "range" p2) [e] [] p3) X.env) :: starEach [] X.env := by rfl) : PN X W (.Call (.Name "list" p) [.Call (.Name "range" p2) [e] [] p3] [] pos) (unN lrgD f) :=
  pe_weak (pe_listRg hc hgl hml (prg_1 hgr hmr ha n1) n2) fun σ H Q ⟨P, ε, E, q⟩ => ⟨P, ε, E, q.bind.mono fun d q v H1 e r => by
    obtain ⟨ds, h1, q⟩ := q.ofO
    cases d with
    | int n =>
      by_cases z : 0 ≤ n ∧ n ≤ 16777216
      · rw [show lrgD (.int n) = some (upTo 0 n.toNat) from if_pos z] at h1
        cases h1
        refine ⟨n, r, RgOk.of_le (by omega) z.2 (by omega) z.1, fun m hm => q m _ _ (e.trans (Ext.new hm)) (Ext.fresh e (.of hm)) upd_same ?_⟩
        have : rgV 0 n = ((List.range n.toNat).map fun i : Nat => (0 + (i : Int))).map V.int := by
          unfold rgV
          rw [List.map_map, Int.sub_zero]
          rfl
        rw [this, show upTo 0 n.toNat = ((List.range n.toNat).map fun i : Nat => (0 + (i : Int))).map Dt.int by unfold upTo; rw [List.map_map]; rfl]
        exact Reps.ofInts _
      · rw [show lrgD (.int n) = none from if_neg z] at h1
        cases h1
    | _ => cases h1⟩
/-! ### [..] * n -/
def repD : Dt → Dt → Option (List Dt)
  | .lst xs, .int k => if -(2 ^ 63) ≤ k ∧ k < 2 ^ 63 ∧ xs.length * k.toNat ≤ sizeLine then some (List.replicate k.toNat xs).flatten else none
  | _, _ => none
theorem Reps.rep {K : PySem.W.Frag} {mg : Mg} {H : Hp} {P : Pv} {ds : List Dt} {vs : List V} (r : Reps K mg H P ds vs) : ∀ n : Nat, Reps K mg H P (List.replicate n ds).flatten (List.replicate n vs).flatten
  | 0 => rfl
  | n + 1 => by
    rw [List.replicate_succ, List.replicate_succ, List.flatten_cons, List.flatten_cons]
    exact r.append (Reps.rep r n)
theorem nRep (ha : PB X W a f) (hb : PB X W b g) : PN X W (.BinOp a .Mult b pos) (binN repD f g) := pe_weak (pe_op op_rep ha hb) fun σ H Q ⟨P, ε, E, q⟩ => by
  refine two_of (T := fun _ P H ds => ∀ p vs H', Ext H H' → Fresh H p → H' p = some (.lst vs) → Reps X.K X.mg H' (more P p) ds vs → Q (.ref p) H') E q fun x y H1 dx dy E1 e r1 r2 q => ?_
  obtain ⟨ds, hd, q⟩ := q.ofO
  unfold repD at hd
  split at hd
  · split at hd
    · rename_i hz
      cases hd
      obtain ⟨l, vs, rfl, h1, s1⟩ := r1
      exact ⟨l, _, vs, rfl, r2, h1, hz.1, hz.2.1, by rw [← s1.length]; exact hz.2.2, fun m hm => q _ _ _ (e.trans (Ext.new hm)) (Ext.fresh e (.of hm)) upd_same (Reps.ext (Ext.new hm) (Reps.tr (Tr.more (.of hm)) _ _ (s1.rep _)))⟩
    · cases hd
  · cases hd
/-! ### xs.extend(ys), x = xs.pop() -/
def extK (ds xs : List Dt) : Option (List Dt) := match xs with
  | [.lst zs] => if ds.length + zs.length ≤ sizeLine then some (ds ++ zs) else none
  | _ => none
def extS (i : Nat) (f : Fn) : Sg := chS i (consF f nilF) extK
theorem sd_extend (i : Nat) {x : Str} {px p2 p3 : Pos} (he : PD X W e f) (hN : X.N[i]? = some x := by rfl) (hv : Vis X.env.scope x := by first | exact Or.inl rfl | exact Or.inr (Or.inl rfl) | exact Or.inr (Or.inr rfl)) (hd : (x == ("__debug__" : Str)) = false := by decide)
    (hcd : (x == ("__classdict__" : Str)) = false := by decide) (hbase : attributeBase (.Name x px) "extend" X.env (eval (.Name x px) X.env) = eval (.Name x px) X.env := by rfl)
    (hfew : ((backTo p3 (starEach (e :: []) X.env)).all (fun x => !x.1) && (backToKw p3 (keywordEach [] X.env)).all (fun x => x.1.isSome) && decide ((e :: ([] : List Expr)).length + ([] : List Keyword).length + (if ([] : List Keyword).isEmpty then 0 else 1) < 30)) = true := by rfl)
    (hline : (p2.endLine == p3.line) = true := by rfl) (hs : starEach (e :: []) X.env = (false, eval e X.env) :: starEach [] X.env := by rfl) (hplain : (backTo p3 (starEach [] X.env)).any (·.1) = false := by rfl)
    (hsw : swapsWith (.Call (.Attribute (.Name x px) "extend" p2) [e] [] p3) none pos.line X.env = pure false := by rfl) :
    SD X W (.Expr (.Call (.Attribute (.Name x px) "extend" p2) [e] [] p3) pos) (extS i f) := fun F =>
  ps_weak (ps_expr (pe_bm PySem.F.plainAttrs_list PySem.F.slot_list_extend PySem.F.type_list_extend mt_extend (pe_var (i := i) hN hv hd hcd) (ad_cons he ad_nil hs) hbase hfew hline hs hplain) hsw) fun D σ H ⟨ε, S, q⟩ =>
    ch_of S q fun a vs ws ds xs es H1 Q h1 r1 r2 hk k => by
      unfold extK at hk
      split at hk
      · rename_i zs
        by_cases hl : ds.length + zs.length ≤ sizeLine
        · rw [if_pos hl] at hk
          cases hk
          obtain ⟨w, rfl, c, us, ew, hc, _, r3⟩ := Reps.sing r2
          exact ⟨a, c, vs, us, rfl, by rw [ew], h1, hc, by rw [← r1.length, ← r3.length]; exact hl, k _ (Reps.append r1 r3) _⟩
        · rw [if_neg hl] at hk; cases hk
      · cases hk
def popVS (i j : Nat) : Sg := fun ε => match ε[i]? with
  | some (.o ds) => match ds[ds.length - 1]? with
    | some d => .ok (.nx ((ε.set i (.o ds.dropLast)).set j (.d d)))
    | none => .bad
  | _ => .bad
theorem sd_popV (i j : Nat) {x y : Str} {px py p2 p3 : Pos} (hNd : X.N.Nodup) (hN : X.N[i]? = some x := by rfl) (hj : X.N[j]? = some y := by rfl) (hy : Loc X.env.scope y := by first | exact Or.inl rfl | exact Or.inr rfl)
    (hv : Vis X.env.scope x := by first | exact Or.inl rfl | exact Or.inr (Or.inl rfl) | exact Or.inr (Or.inr rfl)) (hd : (x == ("__debug__" : Str)) = false := by decide)
    (hcd : (x == ("__classdict__" : Str)) = false := by decide) (hbase : attributeBase (.Name x px) "pop" X.env (eval (.Name x px) X.env) = eval (.Name x px) X.env := by rfl) (hline : (p2.endLine == p3.line) = true := by rfl)
    (hs : swapsWith (.Call (.Attribute (.Name x px) "pop" p2) [] [] p3) (some (.Name y py)) pos.line X.env = pure false := by rfl) (hf : X.fn y = true ∨ X.env.scope.names.lookup y = some .local := by first | exact .inl rfl | exact .inr rfl | assumption) :
    SD X W (.Assign [.Name y py] (.Call (.Attribute (.Name x px) "pop" p2) [] [] p3) pos) (popVS i j) := fun F =>
  ps_weak (ps_set hNd hj hy (pe_bm0 PySem.F.plainAttrs_list PySem.F.slot_list_pop PySem.F.type_list_pop mt_pop (pe_var (i := i) hN hv hd hcd) hbase hline) hs hf) fun D σ H ⟨ε, S, q⟩ => by
    unfold popVS at q
    cases hl : ε[i]? with
    | none => rw [hl] at q; exact q.elim
    | some l =>
      rw [hl] at q
      cases l with
      | o ds =>
        have q9 : SOut X F W D (match ds[ds.length - 1]? with
          | some d => .ok (.nx ((ε.set i (.o ds.dropLast)).set j (.d d)))
          | none => .bad) := q
        clear q
        cases hd : ds[ds.length - 1]? with
        | none => rw [hd] at q9; exact q9.elim
        | some d =>
          rw [hd] at q9
          obtain ⟨c, vs, h1, h2, h3, rr⟩ := S.slotO hl
          obtain ⟨w, k1, k2⟩ := rr.get hd
          refine ⟨.ref c, h1, .inl ⟨rfl, vs, .of h3⟩, c, vs, w, rfl, rfl, h3, by rw [← rr.length]; exact k1, ?_⟩
          obtain ⟨c', q1, q2, hk⟩ := (S.e.sl i _ hl).own trivial
          rw [h2] at q1
          cases q1
          have dl : Reps X.K X.mg H (prv F σ ε) ds.dropLast vs.dropLast := by
            rw [List.dropLast_eq_take, List.dropLast_eq_take, ← rr.length]
            exact rr.take _
          have S2 := S.wr hl h2 dl
          have r2 : Rep X.K X.mg (upd H c (.lst vs.dropLast)) (prv F σ (ε.set i (.o ds.dropLast))) d w := by
            refine Rep.tr (Tr.less fun b hb => ?_) _ _ (Rep.tr (Tr.write q2 hk) _ _ k2)
            refine hb.imp_right fun ⟨k, l, g1, g2, g3⟩ => ?_
            by_cases e : i = k
            · subst e
              exact ⟨i, _, hl, trivial, g3⟩
            · rw [List.getElem?_set_ne e] at g1
              exact ⟨k, l, g1, g2, g3⟩
          exact q9 _ _ (S2.set r2 j)
      | _ => exact q.elim
end
/-! ### a method's promise -/
section
variable {P : Program} {w : World} {K : PySem.W.Frag} {mg : Str → Option Value} {base : Heap}
theorem dfm_mk {x cn qual : Str} {st : Stmt} {fa C : Addr} {fd : FuncData} {N ps : List Str} {k n : Nat} {g : Sg} {G : Fd} (F : FunD K x qual (defArgs st) (defBody st) (defScope st) [] [] fa fd) (S : FnScope N ps (defScope st)) (hC : mg cn = some (.ref C)) (c : Cls K C) (hm : Meth K C x fa)
    (hb : ∀ (kV doc pm : Value) (an : Option Addr) (cdv ct : Value) (us : List Value), us.length = ps.length → bindArgs (PySem.W.fnOf x qual (defArgs st) (defBody st) (defScope st) .none kV doc pm an cdv ct) ⟨us, []⟩ = pure (ps.zip us))
    (hbody : ∀ (cdv : Value) (A : Around) (outer : List Env) (s : Shared) (H : Hp) (E : XK), Room k (A.deeper (envOfC qual (defScope st) s.heap.objs.size fa cdv)) → Takes (cxOf (L2.CX P w) P w K mg base N qual (defScope st) fa cdv A outer s H E) (wE E) →
      SDs (cxOf (L2.CX P w) P w K mg base N qual (defScope st) fa cdv A outer s H E) (wE E) (defBody st) g) (hn : n = ps.length := by rfl) (hG : G = bodyF N.length g := by rfl) : DfM P w K mg base (k + 1) cn x n G := by
  subst hn hG
  exact ⟨C, fa, fd, ps, fnD_ok F S hbody, hC, c, hm, F.bindsN hb⟩
theorem df_bad {x qual : Str} {st : Stmt} {fa : Addr} {fd : FuncData} {N ps : List Str} {k n : Nat} (F : FunD K x qual (defArgs st) (defBody st) (defScope st) [] [] fa fd) (S : FnScope N ps (defScope st)) (hm : mg x = some (.ref fa))
    (hb : ∀ (kV doc pm : Value) (an : Option Addr) (cdv ct : Value) (us : List Value), us.length = ps.length → bindArgs (PySem.W.fnOf x qual (defArgs st) (defBody st) (defScope st) .none kV doc pm an cdv ct) ⟨us, []⟩ = pure (ps.zip us)) (hn : n = ps.length := by rfl) : Df P w K mg base (k + 1) x n fun _ => .bad :=
  df_mk (g := fun _ => .bad) F S hm hb (fun cdv A outer s H E hr tk F => ⟨fun pins s σ H D I ⟨ε, _, q⟩ => q.elim⟩) hn rfl
theorem le_lv {j l n : Nat} (h : j ≤ l) : j ≤ l + n := Nat.le_trans h (Nat.le_add_right _ _)
end
end DL
end
section
set_option Elab.async false
set_option linter.all false
set_option maxRecDepth 100000
set_option maxHeartbeats 800000
set_option autoImplicit false
namespace DL
open PySem PySem.Spec PyProof.Rows L2
variable [TbC]
/-! ### isinstance of an own class, asked of its instances -/
structure InsC (K : PySem.W.Frag) (C : Addr) : Prop where
  cl : Cls K C
  ha : PySem.W.findIn K (.ref C) "__class__" = some (some (.builtin "object.__class__"))
  hn : PySem.W.specialIn K (.builtin "object.__class__") "__get__" = some (some (.builtin "getset_descriptor.__get__"))
  ht : PySem.W.takesIn K (.builtin "object.__class__") = some true
  hm : PySem.W.mroIn K C (.type "object") = some true
  hk : PySem.W.kitOne K (.ref C) (.ref C) = some true
def insX (c : Str) : PySem.W.Frag → Bool := fun K =>
  decide (PySem.W.findIn K (.ref (He.ga K c)) "__class__" = some (some (.builtin "object.__class__"))) && (decide (PySem.W.specialIn K (.builtin "object.__class__") "__get__" = some (some (.builtin "getset_descriptor.__get__"))) &&
  (decide (PySem.W.takesIn K (.builtin "object.__class__") = some true) && (decide (PySem.W.mroIn K (He.ga K c) (.type "object") = some true) && decide (PySem.W.kitOne K (.ref (He.ga K c)) (.ref (He.ga K c)) = some true))))
theorem insX_ok {K : PySem.W.Frag} {c : Str} (h : insX c K = true) (cl : Cls K (He.ga K c)) : InsC K (He.ga K c) := by
  unfold insX at h
  simp only [Bool.and_eq_true, decide_eq_true_eq] at h
  obtain ⟨h1, h2, h3, h4, h5⟩ := h
  exact ⟨cl, h1, h2, h3, h4, h5⟩
/-- an instance of c is one -/
def isoD (c : Str) : Dt → Option Dt
  | .ins c' _ _ => if c' = c then some (.bl true) else none
  | _ => none
section
variable {X : Cx} {W : WX}
theorem dIsO {T : Str} {e : Expr} {f : Fn} {p p2 pos : Pos} (Z : InsC X.K (He.ga X.K T)) (hm : X.mg "isinstance" = none) (hT : X.mg T = some (.ref (He.ga X.K T))) (ha : PB X W e f) (hg : Gl X "isinstance" := by rfl) (hgT : Gl X T := by rfl) (hd : (T == ("__debug__" : Str)) = false := by decide)
    (he : starEach (e :: [.Name T p2]) X.env = (false, eval e X.env) :: starEach [.Name T p2] X.env := by rfl) (he2 : starEach [.Name T p2] X.env = [(false, eval (.Name T p2) X.env)] := by rfl) (hpl : (backTo pos (starEach [.Name T p2] X.env)).any (·.1) = false := by rfl) :
    PD X W (.Call (.Name "isinstance" p) [e, .Name T p2] [] pos) (un (isoD T) f) :=
  pe_weak (pe_callB call_isi hg hm boot_isinstance (pa_cons ha (pa_cons (pe_glob (v := .ref (He.ga X.K T)) hgT hT rfl hd) pa_nil he2) he) (by decide) (by decide) he hpl) fun σ H Q ⟨P, ε, E, q⟩ =>
    ⟨P, ε, E, q.bind.mono fun dx q x H1 e1 r1 => by
      obtain ⟨d, hh, q⟩ := q.ofO
      cases dx with
      | ins c' ks ds =>
        by_cases z : c' = T
        · subst z
          rw [show isoD c' (.ins c' ks ds) = some (.bl true) from if_pos rfl] at hh
          cases hh
          obtain ⟨a, C, dd, vs, rfl, hC, hH, _⟩ := r1
          rw [hT] at hC
          cases hC
          exact ⟨_, .ref (He.ga X.K c'), .ref (He.ga X.K c'), .ref (He.ga X.K c'), true, rfl, .own _, .base (.ins hH Z.cl Z.ha Z.hn Z.ht Z.hm), Z.hk, q _ H1 e1 rfl⟩
        · rw [show isoD T (.ins c' ks ds) = none from if_neg z] at hh
          cases hh
      | _ => cases hh⟩
end
section
variable {X : Cx} {W : WX}
/-! ### x.clear() -/
def clrS (i : Nat) : Sg := chS i nilF fun _ _ => some []
theorem sd_clear (i : Nat) {x : Str} {px p2 p3 pos : Pos} (hN : X.N[i]? = some x := by rfl) (hv : Vis X.env.scope x := by first | exact Or.inl rfl | exact Or.inr (Or.inl rfl) | exact Or.inr (Or.inr rfl)) (hd : (x == ("__debug__" : Str)) = false := by decide)
    (hcd : (x == ("__classdict__" : Str)) = false := by decide) (hbase : attributeBase (.Name x px) "clear" X.env (eval (.Name x px) X.env) = eval (.Name x px) X.env := by rfl) (hline : (p2.endLine == p3.line) = true := by rfl)
    (hsw : swapsWith (.Call (.Attribute (.Name x px) "clear" p2) [] [] p3) none pos.line X.env = pure false := by rfl) :
    SD X W (.Expr (.Call (.Attribute (.Name x px) "clear" p2) [] [] p3) pos) (clrS i) := fun F =>
  ps_weak (ps_expr (pe_bm0 PySem.F.plainAttrs_list PySem.F.slot_list_clear PySem.F.type_list_clear mt_clear (pe_var (i := i) hN hv hd hcd) hbase hline) hsw) fun D σ H ⟨ε, S, q⟩ =>
    ch_of0 S q fun a vs ds es H1 Q h1 r1 hk k => by
      cases hk
      exact ⟨a, vs, rfl, rfl, h1, k [] rfl _⟩
end
/-! ### an own list is lent: read as another's, while an expression is worked out -/
mutual
def nfl : Dt → Bool
  | .frl _ => false
  | .tup ds => nfls ds
  | .lst ds => nfls ds
  | .ins _ _ ds => nfls ds
  | .fn _ _ _ _ ds => nfls ds
  | _ => true
def nfls : List Dt → Bool
  | [] => true
  | d :: ds => nfl d && nfls ds
end
section
variable {K : PySem.W.Frag} {mg : Mg} {H : Hp} {P : Pv} {a : Addr} {od : Obj} {xs : List V}
theorem unl_ne (fz : H a = some (.frz od (.lst xs))) {b : Addr} {o : HO} (h : H b = some o) (n : ∀ o' ys, o ≠ .frz o' (.lst ys)) : upd H a (.lst xs) b = some o := by
  have : b ≠ a := fun z => by
    rw [z, fz] at h
    cases h
    exact n _ _ rfl
  rw [upd_ne this]
  exact h
mutual
theorem Rep.unl (fz : H a = some (.frz od (.lst xs))) : ∀ (d : Dt) (v : V), nfl d = true → Rep K mg H P d v → Rep K mg (upd H a (.lst xs)) P d v
  | .non, _, _, h => h
  | .bl _, _, _, h => h
  | .int _, _, _, h => h
  | .str _, _, _, h => h
  | .tup ds, _, n, ⟨b, vs, e, h1, h2⟩ => ⟨b, vs, e, by
      rcases h1 with (h1 | ⟨o, h1⟩) | h1
      · exact .inl (.inl (unl_ne fz h1 fun _ _ z => nomatch z))
      · exact .inl (.inr ⟨o, unl_ne fz h1 fun _ _ z => nomatch z⟩)
      · exact .inr h1, Reps.unl fz ds vs n h2⟩
  | .lst ds, _, n, ⟨b, vs, e, h1, np, h2⟩ => ⟨b, vs, e, unl_ne fz h1 (fun _ _ z => nomatch z), np, Reps.unl fz ds vs n h2⟩
  | .frl ds, _, n, _ => nomatch n
  | .ins c ks ds, _, n, ⟨b, C, dx, vs, e, h1, h2, np, l, h3⟩ => ⟨b, C, dx, vs, e, h1, unl_ne fz h2 (fun _ _ z => nomatch z), np, l, Reps.unl fz ds vs n h3⟩
  | .fn f c q ws ds, _, n, ⟨e, h1, h2⟩ => ⟨e, unl_ne fz h1 (fun _ _ z => nomatch z), Reps.unl fz ds ws n h2⟩
  | .exn c m, _, _, ⟨b, C, ta, e, h1, h2, np, h3⟩ => ⟨b, C, ta, e, h1, unl_ne fz h2 (fun _ _ z => nomatch z), np, unl_ne fz h3 (fun _ _ z => nomatch z)⟩
theorem Reps.unl (fz : H a = some (.frz od (.lst xs))) : ∀ (ds : List Dt) (vs : List V), nfls ds = true → Reps K mg H P ds vs → Reps K mg (upd H a (.lst xs)) P ds vs
  | [], _, _, h => h
  | d :: ds, _, n, ⟨v, r, e, h1, h2⟩ => ⟨v, r, e, Rep.unl fz d v (by
      rw [nfls, Bool.and_eq_true] at n
      exact n.1) h1, Reps.unl fz ds r (by
      rw [nfls, Bool.and_eq_true] at n
      exact n.2) h2⟩
end
end
def lendF (i : Nat) (f : Fn) : Fn := fun ε => match ε[i]? with
  | some (.o xs) => (match f ((lamE ε).set i (.d (.frl xs))) with
    | .ok d => if nfl d = true then .ok d else .bad
    | _ => .bad)
  | _ => .bad
theorem lendF_eq {i : Nat} {f : Fn} {ε : Ev} {xs : List Dt} {d : Dt} (h : ε[i]? = some (.o xs)) (hf : f ((lamE ε).set i (.d (.frl xs))) = .ok d) (n : nfl d = true) : lendF i f ε = .ok d := by
  unfold lendF
  rw [h]
  simp only [hf]
  exact if_pos n
section
variable {X : Cx} {W : WX}
theorem pd_lend {e : Expr} {f : Fn} (i : Nat) (h : PD X W e f) : PD X W e (lendF i f) := pe_weak (pe_lock h) fun σ H Q ⟨P, ε, E, q⟩ => by
  unfold lendF at q
  cases hx : ε[i]? with
  | none => rw [hx] at q; exact q.elim
  | some l =>
    rw [hx] at q
    cases l with
    | o xs =>
      obtain ⟨a, vs0, hs, pa, h0, ro⟩ := E.sl i _ hx
      have hi : i < ε.length := (List.getElem?_eq_some_iff.mp hx).1
      cases hf : f ((lamE ε).set i (.d (.frl xs))) with
      | bad => simp only [hf] at q; exact q.elim
      | ex c => simp only [hf] at q; exact q.elim
      | ok d =>
        simp only [hf] at q
        by_cases nf : nfl d = true
        · rw [if_pos nf] at q
          have q : ∀ v H', Ext H H' → Rep X.K X.mg H' P d v → Q v H' := q
          refine ⟨a, .lst vs0, h0, trivial, fun od => ?_⟩
          have ok0 : OwnK H a := .inl ⟨_, h0⟩
          have tw : Tr P P H (upd H a (.frz od (.lst vs0))) := Tr.write pa ok0
          refine ⟨P, (lamE ε).set i (.d (.frl xs)), ⟨by rw [List.length_set, lamE, List.length_map, E.ln], fun b hb => ?_, fun j l hj => ?_, (Xt.put (M := fun b => b = a) Xt.refl (.inr rfl) ok0).tabs E.tb⟩, ?_⟩
          · by_cases eb : b = a
            · rw [eb, upd_same]; exact ⟨_, rfl, nt_frz⟩
            · rw [upd_ne eb]; exact E.tk b hb
          · by_cases hji : i = j
            · subst hji
              rw [List.getElem?_set_self (by rw [lamE, List.length_map]; exact hi)] at hj
              cases hj
              exact ⟨.ref a, hs, a, vs0, rfl, .inr (.inl ⟨od, upd_same⟩), Reps.tr tw _ _ ro⟩
            · rw [List.getElem?_set_ne hji] at hj
              unfold lamE at hj
              rw [List.getElem?_map] at hj
              cases hl : ε[j]? with
              | none => rw [hl] at hj; cases hj
              | some l0 =>
                rw [hl] at hj
                have z := E.sl j l0 hl
                cases l0 with
                | d y =>
                  cases hj
                  obtain ⟨v, g1, g2⟩ := z
                  exact ⟨v, g1, Rep.tr tw _ _ g2⟩
                | _ => cases hj; trivial
          · rw [hf]
            intro v H' e r
            have fz : H' a = some (.frz od (.lst vs0)) := e.at_ upd_same nt_frz
            have e2 : Ext H (upd H' a (.lst vs0)) := by
              refine ⟨fun b o hb n _ => ?_, fun b q' hm t => ?_⟩
              · by_cases eb : b = a
                · rw [eb] at hb ⊢
                  rw [h0] at hb
                  cases hb
                  exact upd_same
                · rw [upd_ne eb]
                  exact e.at_ (by rw [upd_ne eb]; exact hb) n
              · have t1 := (Xt.put (M := fun b => b = a) (o := .frz od (.lst vs0)) Xt.refl (.inr rfl) ok0).tabS b q' hm t
                have t2 := e.tabS b q' hm t1
                exact (Xt.upd (M := fun b => b = a) (o := .lst vs0) fun u hu => by
                  rw [fz] at hu
                  cases hu
                  exact ⟨fun _ z => (nomatch z), fun _ _ z => (nomatch z), rfl⟩).tabS b q' hm t2
            exact ⟨fz, q v _ e2 (Rep.unl fz d v nf r)⟩
        · rw [if_neg nf] at q
          exact q.elim
    | _ => exact q.elim
end
end DL
end
section
set_option Elab.async false
set_option linter.all false
set_option maxRecDepth 100000
set_option maxHeartbeats 800000
set_option autoImplicit false
namespace DL
open PySem PySem.Spec PyProof.Rows L2
variable [TbC]
/-! ### texts joined -/
def strsD : List Dt → Option (List Str)
  | [] => some []
  | .str x :: r => (strsD r).map fun ys => x :: ys
  | _ => none
def joinK (a : Str) : Dt → Option Dt
  | .lst xs => (strsD xs).bind fun ys => if (ys.map (·.length)).sum + ys.length * a.length ≤ 16777216 then some (.str (Txt.join a ys)) else none
  | _ => none
def joinF (f g : Fn) : Fn := fun ε => (f ε).bind fun x => match x with
  | .str a => (g ε).bind fun y => .ofO (joinK a y)
  | _ => .bad
theorem strs_vs {K : PySem.W.Frag} {mg : Mg} {H : Hp} {P : Pv} : ∀ {xs : List Dt} {vs : List V} {ys : List Str}, strsD xs = some ys → Reps K mg H P xs vs → vs = ys.map V.str
  | [], _, _, h, r => by cases h; exact r
  | d :: xs, _, ys, h, ⟨v, r, e, h1, h2⟩ => by
    cases d with
    | str x =>
      rw [strsD] at h
      cases q : strsD xs with
      | none => rw [q] at h; cases h
      | some zs =>
        rw [q] at h
        cases h
        subst e
        rw [show v = V.str x from h1, strs_vs q h2]
        rfl
    | _ => cases h
section
variable {X : Cx} {W : WX} {a b : Expr} {f g : Fn} {apos pos : Pos}
theorem dJoin (ha : PB X W a f) (hb : PB X W b g) (hs : starEach [b] X.env = [(false, eval b X.env)] := by rfl) (hbase : attributeBase a "join" X.env (eval a X.env) = eval a X.env := by rfl) (hline : (apos.endLine == pos.line) = true := by rfl) :
    PD X W (.Call (.Attribute a "join" apos) [b] [] pos) (joinF f g) := pe_weak (pe_join ha hb hs hbase hline) fun σ H Q ⟨P, ε, E, q⟩ =>
  ⟨P, ε, E, q.bind.mono fun dx q x H1 e1 r1 => by
    cases dx with
    | str z =>
      have ex : x = .str z := r1
      subst ex
      refine ⟨⟨z, rfl⟩, P, ε, E.ext e1, (q.bind.ext e1).mono fun dy q y H2 e2 r2 => ?_⟩
      obtain ⟨d, hd, q⟩ := q.ofO
      cases dy with
      | lst xs =>
        unfold joinK at hd
        cases hs : strsD xs with
        | none => simp only [hs] at hd; cases hd
        | some ys =>
          simp only [hs, Option.bind_some] at hd
          by_cases hz : (ys.map (·.length)).sum + ys.length * z.length ≤ 16777216
          · rw [if_pos hz] at hd
            cases hd
            obtain ⟨p, vs, rfl, hp, r⟩ := r2
            have ev := strs_vs hs r
            subst ev
            exact ⟨z, p, ys, rfl, rfl, .inl (.of hp), hz, q _ H2 (e1.trans e2) rfl⟩
          · rw [if_neg hz] at hd
            cases hd
      | _ => cases hd
    | _ => exact q.elim⟩
end
end DL
end
section
set_option Elab.async false
set_option linter.all false
set_option maxRecDepth 100000
set_option maxHeartbeats 800000
set_option autoImplicit false
namespace DL
open PySem PySem.Spec PyProof.Rows L2
variable [TbC]
/-! ### a refusal as a value -/
section
variable {X : Cx} {W : WX}
theorem vals_1 {y : V} {us : List Value} (r : Vals [y] us) : ∃ u, us = [u] ∧ RelV y u := by
  cases r with
  | cons a b => cases b; exact ⟨_, rfl, a⟩
theorem pe_exn {C : Addr} {x : Str} {e : Expr} {ta : TE} {p pos : Pos} (q : PySem.W.excIn X.K C He.veBase "ValueError.__new__" = true) (gC : X.mg x = some (.ref C)) (kC : PySem.W.keepIn X.K (.ref C) = true) (hg : Gl X x)
    (he : PE X e ta) (hs : starEach [e] X.env = (false, eval e X.env) :: starEach [] X.env) (hdb : (x == ("__debug__" : Str)) = false) :
    PE X (.Call (.Name x p) [e] [] pos) (fun σ H Q => ta σ H fun y H1 => ∀ a t, H1 a = none → H1 t = none → a ≠ t → Q (.ref a) (upd (upd H1 t (.tup [y])) a (ExM C a t))) := by
  refine ⟨fun pins s σ H Q I h => ?_⟩
  refine wpAny_Call_Name_kw (ld_glob I hg gC ?_ hdb)
  refine PySem.W.callWith_K (h₀ := X.base) I.ok.mod.kin kC ?_ hs (by rfl)
  rw [hs]
  show wpAny _ _ (spliced ((false, eval e X.env) :: backTo pos (starEach [] X.env))) _ _ s
  refine Calls.spliced_cons (thn (he.run pins s σ H _ I h) fun u s1 ⟨v, H1, I1, r1, q1⟩ => ?_)
  refine Calls.spliced_nil ⟨I1.kIn, ?_⟩
  show wpAny _ _ (call (.ref C) [u]) _ _ _
  obtain ⟨bm, N, nm, qn, bs, hdct, sn, sub, ab, col, dd, k0, k1, k2, k3, k5, mN, hC, hN, hni, T⟩ := exc_obj I1.kIn q
  refine wpAny_call_exc_subT PySem.F.excBase_ValueError T hC hN hni (fun h' a hm => ?_) (by show 1 ≤ sizeLine; rw [sizeLine_eq]; omega)
  obtain ⟨t, ht, htn, htt⟩ := hm.there
  have hn : H1 a = none := I1.hok.gone hm.new
  have hnt : H1 t = none := I1.hok.gone htn
  have hat : a ≠ t := fun z => by
    rw [z, htt] at ht
    cases ht
  obtain ⟨G, g1, g2⟩ := restrict h' fun b => decide (b ≠ a)
  have gk : ∀ b o, b ≠ a → h'.get? b = some o → G.get? b = some o := fun b o hb e => by
    rw [g1 b (decide_eq_true hb)]
    exact e
  have ga : G.get? a = none := g2 a (decide_eq_false fun z => z rfl)
  have I2 := I1.laidN (h' := G) (a := t) (o := .tup [v]) (t' := s1.toks) (fun b u' e => gk b u' (fun z => by rw [z, hm.new] at e; cases e) (hm.keeps b u' e)) htn hnt ⟨by show 1 ≤ sizeLine; rw [sizeLine_eq]; omega, [u], .cons r1 .nil, _, gk _ _ (Ne.symm hat) htt, rfl, _, rfl⟩
  have I3 := I2.laidN (h' := h') (a := a) (o := ExM C a t) (t' := s1.toks) (fun b u' e => by
    by_cases hb : b = a
    · rw [hb, ga] at e
      cases e
    · rw [g1 b (decide_eq_true hb)] at e
      exact e) ga (by rw [upd_ne hat]; exact hn) ⟨⟨_, _, ht, ⟨rfl, rfl⟩, rfl, rfl⟩, ⟨_, ht⟩, fun h1 h2 ⟨oe, vs, e1, e2, e3, e4⟩ k => ⟨oe, vs, k _ e1, e2, e3, e4⟩⟩
  exact ⟨.ref a, _, I3, rfl, q1 a t hn hnt hat⟩
def exnD (c : Str) : Dt → Option Dt
  | .str m => some (.exn c m)
  | _ => none
theorem dExn {x : Str} {e : Expr} {f : Fn} {p pos : Pos} (hx : ExcF X.K X.mg x) (he : PB X W e f) (hg : Gl X x := by rfl) (hs : starEach [e] X.env = (false, eval e X.env) :: starEach [] X.env := by rfl) (hdb : (x == ("__debug__" : Str)) = false := by decide) :
    PD X W (.Call (.Name x p) [e] [] pos) (un (exnD x) f) := by
  obtain ⟨C, h1, h2, h3, _, _⟩ := hx
  exact pe_weak (pe_exn h2 h1 h3 hg he hs hdb) fun σ H Q ⟨P, ε, E, q⟩ =>
    ⟨P, ε, E, q.bind.mono fun dx q y H1 e1 r1 => by
      obtain ⟨d, hh, q⟩ := q.ofO
      cases dx with
      | str m =>
        cases hh
        have ey : y = .str m := r1
        subst ey
        intro a t ha ht hat
        have x1 : Ext H1 (upd H1 t (.tup [.str m])) := Ext.new ht
        have x2 : Ext (upd H1 t (.tup [.str m])) (upd (upd H1 t (.tup [.str m])) a (ExM C a t)) := Ext.new (by rw [upd_ne hat]; exact ha)
        refine q _ _ (e1.trans (x1.trans x2)) ⟨a, C, t, rfl, h1, upd_same, fun z => ?_, by rw [upd_ne (Ne.symm hat)]; exact upd_same⟩
        obtain ⟨o, q, _⟩ := (E.ext e1).tk a z
        rw [ha] at q
        cases q
      | _ => cases hh⟩
/-! str of one -/
structure StrC (K : PySem.W.Frag) (C : Addr) : Prop where
  s : PySem.W.findIn K (.ref C) "__str__" = some (some (.builtin "BaseException.__str__"))
  b : PySem.W.subIn K (.ref C) (.type "BaseException") = some true
def rStrX (K : PySem.W.Frag) : List V → Hp → VK → Prop := fun xs H Q => ∃ (a C ta : Addr) (m : Str), xs = [.ref a] ∧ StrC K C ∧ H a = some (ExM C a ta) ∧ H ta = some (.tup [.str m]) ∧ Q (.str m) H
theorem call_strX (hu : X.A.units + 2 < cLine) : CallR X (.type "str") (rStrX X.K) := by
  intro pins s σ H xs us Q I r h
  obtain ⟨a, C, ta, m, rfl, S, ha, ht, q⟩ := h
  obtain ⟨u, rfl, ru⟩ := vals_1 r
  cases (show u = Value.ref a from ru)
  obtain ⟨⟨oe, vs, e1, e2, e3, e4⟩, _, _⟩ := I.hok a _ ha
  obtain ⟨_, its, rv, o, h1, h2, n, h3⟩ := (show ObjOk X.prog X.w H s.heap ta (.tup [.str m]) from I.hok ta _ ht)
  obtain ⟨w, rfl, rw'⟩ := vals_1 rv
  obtain ⟨tk, rfl⟩ := (show ∃ t, w = Value.str m t from rw')
  exact PySem.P.str_of_C_one hu ⟨I.kIn, oe, vs, e1, e2.1, e3, e4⟩ ⟨o, n, h1, h2, h3⟩ S.s S.b ⟨.str m, H, I, ⟨tk, rfl⟩, q⟩
def strxD (cs : List Str) : Dt → Option Dt
  | .exn c m => if c ∈ cs then some (.str m) else none
  | _ => none
theorem strx_ok {cs : List Str} (hcs : ∀ c ∈ cs, ∃ C, X.mg c = some (.ref C) ∧ StrC X.K C) : UnD X (rStrX X.K) (strxD cs) := fun x H Q P dx d _ r1 e q => by
  cases dx with
  | exn c m =>
    by_cases hc : c ∈ cs
    · rw [show strxD cs (.exn c m) = some (.str m) from if_pos hc] at e
      cases e
      obtain ⟨a, C, ta, rfl, h1, h2, _, h3⟩ := r1
      obtain ⟨C', g1, g2⟩ := hcs c hc
      rw [h1] at g1
      cases g1
      exact ⟨a, C, ta, m, rfl, g2, h2, h3, q _ H Ext.refl rfl⟩
    · rw [show strxD cs (.exn c m) = none from if_neg hc] at e
      cases e
  | _ => cases e
theorem dStrX {k : Nat} {cs : List Str} {e : Expr} {f : Fn} {p pos : Pos} (hr : Room k X.A) (hcs : ∀ c ∈ cs, ∃ C, X.mg c = some (.ref C) ∧ StrC X.K C) (hm : X.mg "str" = none) (ha : PB X W e f) (hg : Gl X "str" := by rfl) (he : starEach [e] X.env = [(false, eval e X.env)] := by rfl) : PD X W (.Call (.Name "str" p) [e] [] pos) (un (strxD cs) f) :=
  pd_t1 (call_strX (by have := hr.units; omega)) (strx_ok hcs) (by decide +kernel) (by decide) (by decide) hm ha hg he
/-! isinstance of one -/
def rIsX (K : PySem.W.Frag) : List V → Hp → VK → Prop := fun xs H Q => ∃ (a C ta : Addr) (c : V) (cv : Value) (b : Bool), xs = [.ref a, c] ∧ ExcC K C ∧ H a = some (ExM C a ta) ∧ (∀ u, RelV c u → u = cv) ∧ PySem.W.kitOne K (.ref C) cv = some b ∧ Q (.bl b) H
theorem call_isX : CallR X (.builtin "isinstance") (rIsX X.K) := fun pins s σ H xs us Q I r ⟨a, D, ta, c, cv, b, ex, C, ha, hcv, e, q⟩ => by
  subst ex
  match us, r with
  | [_, uc], .cons rx (.cons rt .nil) =>
    cases rx
    cases hcv _ rt
    obtain ⟨⟨oe, vs, hget, hz, hv, _⟩, _, _⟩ := I.hok a _ ha
    have J : PySem.W.InstAt s.heap a oe D none := by
      obtain ⟨oc, od, oda, osl⟩ := oe
      obtain ⟨z1, z2⟩ := hz
      dsimp only at z1 z2 hv
      subst z1 z2 hv
      exact ⟨hget, rfl, rfl, trivial⟩
    have kx := PySem.W.handS_kitx_exc (x := a) (ox := oe) C.hg C.hk C.hs C.hd C.ha C.hn C.ht C.hm
    exact PySem.W.kia_one kx I.kIn J e (fun z => nomatch z) fun tk => ⟨.bl b, H, Inv.kept (t' := tk) I fun _ _ z => z, rfl, q⟩
def isxD (tab : List (Str × Bool)) : Dt → Option Dt
  | .exn c _ => (tab.lookup c).map .bl
  | _ => none
theorem dIsX {T : Str} {tab : List (Str × Bool)} {e : Expr} {f : Fn} {cv : V} {cu : Value} {p p2 pos : Pos} (hm : X.mg "isinstance" = none) (ha : PB X W e f)
    (hT : PE X (.Name T p2) fun σ H Q => Q cv H) (hu : ∀ u, RelV cv u → u = cu) (htab : ∀ c b, tab.lookup c = some b → ∃ C, X.mg c = some (.ref C) ∧ ExcC X.K C ∧ PySem.W.kitOne X.K (.ref C) cu = some b) (hg : Gl X "isinstance" := by rfl)
    (he : starEach (e :: [.Name T p2]) X.env = (false, eval e X.env) :: starEach [.Name T p2] X.env := by rfl) (he2 : starEach [.Name T p2] X.env = [(false, eval (.Name T p2) X.env)] := by rfl) (hpl : (backTo pos (starEach [.Name T p2] X.env)).any (·.1) = false := by rfl) :
    PD X W (.Call (.Name "isinstance" p) [e, .Name T p2] [] pos) (un (isxD tab) f) :=
  pe_weak (pe_callB call_isX hg hm boot_isinstance (pa_cons ha (pa_cons hT pa_nil he2) he) (by decide) (by decide) he hpl) fun σ H Q ⟨P, ε, E, q⟩ =>
    ⟨P, ε, E, q.bind.mono fun dx q x H1 e1 r1 => by
      obtain ⟨d, hh, q⟩ := q.ofO
      cases dx with
      | exn c m =>
        rw [isxD] at hh
        cases hl : tab.lookup c with
        | none => rw [hl] at hh; cases hh
        | some b =>
          rw [hl] at hh
          cases hh
          obtain ⟨a, C, ta, rfl, h1, h2, _, h3⟩ := r1
          obtain ⟨C', g1, g2, g3⟩ := htab c b hl
          rw [h1] at g1
          cases g1
          exact ⟨a, C, ta, cv, cu, b, rfl, g2, h2, hu, g3, q _ H1 e1 rfl⟩
      | _ => cases hh⟩
end
/-! what is asked of the classes -/
def strX (c : Str) : PySem.W.Frag → Bool := fun K =>
  decide (PySem.W.findIn K (.ref (He.ga K c)) "__str__" = some (some (.builtin "BaseException.__str__"))) && decide (PySem.W.subIn K (.ref (He.ga K c)) (.type "BaseException") = some true)
theorem strX_ok {K : PySem.W.Frag} {c : Str} (h : strX c K = true) : StrC K (He.ga K c) := by
  unfold strX at h
  simp only [Bool.and_eq_true, decide_eq_true_eq] at h
  exact ⟨h.1, h.2⟩
end DL
end
section
set_option Elab.async false
set_option linter.all false
set_option maxRecDepth 100000
set_option autoImplicit false
namespace DL
open PySem PySem.Spec PyProof.Rows L2
/-! ### the classes of which refusals are told, one after another -/
section
variable {K : PySem.W.Frag} {mg : Mg}
theorem csr_nil : ∀ c ∈ ([] : List Str), ∃ C, mg c = some (.ref C) ∧ StrC K C := fun _ h => nomatch h
theorem csr_cons {c : Str} {C : Addr} {r : List Str} (h : mg c = some (.ref C)) (s : StrC K C) (t : ∀ d ∈ r, ∃ C, mg d = some (.ref C) ∧ StrC K C) : ∀ d ∈ c :: r, ∃ C, mg d = some (.ref C) ∧ StrC K C := fun d hd => by
  rcases List.mem_cons.mp hd with e | e
  · subst e
    exact ⟨C, h, s⟩
  · exact t d e
def TabX (K : PySem.W.Frag) (mg : Mg) (cu : Value) (tab : List (Str × Bool)) : Prop := ∀ c b, tab.lookup c = some b → ∃ C, mg c = some (.ref C) ∧ ExcC K C ∧ PySem.W.kitOne K (.ref C) cu = some b
theorem tab_nil {cu : Value} : TabX K mg cu [] := fun _ _ h => nomatch h
theorem tab_cons {cu : Value} {c : Str} {C : Addr} {b : Bool} {r : List (Str × Bool)} (h : mg c = some (.ref C)) (s : ExcC K C) (k : PySem.W.kitOne K (.ref C) cu = some b) (t : TabX K mg cu r) : TabX K mg cu ((c, b) :: r) := fun d x hx => by
  by_cases e : d = c
  · subst e
    rw [List.lookup_cons_self] at hx
    cases hx
    exact ⟨C, h, s, k⟩
  · rw [List.lookup, beq_eq_false_iff_ne.mpr e] at hx
    exact t d x hx
end
end DL
end
section
set_option Elab.async false
set_option linter.all false
set_option maxRecDepth 100000
set_option maxHeartbeats 800000
set_option autoImplicit false
namespace DL
open PySem PySem.Spec PyProof.Rows L2
variable [TbC]
/-! ### a list of new lists, filled row by row -/
section
variable {K : PySem.W.Frag} {mg : Mg} {F : Frm} {Pp P P' : Pv} {σ : St} {H H' : Hp} {ε : Ev} {jd : Nat} {p : Addr} {as : List Addr} {rows : List (List Dt)}
theorem own_setd {i : Nat} {v : V} {d : Dt} {a : Addr} (h : ownA (σ.set i (some v)) (ε.set i (.d d)) a) : ownA σ ε a := by
  obtain ⟨j, l, h1, h2, h3⟩ := h
  by_cases hj : i = j
  · subst hj
    by_cases hi : i < ε.length
    · rw [List.getElem?_set_self hi] at h1; cases h1; exact h2.elim
    · rw [List.getElem?_eq_none (by rw [List.length_set]; omega)] at h1; cases h1
  · rw [List.getElem?_set_ne hj] at h1 h3
    exact ⟨j, l, h1, h2, h3⟩
theorem SlotOk.mv (t : Tr P P' H H') (e : Ext H H') {l : Lc} {x : Option V} (h : SlotOk K mg H P l x) (ho : l.isO → ∀ a, x = some (.ref a) → P' a) : SlotOk K mg H' P' l x := by
  cases l with
  | u => trivial
  | d d => obtain ⟨v, q, r⟩ := h; exact ⟨v, q, r.tr t⟩
  | o ds => obtain ⟨a, vs, q, h0, h1, r⟩ := h; exact ⟨a, vs, q, ho trivial a q, e.at_ h1 nt_lst, r.tr t⟩
  | i a c ks ds => obtain ⟨C, dx, vs, q, h0, h1, h2, l, r⟩ := h; exact ⟨C, dx, vs, q, ho trivial a q, h1, e.at_ h2 nt_ins, l, r.tr t⟩
  | m xs => obtain ⟨a, ys, q, p, h1, r⟩ := h; exact ⟨a, ys, q, ho trivial a q, e.at_ h1 nt_dc, r.tr t⟩
  | mf xs => obtain ⟨a, o, ys, q, h1, r⟩ := h; exact ⟨a, o, ys, q, e.at_ h1 nt_frz, r.tr t⟩
structure Nst (K : PySem.W.Frag) (mg : Mg) (F : Frm) (Pp : Pv) (σ : St) (H : Hp) (ε : Ev) (jd : Nat) (p : Addr) (as : List Addr) (rows : List (List Dt)) : Prop where
  S : SOk K mg F σ H ε
  e : EOk K mg Pp σ H ε
  pv : ∀ a, prv F σ ε a → Pp a
  v : σ[jd]?.join = some (.ref p)
  hp : H p = some (.lst (as.map V.ref))
  np : ¬ prv F σ ε p
  ln : as.length = rows.length
  ra : ∀ (i : Nat) (a : Addr) (r : List Dt), as[i]? = some a → rows[i]? = some r → ∃ vs, H a = some (.lst vs) ∧ Reps K mg H Pp r vs
  pa : ∀ a ∈ as, Pp a
  na : ∀ a ∈ as, ¬ prv F σ ε a
  ne : ∀ a ∈ as, a ≠ p
  fa : ∀ a ∈ as, Fresh F.H0 a ∨ F.M a
  nd : as.Nodup
theorem Nst.ext (N : Nst K mg F Pp σ H ε jd p as rows) (x : Ext H H') : Nst K mg F Pp σ H' ε jd p as rows :=
  ⟨N.S.ext x, N.e.ext x, N.pv, N.v, x.at_ N.hp nt_lst, N.np, N.ln, fun i a r h1 h2 => let ⟨vs, q, rr⟩ := N.ra i a r h1 h2; ⟨vs, x.at_ q nt_lst, rr.ext x⟩, N.pa, N.na, N.ne, N.fa, N.nd⟩
theorem Nst.set (N : Nst K mg F Pp σ H ε jd p as rows) {i : Nat} (hi : i ≠ jd) {d : Dt} {v : V} (r : Rep K mg H Pp d v) : Nst K mg F Pp (σ.set i (some v)) H (ε.set i (.d d)) jd p as rows :=
  ⟨N.S.set (Rep.tr (Tr.less N.pv) _ _ r) i, N.e.set r i, fun a h => N.pv a (h.imp_right own_setd), by rw [List.getElem?_set_ne hi]; exact N.v, N.hp, fun h => N.np (h.imp_right own_setd), N.ln, N.ra, N.pa, fun a ha h => N.na a ha (h.imp_right own_setd), N.ne, N.fa, N.nd⟩
theorem Nst.app (N : Nst K mg F Pp σ H ε jd p as rows) {k : Nat} {a : Addr} {r : List Dt} {vs : List V} {d : Dt} {v : V} (h1 : as[k]? = some a) (h2 : rows[k]? = some r) (ha : H a = some (.lst vs)) (rv : Reps K mg H Pp r vs) (rd : Rep K mg H Pp d v) :
    Nst K mg F Pp σ (upd H a (.lst (vs ++ [v]))) ε jd p as (rows.set k (r ++ [d])) := by
  have am : a ∈ as := List.mem_of_getElem? h1
  have own : OwnK H a := .inl ⟨vs, ha⟩
  have tw : Tr Pp Pp H (upd H a (.lst (vs ++ [v]))) := Tr.write (N.pa a am) own
  have ne : ∀ {j : Nat} {l : Lc} {b : Addr}, ε[j]? = some l → l.isO → σ[j]?.join = some (.ref b) → b ≠ a := fun h' ho q e => N.na a am (by rw [← e]; exact .inr ⟨_, _, h', ho, q⟩)
  have e' : EOk K mg Pp σ (upd H a (.lst (vs ++ [v]))) ε := by
    refine ⟨N.e.ln, fun b hb => ?_, fun j l hj => ?_, (Xt.put (M := fun b => b = a) Xt.refl (.inr rfl) own).tabs N.e.tb⟩
    · by_cases e : b = a
      · rw [e, upd_same]; exact ⟨_, rfl, nt_lst⟩
      · rw [upd_ne e]; exact N.e.tk b hb
    · have z := N.e.sl j l hj
      cases l with
      | u => trivial
      | d d => obtain ⟨v, q, r⟩ := z; exact ⟨v, q, Rep.tr tw _ _ r⟩
      | o ds' =>
        obtain ⟨b, ws, q, pb, hb, rb⟩ := z
        exact ⟨b, ws, q, pb, by rw [upd_ne (ne hj trivial q)]; exact hb, Reps.tr tw _ _ rb⟩
      | i b c ks ds' =>
        obtain ⟨C, dx, ws, q, pb, hc, hb, hl, rb⟩ := z
        exact ⟨C, dx, ws, q, pb, hc, by rw [upd_ne (ne hj trivial q)]; exact hb, hl, Reps.tr tw _ _ rb⟩
      | m xs =>
        obtain ⟨b, ys, q, pb, hb, rb⟩ := z
        exact ⟨b, ys, q, pb, by rw [upd_ne (ne hj trivial q)]; exact hb, rb.tr tw⟩
      | mf xs =>
        obtain ⟨b, o, ys, q, hb, rb⟩ := z
        refine ⟨b, o, ys, q, ?_, rb.tr tw⟩
        rw [upd_ne (fun e => ?_)]
        · exact hb
        · rw [e, ha] at hb
          cases hb
  refine ⟨⟨e'.less N.pv fun a z => .inr z, Xt.put N.S.x (N.fa a am) own, N.S.p, N.S.f, N.S.n, N.S.d⟩, e', N.pv, N.v, by rw [upd_ne (N.ne a am).symm]; exact N.hp, N.np, by rw [List.length_set]; exact N.ln, fun i b r' g1 g2 => ?_, N.pa, N.na, N.ne, N.fa, N.nd⟩
  by_cases hi : k = i
  · subst hi
    rw [h1] at g1
    cases g1
    rw [List.getElem?_set_self (List.getElem?_eq_some_iff.mp h2).1] at g2
    cases g2
    exact ⟨_, upd_same, Reps.tr tw _ _ (rv.append (.one rd))⟩
  · rw [List.getElem?_set_ne hi] at g2
    obtain ⟨ws, q, rr⟩ := N.ra i b r' g1 g2
    have hb : b ≠ a := fun e => by
      subst e
      obtain ⟨q1, q2⟩ := List.getElem?_eq_some_iff.mp h1
      obtain ⟨q3, q4⟩ := List.getElem?_eq_some_iff.mp g1
      rcases Nat.lt_or_gt_of_ne hi with z | z
      · exact List.pairwise_iff_getElem.mp N.nd k i q1 q3 z (q2.trans q4.symm)
      · exact List.pairwise_iff_getElem.mp N.nd i k q3 q1 z (q4.trans q2.symm)
    exact ⟨ws, by rw [upd_ne hb]; exact q, Reps.tr tw _ _ rr⟩
/-- the rows are handed on as data -/
theorem Nst.done (N : Nst K mg F Pp σ H ε jd p as rows) : SOk K mg F σ H (ε.set jd (.d (.lst (rows.map .lst)))) := by
  have rr : Reps K mg H (prv F σ ε) (rows.map .lst) (as.map V.ref) := Reps.mk (by rw [List.length_map, List.length_map, N.ln]) fun i d v h1 h2 => by
    rw [List.getElem?_map] at h1 h2
    obtain ⟨r, q1, rfl⟩ := Option.map_eq_some_iff.mp h1
    obtain ⟨a, q2, rfl⟩ := Option.map_eq_some_iff.mp h2
    obtain ⟨vs, ha, rv⟩ := N.ra i a r q2 q1
    exact ⟨a, vs, rfl, ha, N.na a (List.mem_of_getElem? q2), Reps.tr (Tr.less N.pv) _ _ rv⟩
  refine N.S.chg ⟨by rw [List.length_set]; exact N.S.e.ln, N.S.e.tk, fun j l h => ?_, N.S.e.tb⟩ fun j l h o => ?_
  · by_cases hj : jd = j
    · subst hj
      by_cases hi : jd < ε.length
      · rw [List.getElem?_set_self hi] at h
        cases h
        exact ⟨_, N.v, p, _, rfl, N.hp, N.np, rr⟩
      · rw [List.getElem?_eq_none (by rw [List.length_set]; omega)] at h; cases h
    · rw [List.getElem?_set_ne hj] at h
      exact N.S.e.sl j l h
  · by_cases hj : jd = j
    · subst hj
      by_cases hi : jd < ε.length
      · rw [List.getElem?_set_self hi] at h; cases h; exact o.elim
      · rw [List.getElem?_eq_none (by rw [List.length_set]; omega)] at h; cases h
    · rw [List.getElem?_set_ne hj] at h
      exact ⟨h, rfl⟩
end
/-! the readings -/
def cnt (f : Fn) (ε : Ev) : Option Nat := match f ε with
  | .ok (.int j) => if -(2 ^ 62) ≤ j ∧ j < 2 ^ 62 then some j.toNat else none
  | _ => none
def dueX (jx jy y : Nat) (k : Fn) : Nat → Nat → Ev → List Dt → Option (Ev × List Dt)
  | 0, _, ε, r => some (ε, r)
  | m + 1, i, ε, r => match (ε.set jx (.d (.int (i : Int))))[jy]?, k (ε.set jx (.d (.int (i : Int)))) with
    | some (.d (.int z)), .ok d => if z = (y : Int) ∧ r.length < sizeLine then dueX jx jy y k m (i + 1) (ε.set jx (.d (.int (i : Int)))) (r ++ [d]) else none
    | _, _ => none
def dueY (jx jy : Nat) (f3 k : Fn) : Nat → Nat → Ev → List (List Dt) → Option (Ev × List (List Dt))
  | 0, _, ε, rows => some (ε, rows)
  | m + 1, i, ε, rows => match cnt f3 (ε.set jy (.d (.int (i : Int)))) with
    | some q => match dueX jx jy i k q 0 (ε.set jy (.d (.int (i : Int)))) [] with
      | some (ε', r) => dueY jx jy f3 k m (i + 1) ε' (rows ++ [r])
      | none => none
    | none => none
def dueS (jd jx jy : Nat) (f1 f2 f3 k : Fn) : Ev → Option Ev := fun ε => match cnt f1 ε, cnt f2 (ε.set jd .u) with
  | some n, some m => if n = m ∧ n < sizeLine ∧ jd < ε.length then match dueY jx jy f3 k n 0 (ε.set jd .u) [] with
    | some (ε', rows) => some (ε'.set jd (.d (.lst (rows.map .lst))))
    | none => none else none
  | _, _ => none
section
variable {X : Cx} {W : WX} {F : Frm} {D : Ends} {Pp P : Pv} {σ : St} {H : Hp} {ε ε' : Ev} {jd jx jy : Nat} {p : Addr} {as : List Addr} {rows : List (List Dt)} {f k : Fn}
theorem rng_cnt {n : Nat} {R : It → Hp → Prop} (E : EOk X.K X.mg P σ H ε) (h : cnt f ε = some n) (q : ∀ H', Ext H H' → R (Itr 0 n) H') : iRng1 (tCons (tB X W f) tNil) σ H R := by
  unfold cnt at h
  split at h
  · rename_i j hf
    by_cases hz : -(2 ^ 62) ≤ j ∧ j < 2 ^ 62
    · rw [if_pos hz] at h
      cases h
      refine ⟨P, ε, E, ?_⟩
      rw [hf]
      intro v H' x r
      have e2 : v = V.int j := r
      exact ⟨j, by rw [e2], hz.1, hz.2, q H' x⟩
    · rw [if_neg hz] at h
      cases h
  · cases h
/-- the row's append -/
theorem due_app {y : Nat} {r : List Dt} {d : Dt} (N : Nst X.K X.mg F Pp σ H ε jd p as rows) (hy : ε[jy]? = some (.d (.int (y : Int)))) (hr : rows[y]? = some r) (hk : k ε = .ok d) (hl : r.length < sizeLine)
    (q : ∀ H', Nst X.K X.mg F Pp σ H' ε jd p as (rows.set y (r ++ [d])) → D.nx σ H') : tDrop (tBM X.K "list" rAppend (tOp (rIx X.K) (tVar jd) (tVar jy)) (tA X W (consF k nilF))) D σ H := by
  obtain ⟨v, s1, s2⟩ := N.e.sl jy _ hy
  cases (show v = V.int (y : Int) from s2)
  have hlt : y < as.length := by
    rw [N.ln]
    exact (List.getElem?_eq_some_iff.mp hr).1
  have ha : as[y]? = some as[y] := List.getElem?_eq_getElem hlt
  obtain ⟨vs, h1, rv⟩ := N.ra y _ r ha hr
  refine ⟨.ref p, slot_some N.v, .int (y : Int), slot_some s1, .inl ⟨p, as.map V.ref, (y : Int), .ref as[y], rfl, rfl, .of N.hp, atI_nat (by rw [List.getElem?_map, ha]; rfl), .inl ⟨rfl, vs, .of h1⟩, Pp, ε, N.e, ?_⟩⟩
  have e : consF k nilF ε = .ok [d] := by
    unfold consF
    rw [hk]
    rfl
  rw [e]
  intro ws H' x rr
  obtain ⟨w, rfl, r3⟩ := Reps.sing rr
  have N' := N.ext x
  exact ⟨as[y], vs, w, rfl, rfl, x.at_ h1 nt_lst, by rw [← rv.length]; exact hl, q _ (N'.app ha hr (x.at_ h1 nt_lst) (rv.ext x) r3)⟩
theorem due_in {f3 : Fn} {y q : Nat} {r r' : List Dt} {done rest : List (List Dt)} (hx : jx ≠ jd) (N : Nst X.K X.mg F Pp σ H ε jd p as (done ++ r :: rest)) (hd : done.length = y) (h3 : cnt f3 ε = some q) (h : dueX jx jy y k q 0 ε r = some (ε', r'))
    (qq : ∀ σ' H', Nst X.K X.mg F Pp σ' H' ε' jd p as (done ++ r' :: rest) → D.nx σ' H') :
    tFor (iRng1 (tCons (tB X W f3) tNil)) (gName jx) (tDrop (tBM X.K "list" rAppend (tOp (rIx X.K) (tVar jd) (tVar jy)) (tA X W (consF k nilF)))) D σ H := by
  refine rng_cnt N.e h3 fun H1 x => ?_
  refine ⟨fun j m σ H => m = q - j ∧ j ≤ q ∧ ∃ ε r, Nst X.K X.mg F Pp σ H ε jd p as (done ++ r :: rest) ∧ dueX jx jy y k (q - j) j ε r = some (ε', r'), ⟨q, rfl, Nat.zero_le _, ε, r, N.ext x, h⟩, ?_⟩
  rintro j m σ H ⟨rfl, hj, ε, r, N, h⟩
  by_cases hlt : j < q
  · have e : q - j = q - (j + 1) + 1 := by omega
    rw [e, dueX] at h
    refine .inr ⟨hlt, fun σ H => j + 1 ≤ q ∧ ∃ ε r, Nst X.K X.mg F Pp σ H ε jd p as (done ++ r :: rest) ∧ dueX jx jy y k (q - (j + 1)) (j + 1) ε r = some (ε', r'), fun σ' H' z => ⟨q - (j + 1), by omega, rfl, z⟩, fun v H' hv => ?_⟩
    obtain ⟨rfl, rfl⟩ := hv
    have N2 := N.set (i := jx) hx (d := .int (j : Int)) (v := .int (0 + (j : Int))) (by show V.int _ = V.int _; rw [Int.zero_add])
    split at h
    · rename_i z d hz hk
      by_cases hc : z = (y : Int) ∧ r.length < sizeLine
      · rw [if_pos hc] at h
        obtain ⟨rfl, hl⟩ := hc
        refine due_app N2 hz (r := r) (by rw [List.getElem?_append_right (Nat.le_of_eq hd), hd, Nat.sub_self]; rfl) hk hl fun H2 N3 => ⟨hlt, _, _, ?_, h⟩
        rw [List.set_append_right _ _ (Nat.le_of_eq hd), hd, Nat.sub_self] at N3
        exact N3
      · rw [if_neg hc] at h
        cases h
    · cases h
  · have e : j = q := by omega
    subst e
    rw [Nat.sub_self, dueX] at h
    cases h
    exact .inl ⟨Nat.le_refl _, qq _ _ N⟩
theorem due_out {f2 f3 : Fn} {n : Nat} {rows' : List (List Dt)} (hx : jx ≠ jd) (hy : jy ≠ jd) (N : Nst X.K X.mg F Pp σ H ε jd p as (List.replicate n [])) (h2 : cnt f2 ε = some n) (h : dueY jx jy f3 k n 0 ε [] = some (ε', rows'))
    (qq : ∀ σ' H', Nst X.K X.mg F Pp σ' H' ε' jd p as rows' → D.nx σ' H') :
    tFor (iRng1 (tCons (tB X W f2) tNil)) (gName jy) (tFor (iRng1 (tCons (tB X W f3) tNil)) (gName jx) (tDrop (tBM X.K "list" rAppend (tOp (rIx X.K) (tVar jd) (tVar jy)) (tA X W (consF k nilF))))) D σ H := by
  refine rng_cnt N.e h2 fun H1 x => ?_
  refine ⟨fun j m σ H => m = n - j ∧ j ≤ n ∧ ∃ ε done, done.length = j ∧ Nst X.K X.mg F Pp σ H ε jd p as (done ++ List.replicate (n - j) []) ∧ dueY jx jy f3 k (n - j) j ε done = some (ε', rows'), ⟨n, rfl, Nat.zero_le _, ε, [], rfl, N.ext x, h⟩, ?_⟩
  rintro j m σ H ⟨rfl, hj, ε, done, hd, N, h⟩
  by_cases hlt : j < n
  · have e : n - j = n - (j + 1) + 1 := by omega
    rw [e, dueY] at h
    rw [e, List.replicate_succ] at N
    refine .inr ⟨hlt, fun σ H => j + 1 ≤ n ∧ ∃ ε done, done.length = j + 1 ∧ Nst X.K X.mg F Pp σ H ε jd p as (done ++ List.replicate (n - (j + 1)) []) ∧ dueY jx jy f3 k (n - (j + 1)) (j + 1) ε done = some (ε', rows'), fun σ' H' z => ⟨n - (j + 1), by omega, rfl, z⟩, fun v H' hv => ?_⟩
    obtain ⟨rfl, rfl⟩ := hv
    have N2 := N.set (i := jy) hy (d := .int (j : Int)) (v := .int (0 + (j : Int))) (by show V.int _ = V.int _; rw [Int.zero_add])
    split at h
    · rename_i q hq
      split at h
      · rename_i ε2 r hr
        refine due_in hx N2 hd hq hr fun σ3 H3 N3 => ⟨hlt, ε2, done ++ [r], by rw [List.length_append, hd]; rfl, ?_, h⟩
        rw [List.append_assoc]
        exact N3
      · cases h
    · cases h
  · have e : j = n := by omega
    subst e
    rw [Nat.sub_self, dueY] at h
    cases h
    rw [Nat.sub_self] at N
    exact .inl ⟨Nat.le_refl _, qq _ _ (by simpa using N)⟩
/-- the new lists -/
theorem due_new {f1 : Fn} {n jz : Nat} {vs : List Nat} (hz : jz ∈ vs) (S : SOk X.K X.mg F σ H ε) (h1 : cnt f1 ε = some n) (hn : n < sizeLine) (hj : jd < ε.length)
    (qq : ∀ p as Pp H', Nst X.K X.mg F Pp (σ.set jd (some (.ref p))) H' (ε.set jd .u) jd p as (List.replicate n []) → D.nx (σ.set jd (some (.ref p))) H') :
    tAsg (tLc (iRng1 (tCons (tB X W f1) tNil)) (gName jz) tYes (tN X W0 (lsF nilF)) vs) (gName jd) D σ H := by
  unfold tAsg tLc
  refine rng_cnt S.e h1 fun H1 x => ?_
  intro D' hD
  have S1 := S.ext x
  refine ⟨fun i m H2 => m = n - i ∧ i ≤ n ∧ Ext H1 H2 ∧ ∃ as : List Addr, as.length = i ∧ H2 D' = some (.lst (as.map V.ref)) ∧ as.Nodup ∧ ∀ a ∈ as, Fresh H1 a ∧ a ≠ D' ∧ H2 a = some (.lst []),
    ⟨n, rfl, Nat.zero_le _, Ext.new hD, [], rfl, upd_same, List.nodup_nil, fun _ h => nomatch h⟩, ?_⟩
  rintro i m H2 ⟨rfl, hi, e2, as, la, hl, nd, ha⟩
  by_cases hlt : i < n
  · refine .inr ⟨hlt, fun H3 => i + 1 ≤ n ∧ Ext H1 H3 ∧ ∃ as : List Addr, as.length = i + 1 ∧ H3 D' = some (.lst (as.map V.ref)) ∧ as.Nodup ∧ ∀ a ∈ as, Fresh H1 a ∧ a ≠ D' ∧ H3 a = some (.lst []), fun H3 z => ⟨n - (i + 1), by omega, rfl, z⟩, fun v H3 y => ?_⟩
    obtain ⟨rfl, rfl⟩ := y
    refine ⟨wipe_same (js := [jz]) ⟨List.length_set, fun k hk => List.getElem?_set_ne (fun z => hk (by simp [z]))⟩ (fun j hj => by rw [List.mem_singleton.mp hj]; exact hz), ?_⟩
    unfold tYes
    show if true = true then tN X W0 (lsF nilF) _ H3 _ else (_ : Prop)
    rw [if_pos rfl]
    refine ⟨no, List.replicate ((wipe σ vs).set jz (some (.int (0 + (i : Int))))).length .u, ⟨List.length_replicate, fun _ h => h.elim, fun j l h => ?_, e2.tabs S1.e.tb⟩, ?_⟩
    · rw [List.getElem?_replicate] at h
      split at h
      · cases h; trivial
      · cases h
    · show ∀ p vs H', Ext H3 H' → Fresh H3 p → H' p = some (.lst vs) → Reps X.K X.mg H' (more no p) [] vs → _
      intro b ws H4 x4 fb hb rb
      cases (show ws = [] from rb)
      have hl4 := x4.at_ hl nt_lst
      have bD : D' ≠ b := fb.ne hl nt_lst
      refine ⟨as.map V.ref, hl4, by rw [List.length_map, la]; omega, hlt, Xt.putL (e2.trans x4) (.inl (.of hD)) hl4, as ++ [b], by rw [List.length_append, la]; rfl, ?_, ?_, fun a ham => ?_⟩
      · rw [upd_same, List.map_append]; rfl
      · refine List.nodup_append.mpr ⟨nd, List.nodup_cons.mpr ⟨fun h => (nomatch h), List.nodup_nil⟩, fun a h1 c h2 e => ?_⟩
        rw [List.mem_singleton.mp h2] at e
        exact fb.ne (ha a h1).2.2 nt_lst e
      · rcases List.mem_append.mp ham with h | h
        · obtain ⟨q1, q2, q3⟩ := ha a h
          exact ⟨q1, q2, by rw [upd_ne q2]; exact x4.at_ q3 nt_lst⟩
        · rw [List.mem_singleton.mp h]
          exact ⟨e2.fresh fb, bD.symm, by rw [upd_ne bD.symm]; exact hb⟩
  · have e : i = n := by omega
    subst e
    have npD : ¬ prv F σ ε D' := S1.e.ne (.of hD)
    have nas : ∀ a ∈ as, ¬ prv F σ ε a := fun a h => S1.e.ne (ha a h).1
    have own : ∀ a, ownA (σ.set jd (some (.ref D'))) (ε.set jd .u) a → ownA σ ε a := fun a ⟨j, l, q1, q2, q3⟩ => by
      by_cases hjj : jd = j
      · subst hjj
        rw [List.getElem?_set_self hj] at q1; cases q1; exact q2.elim
      · rw [List.getElem?_set_ne hjj] at q1 q3
        exact ⟨j, l, q1, q2, q3⟩
    have S2 : SOk X.K X.mg F σ H2 ε := S1.ext e2
    have SS : SOk X.K X.mg F (σ.set jd (some (.ref D'))) H2 (ε.set jd .u) := by
      refine S2.chg ⟨by rw [List.length_set, List.length_set]; exact S2.e.ln, S2.e.tk, fun j l h => ?_, S2.e.tb⟩ fun j l h o => ?_
      · by_cases hjj : jd = j
        · subst hjj
          rw [List.getElem?_set_self hj] at h; cases h; trivial
        · rw [List.getElem?_set_ne hjj] at h ⊢
          exact S2.e.sl j l h
      · by_cases hjj : jd = j
        · subst hjj
          rw [List.getElem?_set_self hj] at h; cases h; exact o.elim
        · rw [List.getElem?_set_ne hjj] at h ⊢
          exact ⟨h, rfl⟩
    have tr : Tr (prv F σ ε) (fun a => prv F (σ.set jd (some (.ref D'))) (ε.set jd .u) a ∨ a = D' ∨ a ∈ as) H1 H2 :=
      ⟨fun b o h n _ => e2.at_ h n, fun b o u h _ => e2.at_ h nt_frz, fun b xs h => e2.at_ h nt_tup, fun b o h n nb z => by
        rcases z with z | rfl | z
        · exact nb (z.imp_right (own b))
        · rw [hD] at h; cases h
        · exact (ha b z).1.ne h n rfl, fun b c q h => e2.at_ h LamX.codeO_ne⟩
    refine .inl ⟨Nat.le_refl _, qq D' as (fun a => prv F (σ.set jd (some (.ref D'))) (ε.set jd .u) a ∨ a = D' ∨ a ∈ as) H2 ⟨SS, ⟨SS.e.ln, fun a h => ?_, fun j l h => ?_, SS.e.tb⟩, fun a h => .inl h, ?_, hl, fun h => npD (h.imp_right (own _)), by rw [la, List.length_replicate], fun j a r q1 q2 => ?_, fun a h => .inr (.inr h), fun a h z => nas a h (z.imp_right (own _)), fun a h => (ha a h).2.1, fun a h => ?_, nd⟩⟩
    · rcases h with h | rfl | h
      · exact SS.e.tk a h
      · exact ⟨_, hl, nt_lst⟩
      · exact ⟨_, (ha a h).2.2, nt_lst⟩
    · by_cases hjj : jd = j
      · subst hjj
        rw [List.getElem?_set_self hj] at h; cases h; trivial
      · have h' := h
        rw [List.getElem?_set_ne hjj] at h
        have z := (S1.e.sl j l h).mv tr e2 fun o a q => .inl (.inr ⟨j, l, h', o, by rw [List.getElem?_set_ne hjj]; exact q⟩)
        rw [List.getElem?_set_ne hjj]
        exact z
    · rw [List.getElem?_set_self (by rw [← S.e.ln]; exact hj)]
      rfl
    · rw [List.getElem?_replicate] at q2
      split at q2
      · cases q2
        exact ⟨[], (ha a (List.mem_of_getElem? q1)).2.2, rfl⟩
      · cases q2
    · by_cases hm : F.M a
      · exact .inr hm
      · exact .inl (S1.x.fresh (ha a h).1 hm)
/-! the block -/
def dueB (jd jx jy : Nat) (f1 f2 f3 k : Fn) : Sg := fun ε => match dueS jd jx jy f1 f2 f3 k ε with
  | some ε' => .ok (.nx ε')
  | none => .bad
theorem dueB_some {f1 f2 f3 : Fn} {g : Sg} (q : SOut X F W D (seqS (dueB jd jx jy f1 f2 f3 k) g ε)) : ∃ n ε1 rows, cnt f1 ε = some n ∧ cnt f2 (ε.set jd .u) = some n ∧ n < sizeLine ∧ jd < ε.length ∧ dueY jx jy f3 k n 0 (ε.set jd .u) [] = some (ε1, rows) ∧
    SOut X F W D (g (ε1.set jd (.d (.lst (rows.map .lst))))) := by
  unfold seqS dueB at q
  cases h : dueS jd jx jy f1 f2 f3 k ε with
  | none => rw [h] at q; exact q.elim
  | some ε' =>
    rw [h] at q
    unfold dueS at h
    split at h
    · rename_i n m h1 h2
      by_cases hz : n = m ∧ n < sizeLine ∧ jd < ε.length
      · rw [if_pos hz] at h
        obtain ⟨rfl, hn, hj⟩ := hz
        split at h
        · rename_i ε1 rows hY
          cases h
          exact ⟨n, ε1, rows, h1, h2, hn, hj, hY, q⟩
        · cases h
      · rw [if_neg hz] at h
        cases h
    · cases h
theorem sd_due {f1 f2 f3 : Fn} {g : Sg} {jz : Nat} {due xn yn zn : Str} {e a1 a2 a3 : Expr} {sts : List Stmt} {scope : Scope} {own : List (Str × Nat)} {p1 p2 p3 p4 p5 p6 q1 q2 q3 q4 q5 q6 q7 r1 r2 r3 r4 r5 r6 r7 r8 : Pos}
    (hp : PassesOwn (model X.prog X.w) X.A X.env X.xe) (hc : X.calm = true) (hN : X.N.Nodup) (hm : X.mg "range" = none)
    (hsw : swapsWith (.ListComp (.List [] p1) [⟨.Name zn p2, .Call (.Name "range" p3) [a1] [] p4, [], 0⟩] scope p5) (some (.Name due p6)) q1.line X.env = pure true)
    (h1 : PB X W a1 f1) (h2 : PB X W a2 f2) (h3 : PB X W a3 f3) (he : PD X W e k) (ok : BlkOk X.N X.env.scope scope own)
    (hzb : ∀ (s : Shared) (H : Hp) (C : Addr) (cl : List (Str × Addr)) (fp : List Addr), PG (X.blk s H scope (compEnvC scope cl C X.env) fp) (.Name zn p2) (gName jz)) (hrest : SDs X W sts g)
    (hz : jz ∈ own.map (·.2) := by decide) (hjx : jx ≠ jd := by decide) (hjy : jy ≠ jd := by decide)
    (hd : X.N[jd]? = some due := by rfl) (hdl : X.env.scope.names.lookup due = some .local := by rfl) (hx : X.N[jx]? = some xn := by rfl) (hxl : X.env.scope.names.lookup xn = some .local := by rfl) (hy : X.N[jy]? = some yn := by rfl) (hyl : X.env.scope.names.lookup yn = some .local := by rfl)
    (hg : Gl X "range" := by rfl) (s1 : starEach [a1] X.env = [(false, eval a1 X.env)] := by rfl) (s2 : starEach [a2] X.env = [(false, eval a2 X.env)] := by rfl) (s3 : starEach [a3] X.env = [(false, eval a3 X.env)] := by rfl)
    (u1 : ∀ x, foldedSetIterable (.Call (.Name "range" p3) [a1] [] p4) X.env x = pure x := by intro _; rfl) (u2 : ∀ x, foldedSetIterable (.Call (.Name "range" q3) [a2] [] q4) X.env x = pure x := by intro _; rfl) (u3 : ∀ x, foldedSetIterable (.Call (.Name "range" q6) [a3] [] q7) X.env x = pure x := by intro _; rfl)
    (v1 : (due == ("__debug__" : Str)) = false := by decide) (v2 : (due == ("__classdict__" : Str)) = false := by decide) (v3 : (yn == ("__debug__" : Str)) = false := by decide) (v4 : (yn == ("__classdict__" : Str)) = false := by decide)
    (hbase : attributeBase (.Subscript (.Name due r1) (.Name yn r2) r3) "append" X.env (eval (.Subscript (.Name due r1) (.Name yn r2) r3) X.env) = eval (.Subscript (.Name due r1) (.Name yn r2) r3) X.env := by rfl)
    (hfew : ((backTo r5 (starEach (e :: []) X.env)).all (fun x => !x.1) && (backToKw r5 (keywordEach [] X.env)).all (fun x => x.1.isSome) && decide ((e :: ([] : List Expr)).length + ([] : List Keyword).length + (if ([] : List Keyword).isEmpty then 0 else 1) < 30)) = true := by rfl)
    (hline : (r4.endLine == r5.line) = true := by rfl) (hs : starEach (e :: []) X.env = (false, eval e X.env) :: starEach [] X.env := by rfl) (hplain : (backTo r5 (starEach [] X.env)).any (·.1) = false := by rfl)
    (hsw2 : swapsWith (.Call (.Attribute (.Subscript (.Name due r1) (.Name yn r2) r3) "append" r4) [e] [] r5) none r6.line X.env = pure false := by rfl) :
    SDs X W (.Assign [.Name due p6] (.ListComp (.List [] p1) [⟨.Name zn p2, .Call (.Name "range" p3) [a1] [] p4, [], 0⟩] scope p5) q1 ::
      .For (.Name yn q2) (.Call (.Name "range" q3) [a2] [] q4) [.For (.Name xn q5) (.Call (.Name "range" q6) [a3] [] q7) [.Expr (.Call (.Attribute (.Subscript (.Name due r1) (.Name yn r2) r3) "append" r4) [e] [] r5) r6] [] r7] [] r8 :: sts)
      (seqS (dueB jd jx jy f1 f2 f3 k) g) := fun F =>
  pss_weak (pss_cons (ps_setLc (g := gName jz) (tt := tYes) (te := tN X W0 (lsF nilF)) hc hN hd hdl hsw (pi_range1 hg hm (pa_cons h1 pa_nil s1) s1) ok hzb (fun _ _ _ _ _ => pts_nil) (fun _ _ _ _ _ => pn_lst (W := W0) ad_nil) u1)
    (pss_cons (ps_for hp hc (pi_range1 hg hm (pa_cons h2 pa_nil s2) s2) (pg_name hN hy (.inl hyl) (.inr hyl))
      (pss_one (ps_for hp hc (pi_range1 hg hm (pa_cons h3 pa_nil s3) s3) (pg_name hN hx (.inl hxl) (.inr hxl))
        (pss_one (ps_expr (pe_bm PySem.F.plainAttrs_list PySem.F.slot_list_append PySem.F.type_list_append mt_append (pe_ix ix_seq (pe_var (i := jd) hd (.inl hdl) v1 v2) (pe_var (i := jy) hy (.inl hyl) v3 v4) (fun _ _ => rfl)) (ad_cons he ad_nil hs) hbase hfew hline hs hplain) hsw2)) u3)) u2) (hrest F)))
    fun D σ H ⟨ε, S, q⟩ => by
      obtain ⟨n, ε1, rows, c1, c2, hn, hj, hY, qg⟩ := dueB_some q
      exact due_new hz S c1 hn hj fun p as Pp H' N => due_out hjx hjy N c2 hY fun σ' H'' N' => ⟨_, N'.done, qg⟩
end
end DL
end
section
set_option Elab.async false
set_option linter.all false
set_option maxRecDepth 100000
set_option autoImplicit false
namespace DL
noncomputable def g_l_cell : Sg := (seqS (ifS (tst (bin eqD (gb 0) (lstF (lsF nilF)))) (rtS (bin mulD (gb 1) (kc (.int 7919)))) (fun ε => .ok (.nx ε))) (rtS (bin addD (bin ixD (gb 0) (bin modD (gb 1) (un lenD (gb 0)))) (bin mulD (bin divD (gb 1) (un lenD (gb 0))) (kc (.int 104729))))))
noncomputable def F_l_cell : Fd := bodyF 2 g_l_cell
noncomputable def g_l_drawn : Sg := (seqS (stS 2 (bin modD (bin addD (bin mulD (gb 0) (kc (.int 6364136223846793005))) (bin mulD (bin addD (gb 1) (kc (.int 1))) (kc (.int 1442695040888963407)))) (kc (.int 340282366920938463463374607431768211507)))) (rtS (bin modD (bin mulD (gb 2) (gb 2)) (kc (.int 340282366920938463463374607431768211297)))))
noncomputable def F_l_drawn : Fd := bodyF 3 g_l_drawn
noncomputable def g_need_shape : Sg := (ifS (andT (tst (bin eqD (bin ixD (gb 0) (kc (.int 0))) (kc (.str "box")))) (tst (bin eqD (un lenD (gb 0)) (kc (.int 3))))) (ifS (notT (tst (un allD (lstF (lcF (rngF (kc (.int 3))) [1] (setN 1) yes (bin leD (bin ixD (bin ixD (gb 0) (kc (.int 1))) (gb 1)) (bin ixD (bin ixD (gb 0) (kc (.int 2))) (gb 1)))))))) (raS "NoShape") (fun ε => .ok (.nx ε))) (ifS (orT (tst (bin neD (bin ixD (gb 0) (kc (.int 0))) (kc (.str "triangle")))) (tst (bin neD (un lenD (gb 0)) (kc (.int 4))))) (raS "NoShape") (fun ε => .ok (.nx ε))))
noncomputable def F_need_shape : Fd := bodyF 2 g_need_shape
noncomputable def g_box_around : Sg := (seqS (stS 1 (un tupD (lstF (lcF (rngF (kc (.int 3))) [3] (setN 3) yes (un minD (lstF (lcF (iterF (gb 0)) [2] (setN 2) yes (bin ixD (gb 2) (gb 3))))))))) (rtS (tupF (consF (gv 1) (consF (un tupD (lstF (lcF (rngF (kc (.int 3))) [3] (setN 3) yes (un maxD (lstF (lcF (iterF (gb 0)) [2] (setN 2) yes (bin ixD (gb 2) (gb 3)))))))) nilF)))))
noncomputable def F_box_around : Fd := bodyF 4 g_box_around
noncomputable def g_bounds : Sg := (rtS (callF 1 F_box_around (consF (lstF (unN listD (slF (gb 0) (soP (kc (.int 1))) noP))) nilF)))
noncomputable def F_bounds : Fd := bodyF 1 g_bounds
noncomputable def g_widest : Sg := (seqS (stO 1 (lcF (rngF (kc (.int 3))) [2] (setN 2) yes (bin subD (bin ixD (bin ixD (gb 0) (kc (.int 1))) (gb 2)) (bin ixD (bin ixD (gb 0) (kc (.int 0))) (gb 2))))) (shS 1 (rtS (lmF idxD (gb 1) (un maxD (gb 1))))))
noncomputable def F_widest : Fd := bodyF 3 g_widest
noncomputable def g_Branch___init__ : Sg := (seqS (fldS 0 "Branch" "box" (gv 1)) (seqS (fldS 0 "Branch" "numbers" (gv 2)) (seqS (fldS 0 "Branch" "left" (gv 3)) (fldS 0 "Branch" "right" (gv 4)))))
noncomputable def I_Branch : Fi := initF "Branch" 5 g_Branch___init__
noncomputable def g_box_of_two : Sg := (rtS (callF 1 F_box_around (consF (lstF (lsF (consF (bin ixD (gb 0) (kc (.int 0))) (consF (bin ixD (gb 0) (kc (.int 1))) (consF (bin ixD (gb 1) (kc (.int 0))) (consF (bin ixD (gb 1) (kc (.int 1))) nilF)))))) nilF)))
noncomputable def F_box_of_two : Fd := bodyF 2 g_box_of_two
noncomputable def g_grown (Fr : Fd) : Sg := (seqS (stS 2 (bin ixD (gb 0) (bin ixD (gb 1) (kc (.int 0))))) (seqS (forS (iterF (gv 1)) (setN 3) (stS 2 (callF 2 F_box_of_two (consF (gv 2) (consF (bin ixD (gb 0) (gb 3)) nilF))))) (seqS (ifS (tst (bin leD (un lenD (gb 1)) (kc (.int 3)))) (rtS (makeF "Branch" 5 I_Branch (consF (gv 2) (consF (gv 1) (consF (kc .non) (consF (kc .non) nilF)))))) (fun ε => .ok (.nx ε))) (seqS (stS 4 (callF 1 F_widest (consF (gv 2) nilF))) (seqS (stS 5 (lstF (sortF 3 (gb 1) (tupF (consF (bin addI (bin ixP (bin ixP (bin ixP (gv 0) (gv 3)) (kc (.int 0))) (gv 4)) (bin ixP (bin ixP (bin ixP (gv 0) (gv 3)) (kc (.int 1))) (gv 4))) (consF (gv 3) nilF)))))) (seqS (stS 6 (bin divD (un lenD (gb 5)) (kc (.int 2)))) (rtS (makeF "Branch" 5 I_Branch (consF (gv 2) (consF (lstF (lsF nilF)) (consF (callF 2 Fr (consF (gv 0) (consF (slF (gb 5) noP (soP (gb 6))) nilF))) (consF (callF 2 Fr (consF (gv 0) (consF (slF (gb 5) (soP (gb 6)) noP) nilF))) nilF))))))))))))
noncomputable def FR_grown : Nat → Fd
  | 0 => fun _ => .bad
  | n + 1 => bodyF 7 (g_grown (FR_grown n))
noncomputable def F_grown : Fd := FR_grown 8
noncomputable def g_Scene___init__ : Sg := (seqS (forS (iterF (gv 1)) (setN 2) (xpS (callF 1 F_need_shape (consF (gv 2) nilF)))) (seqS (fldS 0 "Scene" "shapes" (lstF (unN listD (gb 1)))) (seqS (fldS 0 "Scene" "boxes" (lstF (lcF (iterF (gb 1)) [2] (setN 2) yes (callF 1 F_bounds (consF (gv 2) nilF))))) (seqS (fldS 0 "Scene" "root" (kc .non)) (ifS (tst (bin ne0D (un (fldD "Scene" "shapes") (gb 0)) (lstF (lsF nilF)))) (fldS 0 "Scene" "root" (callF 2 F_grown (consF (un (fldD "Scene" "boxes") (gb 0)) (consF (lstF (unN lrgD (un lenD (un (fldD "Scene" "shapes") (gb 0))))) nilF)))) (fun ε => .ok (.nx ε)))))))
noncomputable def I_Scene : Fi := initF "Scene" 3 g_Scene___init__
noncomputable def g_l_spot : Sg := (rtS (tupF (consF (bin subD (bin modD (gb 0) (kc (.int 9))) (kc (.int 4))) (consF (bin subD (bin modD (bin divD (gb 0) (kc (.int 9))) (kc (.int 9))) (kc (.int 4))) (consF (bin subD (bin modD (bin divD (gb 0) (kc (.int 81))) (kc (.int 9))) (kc (.int 4))) nilF)))))
noncomputable def F_l_spot : Fd := bodyF 1 g_l_spot
noncomputable def g_l_put : Sg := (seqS (ifS (tst (bin eqD (bin modD (gb 1) (kc (.int 3))) (kc (.int 0)))) (rtS (gv 0)) (fun ε => .ok (.nx ε))) (seqS (stS 2 (bin addD (kc (.int 1)) (bin modD (gb 1) (bin shlD (kc (.int 1)) (kc (.int 50)))))) (rtS (tupF (consF (bin addD (bin mulD (bin ixD (gb 0) (kc (.int 0))) (gb 2)) (bin modD (gb 1) (kc (.int 1000003)))) (consF (bin subD (bin mulD (bin ixD (gb 0) (kc (.int 1))) (gb 2)) (bin modD (gb 1) (kc (.int 997)))) (consF (bin addD (bin mulD (bin ixD (gb 0) (kc (.int 2))) (gb 2)) (kc (.int 5))) nilF)))))))
noncomputable def F_l_put : Fd := bodyF 3 g_l_put
noncomputable def g_l_ray_2 : Sg := (seqS (stS 2 (callF 2 F_l_drawn (consF (callF 2 F_l_cell (consF (gv 0) (consF (gv 1) nilF))) (consF (gv 1) nilF)))) (seqS (stS 3 (callF 1 F_l_spot (consF (gv 2) nilF))) (seqS (stS 4 (callF 1 F_l_spot (consF (bin divD (gb 2) (kc (.int 729))) nilF))) (seqS (ifS (orT (tst (bin eqD (bin modD (bin divD (gb 2) (kc (.int 531441))) (kc (.int 3))) (kc (.int 0)))) (tst (bin eqD (gb 4) (tupF (consF (kc (.int 0)) (consF (kc (.int 0)) (consF (kc (.int 0)) nilF))))))) (stS 4 (bin ixD (lstF (lsF (consF (tupF (consF (kc (.int 1)) (consF (kc (.int 0)) (consF (kc (.int 0)) nilF)))) (consF (tupF (consF (kc (.int 0)) (consF (bin subD (kc (.int 0)) (kc (.int 2))) (consF (kc (.int 0)) nilF)))) (consF (tupF (consF (kc (.int 0)) (consF (kc (.int 0)) (consF (kc (.int 3)) nilF)))) (consF (tupF (consF (kc (.int 1)) (consF (kc (.int 1)) (consF (kc (.int 0)) nilF)))) (consF (tupF (consF (kc (.int 0)) (consF (kc (.int 1)) (consF (bin subD (kc (.int 0)) (kc (.int 1))) nilF)))) (consF (tupF (consF (bin subD (kc (.int 0)) (kc (.int 1))) (consF (kc (.int 0)) (consF (kc (.int 0)) nilF)))) nilF)))))))) (bin modD (bin divD (gb 2) (kc (.int 1594323))) (kc (.int 6))))) (fun ε => .ok (.nx ε))) (seqS (stS 5 (bin modD (bin divD (gb 2) (kc (.int 9565938))) (kc (.int 4)))) (seqS (stS 3 (un tupD (lstF (lcF (rngF (kc (.int 3))) [6] (setN 6) yes (bin subD (bin ixD (gb 3) (gb 6)) (bin mulD (gb 5) (bin ixD (gb 4) (gb 6)))))))) (rtS (tupF (consF (callF 2 F_l_put (consF (gv 3) (consF (callF 2 F_l_cell (consF (gv 0) (consF (kc (.int 0)) nilF))) nilF))) (consF (gv 4) nilF))))))))))
noncomputable def F_l_ray_2 : Fd := bodyF 7 g_l_ray_2
noncomputable def g_l_far : Sg := (seqS (ifS (tst (bin eqD (bin modD (gb 1) (kc (.int 3))) (kc (.int 0)))) (rtS (gv 0)) (fun ε => .ok (.nx ε))) (rtS (un tupD (lstF (lcF (iterF (gb 0)) [2] (setN 2) yes (bin mulD (gb 2) (bin addD (kc (.int 1)) (bin modD (gb 1) (bin shlD (kc (.int 1)) (kc (.int 50)))))))))))
noncomputable def F_l_far : Fd := bodyF 3 g_l_far
noncomputable def g_need_ray : Sg := (ifS (tst (bin eqD (bin ixD (gb 0) (kc (.int 1))) (kc (.tup [.int 0, .int 0, .int 0])))) (raS "NoRay") (fun ε => .ok (.nx ε)))
noncomputable def F_need_ray : Fd := bodyF 1 g_need_ray
noncomputable def g_is_less : Sg := (rtS (bin ltD (bin mulD (bin ixD (gb 0) (kc (.int 0))) (bin ixD (gb 1) (kc (.int 1)))) (bin mulD (bin ixD (gb 1) (kc (.int 0))) (bin ixD (gb 0) (kc (.int 1))))))
noncomputable def F_is_less : Fd := bodyF 2 g_is_less
noncomputable def g_ratio : Sg := (seqS (stS 2 (un absD (gb 0))) (seqS (stS 3 (un absD (gb 1))) (seqS (whS (tst (bin neD (gb 3) (kc (.int 0)))) (prS 2 3 (consF (gv 3) (consF (bin modD (gb 2) (gb 3)) nilF)))) (seqS (ifS (tst (bin ltD (gb 1) (kc (.int 0)))) (stS 2 (bin subD (kc (.int 0)) (gb 2))) (fun ε => .ok (.nx ε))) (rtS (tupF (consF (bin divD (gb 0) (gb 2)) (consF (bin divD (gb 1) (gb 2)) nilF))))))))
noncomputable def F_ratio : Fd := bodyF 4 g_ratio
noncomputable def g_times_in : Sg := (seqS (ifS (tst (bin eqD (gb 1) (kc (.int 0)))) (seqS (ifS (andT (tst (bin leD (gb 2) (gb 0))) (tst (bin leD (gb 0) (gb 3)))) (rtS (tupF (consF (kc .non) (consF (kc .non) nilF)))) (fun ε => .ok (.nx ε))) (rtS (kc (.bl false)))) (fun ε => .ok (.nx ε))) (seqS (stS 4 (tupF (consF (callF 2 F_ratio (consF (bin subD (gb 2) (gb 0)) (consF (gv 1) nilF))) (consF (callF 2 F_ratio (consF (bin subD (gb 3) (gb 0)) (consF (gv 1) nilF))) nilF)))) (seqS (ifS (tst (callF 2 F_is_less (consF (bin ixD (gb 4) (kc (.int 1))) (consF (bin ixD (gb 4) (kc (.int 0))) nilF)))) (rtS (tupF (consF (bin ixD (gb 4) (kc (.int 1))) (consF (bin ixD (gb 4) (kc (.int 0))) nilF)))) (fun ε => .ok (.nx ε))) (rtS (gv 4)))))
noncomputable def F_times_in : Fd := bodyF 5 g_times_in
noncomputable def g_stay_in : Sg := (seqS (stS 2 (tupF (consF (kc (.int 0)) (consF (kc (.int 1)) nilF)))) (seqS (stS 3 (kc .non)) (seqS (forS (rngF (kc (.int 3))) (setN 4) (seqS (stS 5 (callF 4 F_times_in (consF (bin ixD (bin ixD (gb 0) (kc (.int 0))) (gb 4)) (consF (bin ixD (bin ixD (gb 0) (kc (.int 1))) (gb 4)) (consF (bin ixD (bin ixD (gb 1) (kc (.int 0))) (gb 4)) (consF (bin ixD (bin ixD (gb 1) (kc (.int 1))) (gb 4)) nilF)))))) (seqS (ifS (tst (bin isBD (gb 5) (kc (.bl false)))) (rtS (kc .non)) (fun ε => .ok (.nx ε))) (ifS (tst (bin notND (bin ixD (gb 5) (kc (.int 0))) (kc .non))) (seqS (ifS (tst (callF 2 F_is_less (consF (gv 2) (consF (bin ixD (gb 5) (kc (.int 0))) nilF)))) (stS 2 (bin ixD (gb 5) (kc (.int 0)))) (fun ε => .ok (.nx ε))) (ifS (orT (tst (bin isND (gb 3) (kc .non))) (tst (callF 2 F_is_less (consF (bin ixD (gb 5) (kc (.int 1))) (consF (gv 3) nilF))))) (stS 3 (bin ixD (gb 5) (kc (.int 1)))) (fun ε => .ok (.nx ε)))) (fun ε => .ok (.nx ε)))))) (seqS (ifS (andT (tst (bin notND (gb 3) (kc .non))) (tst (callF 2 F_is_less (consF (gv 3) (consF (gv 2) nilF))))) (rtS (kc .non)) (fun ε => .ok (.nx ε))) (rtS (tupF (consF (gv 2) (consF (gv 3) nilF))))))))
noncomputable def F_stay_in : Fd := bodyF 6 g_stay_in
noncomputable def g_meets_box : Sg := (seqS (stS 2 (callF 2 F_stay_in (consF (gv 0) (consF (gv 1) nilF)))) (seqS (ifS (tst (bin isND (gb 2) (kc .non))) (rtS (kc .non)) (fun ε => .ok (.nx ε))) (rtS (bin ixD (gb 2) (kc (.int 0))))))
noncomputable def F_meets_box : Fd := bodyF 3 g_meets_box
noncomputable def g_cross : Sg := (rtS (tupF (consF (bin subD (bin mulD (bin ixD (gb 0) (kc (.int 1))) (bin ixD (gb 1) (kc (.int 2)))) (bin mulD (bin ixD (gb 0) (kc (.int 2))) (bin ixD (gb 1) (kc (.int 1))))) (consF (bin subD (bin mulD (bin ixD (gb 0) (kc (.int 2))) (bin ixD (gb 1) (kc (.int 0)))) (bin mulD (bin ixD (gb 0) (kc (.int 0))) (bin ixD (gb 1) (kc (.int 2))))) (consF (bin subD (bin mulD (bin ixD (gb 0) (kc (.int 0))) (bin ixD (gb 1) (kc (.int 1)))) (bin mulD (bin ixD (gb 0) (kc (.int 1))) (bin ixD (gb 1) (kc (.int 0))))) nilF)))))
noncomputable def F_cross : Fd := bodyF 2 g_cross
noncomputable def g_dot : Sg := (rtS (bin addD (bin addD (bin mulD (bin ixD (gb 0) (kc (.int 0))) (bin ixD (gb 1) (kc (.int 0)))) (bin mulD (bin ixD (gb 0) (kc (.int 1))) (bin ixD (gb 1) (kc (.int 1))))) (bin mulD (bin ixD (gb 0) (kc (.int 2))) (bin ixD (gb 1) (kc (.int 2))))))
noncomputable def F_dot : Fd := bodyF 2 g_dot
noncomputable def g_sign : Sg := (rtS (bin subD (un intD (bin gtD (gb 0) (kc (.int 0)))) (un intD (bin ltD (gb 0) (kc (.int 0))))))
noncomputable def F_sign : Fd := bodyF 1 g_sign
noncomputable def g_minus : Sg := (rtS (tupF (consF (bin subD (bin ixD (gb 0) (kc (.int 0))) (bin ixD (gb 1) (kc (.int 0)))) (consF (bin subD (bin ixD (gb 0) (kc (.int 1))) (bin ixD (gb 1) (kc (.int 1)))) (consF (bin subD (bin ixD (gb 0) (kc (.int 2))) (bin ixD (gb 1) (kc (.int 2)))) nilF)))))
noncomputable def F_minus : Fd := bodyF 2 g_minus
noncomputable def g_turn : Sg := (rtS (callF 1 F_sign (consF (callF 2 F_dot (consF (callF 2 F_cross (consF (callF 2 F_minus (consF (gv 1) (consF (gv 0) nilF))) (consF (callF 2 F_minus (consF (gv 2) (consF (gv 0) nilF))) nilF))) (consF (gv 3) nilF))) nilF)))
noncomputable def F_turn : Fd := bodyF 4 g_turn
noncomputable def g_is_within : Sg := (seqS (asS (gv 2) (setT 2 (setCons (setN 3) (setCons (setN 4) setNil)))) (seqS (asS (lstF (lcF (iterF (gb 0)) [8] (setN 8) yes (tupF (consF (bin mulD (bin ixD (gb 8) (kc (.int 0))) (gb 4)) (consF (bin mulD (bin ixD (gb 8) (kc (.int 1))) (gb 4)) (consF (bin mulD (bin ixD (gb 8) (kc (.int 2))) (gb 4)) nilF)))))) (setT 3 (setCons (setN 5) (setCons (setN 6) (setCons (setN 7) setNil))))) (seqS (stS 9 (lstF (lsF (consF (callF 4 F_turn (consF (gv 5) (consF (gv 6) (consF (gv 3) (consF (gv 1) nilF))))) (consF (callF 4 F_turn (consF (gv 6) (consF (gv 7) (consF (gv 3) (consF (gv 1) nilF))))) (consF (callF 4 F_turn (consF (gv 7) (consF (gv 5) (consF (gv 3) (consF (gv 1) nilF))))) nilF)))))) (rtS (notV (andV (bin inD (kc (.int 1)) (gb 9)) (bin inD (un negD (kc (.int 1))) (gb 9))))))))
noncomputable def F_is_within : Fd := bodyF 10 g_is_within
noncomputable def g_lesser : Sg := (seqS (ifS (orT (tst (bin isND (gb 0) (kc .non))) (andT (tst (bin notND (gb 1) (kc .non))) (tst (callF 2 F_is_less (consF (gv 1) (consF (gv 0) nilF)))))) (rtS (gv 1)) (fun ε => .ok (.nx ε))) (rtS (gv 0)))
noncomputable def F_lesser : Fd := bodyF 2 g_lesser
noncomputable def g_along : Sg := (seqS (stS 2 (callF 2 F_dot (consF (callF 2 F_minus (consF (gv 1) (consF (bin ixD (gb 0) (kc (.int 0))) nilF))) (consF (bin ixD (gb 0) (kc (.int 1))) nilF)))) (seqS (ifS (tst (bin ltD (gb 2) (kc (.int 0)))) (rtS (kc .non)) (fun ε => .ok (.nx ε))) (rtS (callF 2 F_ratio (consF (gv 2) (consF (callF 2 F_dot (consF (bin ixD (gb 0) (kc (.int 1))) (consF (bin ixD (gb 0) (kc (.int 1))) nilF))) nilF))))))
noncomputable def F_along : Fd := bodyF 3 g_along
noncomputable def g_on_line : Sg := (seqS (stS 3 (callF 2 F_along (consF (gv 0) (consF (gv 1) nilF)))) (seqS (stS 4 (callF 2 F_along (consF (gv 0) (consF (gv 2) nilF)))) (seqS (ifS (andT (tst (bin isND (gb 3) (kc .non))) (tst (bin isND (gb 4) (kc .non)))) (rtS (kc .non)) (fun ε => .ok (.nx ε))) (seqS (ifS (orT (tst (bin isND (gb 3) (kc .non))) (tst (bin isND (gb 4) (kc .non)))) (rtS (tupF (consF (kc (.int 0)) (consF (kc (.int 1)) nilF)))) (fun ε => .ok (.nx ε))) (rtS (callF 2 F_lesser (consF (gv 3) (consF (gv 4) nilF))))))))
noncomputable def F_on_line : Fd := bodyF 5 g_on_line
noncomputable def g_meets_segment : Sg := (seqS (asS (gv 0) (setT 2 (setCons (setN 3) (setCons (setN 4) setNil)))) (seqS (stS 5 (callF 2 F_minus (consF (gv 2) (consF (gv 1) nilF)))) (seqS (stS 6 (callF 2 F_minus (consF (gv 1) (consF (gv 3) nilF)))) (seqS (stS 7 (callF 2 F_cross (consF (gv 4) (consF (gv 5) nilF)))) (seqS (ifS (tst (bin eqD (gb 7) (kc (.tup [.int 0, .int 0, .int 0])))) (seqS (ifS (tst (bin neD (callF 2 F_cross (consF (gv 6) (consF (gv 4) nilF))) (kc (.tup [.int 0, .int 0, .int 0])))) (rtS (kc .non)) (fun ε => .ok (.nx ε))) (rtS (callF 3 F_on_line (consF (gv 0) (consF (gv 1) (consF (gv 2) nilF)))))) (fun ε => .ok (.nx ε))) (seqS (ifS (tst (bin neD (callF 2 F_dot (consF (gv 6) (consF (gv 7) nilF))) (kc (.int 0)))) (rtS (kc .non)) (fun ε => .ok (.nx ε))) (seqS (stS 8 (callF 2 F_dot (consF (gv 7) (consF (gv 7) nilF)))) (seqS (stS 9 (callF 2 F_dot (consF (callF 2 F_cross (consF (gv 6) (consF (gv 5) nilF))) (consF (gv 7) nilF)))) (seqS (stS 10 (callF 2 F_dot (consF (callF 2 F_cross (consF (gv 6) (consF (gv 4) nilF))) (consF (gv 7) nilF)))) (seqS (ifS (orT (tst (bin ltD (gb 9) (kc (.int 0)))) (orT (tst (bin ltD (gb 10) (kc (.int 0)))) (tst (bin gtD (gb 10) (gb 8))))) (rtS (kc .non)) (fun ε => .ok (.nx ε))) (rtS (callF 2 F_ratio (consF (gv 9) (consF (gv 8) nilF))))))))))))))
noncomputable def F_meets_segment : Fd := bodyF 11 g_meets_segment
noncomputable def g_meets_flat : Sg := (seqS (asS (gv 1) (setT 3 (setCons (setN 2) (setCons (setN 3) (setCons (setN 4) setNil))))) (seqS (stS 5 (callF 2 F_lesser (consF (callF 3 F_meets_segment (consF (gv 0) (consF (gv 2) (consF (gv 3) nilF)))) (consF (callF 3 F_meets_segment (consF (gv 0) (consF (gv 3) (consF (gv 4) nilF)))) nilF)))) (rtS (callF 2 F_lesser (consF (gv 5) (consF (callF 3 F_meets_segment (consF (gv 0) (consF (gv 4) (consF (gv 2) nilF)))) nilF))))))
noncomputable def F_meets_flat : Fd := bodyF 6 g_meets_flat
noncomputable def g_meets_triangle : Sg := (seqS (asS (gv 0) (setT 2 (setCons (setN 2) (setCons (setN 3) setNil)))) (seqS (asS (gv 1) (setT 3 (setCons (setN 4) (setCons (setN 5) (setCons (setN 6) setNil))))) (seqS (stS 7 (callF 2 F_cross (consF (callF 2 F_minus (consF (gv 5) (consF (gv 4) nilF))) (consF (callF 2 F_minus (consF (gv 6) (consF (gv 4) nilF))) nilF)))) (seqS (ifS (tst (bin eqD (gb 7) (kc (.tup [.int 0, .int 0, .int 0])))) (rtS (callF 2 F_meets_flat (consF (gv 0) (consF (gv 1) nilF)))) (fun ε => .ok (.nx ε))) (seqS (stS 8 (callF 2 F_dot (consF (gv 7) (consF (gv 3) nilF)))) (seqS (stS 9 (callF 2 F_dot (consF (gv 7) (consF (callF 2 F_minus (consF (gv 4) (consF (gv 2) nilF))) nilF)))) (seqS (ifS (tst (bin eqD (gb 8) (kc (.int 0)))) (seqS (ifS (tst (bin neD (gb 9) (kc (.int 0)))) (rtS (kc .non)) (fun ε => .ok (.nx ε))) (seqS (ifS (tst (callF 3 F_is_within (consF (gv 1) (consF (gv 7) (consF (tupF (consF (gv 2) (consF (kc (.int 1)) nilF))) nilF))))) (rtS (tupF (consF (kc (.int 0)) (consF (kc (.int 1)) nilF)))) (fun ε => .ok (.nx ε))) (rtS (callF 2 F_meets_flat (consF (gv 0) (consF (gv 1) nilF)))))) (fun ε => .ok (.nx ε))) (seqS (stS 10 (callF 2 F_ratio (consF (gv 9) (consF (gv 8) nilF)))) (seqS (ifS (tst (callF 2 F_is_less (consF (gv 10) (consF (tupF (consF (kc (.int 0)) (consF (kc (.int 1)) nilF))) nilF)))) (rtS (kc .non)) (fun ε => .ok (.nx ε))) (seqS (stS 11 (un tupD (lstF (lcF (rngF (kc (.int 3))) [12] (setN 12) yes (bin addD (bin mulD (bin ixD (gb 2) (gb 12)) (bin ixD (gb 10) (kc (.int 1)))) (bin mulD (bin ixD (gb 3) (gb 12)) (bin ixD (gb 10) (kc (.int 0))))))))) (seqS (ifS (tst (callF 3 F_is_within (consF (gv 1) (consF (gv 7) (consF (tupF (consF (gv 11) (consF (bin ixD (gb 10) (kc (.int 1))) nilF))) nilF))))) (rtS (gv 10)) (fun ε => .ok (.nx ε))) (rtS (kc .non)))))))))))))
noncomputable def F_meets_triangle : Fd := bodyF 13 g_meets_triangle
noncomputable def g_meets : Sg := (seqS (xpS (callF 1 F_need_ray (consF (gv 0) nilF))) (seqS (xpS (callF 1 F_need_shape (consF (gv 1) nilF))) (seqS (ifS (tst (bin eqD (bin ixD (gb 1) (kc (.int 0))) (kc (.str "box")))) (rtS (callF 2 F_meets_box (consF (gv 0) (consF (tupF (consF (bin ixD (gb 1) (kc (.int 1))) (consF (bin ixD (gb 1) (kc (.int 2))) nilF))) nilF)))) (fun ε => .ok (.nx ε))) (rtS (callF 2 F_meets_triangle (consF (gv 0) (consF (slF (gb 1) (soP (kc (.int 1))) noP) nilF)))))))
noncomputable def F_meets : Fd := bodyF 2 g_meets
noncomputable def g_Scene_better : Sg := (seqS (forS (iterF (un (fldD "Branch" "numbers") (gb 2))) (setN 4) (seqS (stS 5 (callF 2 F_meets (consF (gv 1) (consF (bin ixD (un (fldD "Scene" "shapes") (gb 0)) (gb 4)) nilF)))) (ifS (tst (bin notND (gb 5) (kc .non))) (ifS (orT (tst (bin isND (gb 3) (kc .non))) (orT (tst (callF 2 F_is_less (consF (gv 5) (consF (bin ixD (gb 3) (kc (.int 0))) nilF)))) (andT (tst (bin eqD (gb 5) (bin ixD (gb 3) (kc (.int 0))))) (tst (bin ltD (gb 4) (bin ixD (gb 3) (kc (.int 1)))))))) (stS 3 (tupF (consF (gv 5) (consF (gv 4) nilF)))) (fun ε => .ok (.nx ε))) (fun ε => .ok (.nx ε))))) (rtS (gv 3)))
noncomputable def F_Scene_better : Fd := bodyF 6 g_Scene_better
noncomputable def g_Scene_nearer_last : Sg := (seqS (stS 3 (callF 2 F_meets_box (consF (gv 1) (consF (un (fldD "Branch" "box") (un (fldD "Branch" "left") (gb 2))) nilF)))) (seqS (stS 4 (callF 2 F_meets_box (consF (gv 1) (consF (un (fldD "Branch" "box") (un (fldD "Branch" "right") (gb 2))) nilF)))) (seqS (ifS (andT (tst (bin notND (gb 3) (kc .non))) (orT (tst (bin isND (gb 4) (kc .non))) (tst (callF 2 F_is_less (consF (gv 3) (consF (gv 4) nilF)))))) (rtS (lstF (lsF (consF (un (fldD "Branch" "right") (gb 2)) (consF (un (fldD "Branch" "left") (gb 2)) nilF))))) (fun ε => .ok (.nx ε))) (rtS (lstF (lsF (consF (un (fldD "Branch" "left") (gb 2)) (consF (un (fldD "Branch" "right") (gb 2)) nilF))))))))
noncomputable def F_Scene_nearer_last : Fd := bodyF 5 g_Scene_nearer_last
noncomputable def g_Scene_first : Sg := (seqS (xpS (callF 1 F_need_ray (consF (gv 1) nilF))) (seqS (stS 2 (kc .non)) (seqS (stO 3 (binN repD (lstF (lsF (consF (un (fldD "Scene" "root") (gb 0)) nilF))) (un intD (bin notND (un (fldD "Scene" "root") (gb 0)) (kc .non))))) (seqS (whS (tst (bin ne0D (gb 3) (lstF (lsF nilF)))) (seqS (popVS 3 4) (seqS (stS 5 (callF 2 F_meets_box (consF (gv 1) (consF (un (fldD "Branch" "box") (gb 4)) nilF)))) (seqS (ifS (orT (tst (bin isND (gb 5) (kc .non))) (andT (tst (bin notND (gb 2) (kc .non))) (tst (callF 2 F_is_less (consF (bin ixD (gb 2) (kc (.int 0))) (consF (gv 5) nilF)))))) (fun ε => .ok (.ct ε)) (fun ε => .ok (.nx ε))) (seqS (stS 2 (methF "Scene" "better" 4 F_Scene_better (gv 0) (consF (gv 1) (consF (gv 4) (consF (gv 2) nilF))))) (ifS (tst (bin notND (un (fldD "Branch" "left") (gb 4)) (kc .non))) (extS 3 (methF "Scene" "nearer_last" 3 F_Scene_nearer_last (gv 0) (consF (gv 1) (consF (gv 4) nilF)))) (fun ε => .ok (.nx ε)))))))) (rtS (gv 2))))))
noncomputable def F_Scene_first : Fd := bodyF 6 g_Scene_first
noncomputable def g_moved : Sg := (rtS (tupF (consF (bin addD (bin ixD (gb 0) (kc (.int 0))) (bin mulD (gb 2) (bin ixD (gb 1) (kc (.int 0))))) (consF (bin addD (bin ixD (gb 0) (kc (.int 1))) (bin mulD (gb 2) (bin ixD (gb 1) (kc (.int 1))))) (consF (bin addD (bin ixD (gb 0) (kc (.int 2))) (bin mulD (gb 2) (bin ixD (gb 1) (kc (.int 2))))) nilF)))))
noncomputable def F_moved : Fd := bodyF 3 g_moved
noncomputable def g_seen : Sg := (seqS (asS (gv 1) (setT 4 (setCons (setN 4) (setCons (setN 5) (setCons (setN 6) (setCons (setN 7) setNil)))))) (seqS (stO 8 (lsF nilF)) (seqS (forS (rngF (gb 3)) (setN 9) (seqS (stO 10 (lsF nilF)) (seqS (forS (rngF (gb 2)) (setN 11) (seqS (stS 12 (methF "Scene" "first" 2 F_Scene_first (gv 0) (consF (tupF (consF (callF 3 F_moved (consF (callF 3 F_moved (consF (gv 4) (consF (gv 5) (consF (gv 11) nilF)))) (consF (gv 6) (consF (gv 9) nilF)))) (consF (gv 7) nilF))) nilF))) (ifS (tst (bin isND (gb 12) (kc .non))) (appS 10 (un negD (kc (.int 1)))) (appS 10 (bin ixD (gb 12) (kc (.int 1))))))) (shS 10 (appS 8 (gv 10)))))) (roV 8))))
noncomputable def F_seen : Fd := bodyF 13 g_seen
noncomputable def g_l_row : Sg := (seqS (stS 2 (callF 2 F_l_cell (consF (gv 0) (consF (gv 1) nilF)))) (rtS (lstF (lcF (rngF (bin modD (bin divD (callF 2 F_l_drawn (consF (gv 2) (consF (gv 1) nilF))) (kc (.int 201))) (kc (.int 5)))) [3] (setN 3) yes (bin subD (bin modD (callF 2 F_l_drawn (consF (gv 2) (consF (bin addD (gb 1) (gb 3)) nilF))) (kc (.int 201))) (kc (.int 1)))))))
noncomputable def F_l_row : Fd := bodyF 4 g_l_row
noncomputable def g_l_plain : Sg := (seqS (stS 2 (bin subD (gb 1) (bin mulD (bin modD (gb 1) (kc (.int 3))) (bin modD (callF 2 F_l_cell (consF (gv 0) (consF (kc (.int 0)) nilF))) (kc (.int 2)))))) (seqS (stS 3 (callF 2 F_l_drawn (consF (callF 2 F_l_cell (consF (gv 0) (consF (bin addD (gb 2) (kc (.int 1))) nilF))) (consF (gv 2) nilF)))) (seqS (stS 4 (callF 1 F_l_spot (consF (gv 3) nilF))) (seqS (ifS (tst (bin eqD (bin modD (bin divD (gb 3) (kc (.int 729))) (kc (.int 2))) (kc (.int 0)))) (seqS (stS 5 (callF 1 F_l_spot (consF (bin divD (gb 3) (kc (.int 1458))) nilF))) (rtS (tupF (consF (kc (.str "box")) (consF (gv 4) (consF (tupF (consF (bin addD (bin ixD (gb 4) (kc (.int 0))) (un absD (bin ixD (gb 5) (kc (.int 0))))) (consF (bin addD (bin ixD (gb 4) (kc (.int 1))) (bin divD (un absD (bin ixD (gb 5) (kc (.int 1)))) (kc (.int 2)))) (consF (bin addD (bin ixD (gb 4) (kc (.int 2))) (bin modD (un absD (bin ixD (gb 5) (kc (.int 2)))) (kc (.int 3)))) nilF)))) nilF)))))) (fun ε => .ok (.nx ε))) (rtS (tupF (consF (kc (.str "triangle")) (consF (gv 4) (consF (callF 1 F_l_spot (consF (bin divD (gb 3) (kc (.int 1458))) nilF)) (consF (callF 1 F_l_spot (consF (bin divD (gb 3) (kc (.int 1062882))) nilF)) nilF))))))))))
noncomputable def F_l_plain : Fd := bodyF 6 g_l_plain
noncomputable def g_l_shape : Sg := (seqS (stS 2 (callF 2 F_l_plain (consF (gv 0) (consF (gv 1) nilF)))) (rtS (bin addD (tupF (consF (bin ixD (gb 2) (kc (.int 0))) nilF)) (un tupD (lstF (lcF (iterF (slF (gb 2) (soP (kc (.int 1))) noP)) [3] (setN 3) yes (callF 2 F_l_put (consF (gv 3) (consF (callF 2 F_l_cell (consF (gv 0) (consF (kc (.int 0)) nilF))) nilF)))))))))
noncomputable def F_l_shape : Fd := bodyF 4 g_l_shape
noncomputable def g_drawn : Sg := (seqS (stO 1 (lsF nilF)) (seqS (forS (iterF (gv 0)) (setN 2) (seqS (stS 3 (kc (.str ""))) (seqS (forS (iterF (gv 2)) (setN 4) (ifS (tst (bin ltD (gb 4) (kc (.int 0)))) (stS 3 (bin addD (gb 3) (kc (.str ".")))) (stS 3 (bin addD (gb 3) (bin ixD (kc (.str "0123456789abcdefghijklmnopqrstuvwxyz")) (bin modD (gb 4) (un lenD (kc (.str "0123456789abcdefghijklmnopqrstuvwxyz"))))))))) (appS 1 (gv 3))))) (rtS (joinF (kc (.str "\n")) (gb 1)))))
noncomputable def F_drawn : Fd := bodyF 5 g_drawn
noncomputable def g_l_text : Sg := (seqS (stS 1 (kc (.str ""))) (seqS (stS 2 (kc (.str "0123456789abcdefghijklmnopqrstuvwxyz"))) (seqS (forS (rngF (un lenD (gb 0))) (setN 3) (seqS (ifS (tst (bin gtD (gb 3) (kc (.int 0)))) (stS 1 (bin addD (gb 1) (kc (.str "\n")))) (fun ε => .ok (.nx ε))) (forS (iterF (bin ixD (gb 0) (gb 3))) (setN 4) (ifS (tst (bin eqD (gb 4) (bin subD (kc (.int 0)) (kc (.int 1))))) (stS 1 (bin addD (gb 1) (kc (.str ".")))) (stS 1 (bin addD (gb 1) (bin ixD (gb 2) (bin subD (gb 4) (bin mulD (bin divD (gb 4) (kc (.int 36))) (kc (.int 36))))))))))) (rtS (gv 1)))))
noncomputable def F_l_text : Fd := bodyF 5 g_l_text
noncomputable def g_l_seen : Sg := (seqS (asS (gv 1) (setT 4 (setCons (setN 4) (setCons (setN 5) (setCons (setN 6) (setCons (setN 7) setNil)))))) (seqS (stS 8 (un tupD (lstF (lcF (rngF (kc (.int 3))) [9] (setN 9) yes (bin addD (bin addD (bin ixD (gb 4) (gb 9)) (bin mulD (gb 2) (bin ixD (gb 5) (gb 9)))) (bin mulD (gb 3) (bin ixD (gb 6) (gb 9)))))))) (seqS (stS 10 (methF "Scene" "first" 2 F_Scene_first (gv 0) (consF (tupF (consF (gv 8) (consF (gv 7) nilF))) nilF))) (seqS (ifS (tst (bin isND (gb 10) (kc .non))) (rtS (bin subD (kc (.int 0)) (kc (.int 1)))) (fun ε => .ok (.nx ε))) (rtS (bin ixD (gb 10) (kc (.int 1))))))))
noncomputable def F_l_seen : Fd := bodyF 11 g_l_seen
noncomputable def g_law_k20 : Sg := (seqS (stS 1 (callF 2 F_l_cell (consF (gv 0) (consF (kc (.int 0)) nilF)))) (seqS (stS 2 (callF 2 F_l_drawn (consF (callF 2 F_l_cell (consF (gv 0) (consF (kc (.int 1)) nilF))) (consF (kc (.int 43)) nilF)))) (seqS (stS 3 (makeF "Scene" 2 I_Scene (consF (lstF (lcF (rngF (bin modD (gb 2) (kc (.int 9)))) [4] (setN 4) yes (callF 2 F_l_shape (consF (gv 0) (consF (gv 4) nilF))))) nilF))) (seqS (asS (callF 2 F_l_ray_2 (consF (gv 0) (consF (kc (.int 40)) nilF))) (setT 2 (setCons (setN 5) (setCons (setN 6) setNil)))) (seqS (stS 7 (callF 2 F_l_far (consF (callF 1 F_l_spot (consF (bin divD (gb 2) (kc (.int 9))) nilF)) (consF (gv 1) nilF)))) (seqS (stS 8 (callF 2 F_l_far (consF (bin ixD (callF 2 F_l_ray_2 (consF (gv 0) (consF (kc (.int 42)) nilF))) (kc (.int 1))) (consF (gv 1) nilF)))) (seqS (stS 9 (tupF (consF (gv 5) (consF (gv 7) (consF (gv 8) (consF (gv 6) nilF)))))) (seqS (stS 10 (bin modD (bin divD (gb 2) (kc (.int 6561))) (kc (.int 5)))) (seqS (stS 11 (bin modD (bin divD (gb 2) (kc (.int 32805))) (kc (.int 5)))) (seqS (dueB 12 14 13 (gb 11) (gb 11) (gb 10) (callF 4 F_l_seen (consF (gv 3) (consF (gv 9) (consF (gv 14) (consF (gv 13) nilF)))))) (seqS (stS 15 (callF 4 F_seen (consF (gv 3) (consF (gv 9) (consF (gv 10) (consF (gv 11) nilF)))))) (seqS (ifS (orT (tst (bin neD (gb 15) (gb 12))) (orT (notT (tst (un (isiD "list") (gb 15)))) (notT (tst (un allD (lstF (lcF (iterF (gb 15)) [16] (setN 16) yes (un (isiD "list") (gb 16))))))))) (rtS (kc (.bl false))) (fun ε => .ok (.nx ε))) (seqS (stO 17 (lcF (rngF (bin modD (bin divD (gb 2) (kc (.int 164025))) (kc (.int 5)))) [4] (setN 4) yes (callF 2 F_l_row (consF (gv 0) (consF (gv 4) nilF))))) (shS 17 (seqS (stO 18 (lcF (iterF (gb 17)) [16] (setN 16) yes (lstF (unN listD (gb 16))))) (shS 18 (rtS (andV (bin eqD (callF 1 F_drawn (consF (gv 17) nilF)) (callF 1 F_l_text (consF (gv 18) nilF))) (andV (bin eqD (gb 17) (gb 18)) (bin eqD (callF 1 F_drawn (consF (gv 15) nilF)) (callF 1 F_l_text (consF (gv 12) nilF))))))))))))))))))))))
noncomputable def F_law_k20 : Fd := bodyF 19 g_law_k20
end DL
end
section
set_option Elab.async false
set_option linter.all false
set_option maxRecDepth 100000
set_option autoImplicit false
namespace Lw
open PySem PySem.Spec PyProof.Rows L2 DL
def top (i : Nat) : Stmt := PySem.Challenge.pw_firsthit_k20_whole_views.main.body.getD i (.Pass ⟨0, 0, 0, 0⟩)
abbrev s_l_cell : Stmt := (top 45)
abbrev s_l_drawn : Stmt := (top 46)
abbrev s_need_shape : Stmt := (top 34)
abbrev s_box_around : Stmt := (top 16)
abbrev s_bounds : Stmt := (top 36)
abbrev s_widest : Stmt := (top 41)
abbrev s_Branch___init__ : Stmt := ((clsBody (top 40)).getD 0 (.Pass ⟨0, 0, 0, 0⟩))
abbrev s_box_of_two : Stmt := (top 17)
abbrev s_grown : Stmt := (top 42)
abbrev s_Scene___init__ : Stmt := ((clsBody (top 43)).getD 0 (.Pass ⟨0, 0, 0, 0⟩))
abbrev s_l_spot : Stmt := (top 47)
abbrev s_l_put : Stmt := (top 48)
abbrev s_l_ray : Stmt := (top 51)
abbrev s_l_far : Stmt := (top 52)
abbrev s_need_ray : Stmt := (top 35)
abbrev s_is_less : Stmt := (top 12)
abbrev s_ratio : Stmt := (top 11)
abbrev s_times_in : Stmt := (top 18)
abbrev s_stay_in : Stmt := (top 19)
abbrev s_meets_box : Stmt := (top 20)
abbrev s_cross : Stmt := (top 9)
abbrev s_dot : Stmt := (top 8)
abbrev s_sign : Stmt := (top 10)
abbrev s_minus : Stmt := (top 7)
abbrev s_turn : Stmt := (top 14)
abbrev s_is_within : Stmt := (top 30)
abbrev s_lesser : Stmt := (top 13)
abbrev s_along : Stmt := (top 27)
abbrev s_on_line : Stmt := (top 28)
abbrev s_meets_segment : Stmt := (top 29)
abbrev s_meets_flat : Stmt := (top 31)
abbrev s_meets_triangle : Stmt := (top 32)
abbrev s_meets : Stmt := (top 37)
abbrev s_Scene_better : Stmt := ((clsBody (top 43)).getD 3 (.Pass ⟨0, 0, 0, 0⟩))
abbrev s_Scene_nearer_last : Stmt := ((clsBody (top 43)).getD 5 (.Pass ⟨0, 0, 0, 0⟩))
abbrev s_Scene_first : Stmt := ((clsBody (top 43)).getD 4 (.Pass ⟨0, 0, 0, 0⟩))
abbrev s_moved : Stmt := (top 3)
abbrev s_seen : Stmt := (top 4)
abbrev s_l_row : Stmt := (top 53)
abbrev s_l_plain : Stmt := (top 49)
abbrev s_l_shape : Stmt := (top 50)
abbrev s_drawn : Stmt := (top 5)
abbrev s_l_text : Stmt := (top 54)
abbrev s_l_seen : Stmt := (top 55)
abbrev s_law : Stmt := (top 56)
structure Tx [TbC] (w : World) (base : Heap) (K : PySem.W.Frag) (mg : Mg) : Prop where
  hw : w = TbC.w
  f_abs : mg "abs" = none
  f_all : mg "all" = none
  f_int : mg "int" = none
  f_isinstance : mg "isinstance" = none
  f_len : mg "len" = none
  f_list : mg "list" = none
  f_max : mg "max" = none
  f_min : mg "min" = none
  f_range : mg "range" = none
  f_sorted : mg "sorted" = none
  f_tuple : mg "tuple" = none
  x_NoRay : ExcF K mg "NoRay"
  x_NoShape : ExcF K mg "NoShape"
  i_FEW : ∃ t, mg "FEW" = some (.int 3 t)
  s_SIGNS : ∃ t, mg "SIGNS" = some (.str "0123456789abcdefghijklmnopqrstuvwxyz" t)
  g_ZERO : mg "ZERO" = some (.ref (He.ga K "ZERO"))
  t_ZERO : ∀ H, SqT K H (He.ga K "ZERO") (([0, 0, 0] : List Int).map V.int)
  g_Branch : mg "Branch" = some (.ref (He.ga K "Branch"))
  c_Branch : Cls K (He.ga K "Branch")
  k_Branch : Mk K (He.ga K "Branch") (He.ma K (He.ga K "Branch") "__init__")
  g_Scene : mg "Scene" = some (.ref (He.ga K "Scene"))
  c_Scene : Cls K (He.ga K "Scene")
  k_Scene : Mk K (He.ga K "Scene") (He.ma K (He.ga K "Scene") "__init__")
  n_Branch_box : NoAttr K (He.ga K "Branch") "box"
  n_Branch_left : NoAttr K (He.ga K "Branch") "left"
  n_Branch_numbers : NoAttr K (He.ga K "Branch") "numbers"
  n_Branch_right : NoAttr K (He.ga K "Branch") "right"
  n_Scene_boxes : NoAttr K (He.ga K "Scene") "boxes"
  n_Scene_root : NoAttr K (He.ga K "Scene") "root"
  n_Scene_shapes : NoAttr K (He.ga K "Scene") "shapes"
  g_l_cell : mg "_law_cell" = some (.ref (He.ga K "_law_cell"))
  d_l_cell : ∃ fd, FunD K "_law_cell" "_law_cell" (defArgs s_l_cell) (defBody s_l_cell) (defScope s_l_cell) [] [] (He.ga K "_law_cell") fd
  g_l_drawn : mg "_law_drawn" = some (.ref (He.ga K "_law_drawn"))
  d_l_drawn : ∃ fd, FunD K "_law_drawn" "_law_drawn" (defArgs s_l_drawn) (defBody s_l_drawn) (defScope s_l_drawn) [] [] (He.ga K "_law_drawn") fd
  g_need_shape : mg "need_shape" = some (.ref (He.ga K "need_shape"))
  d_need_shape : ∃ fd, FunD K "need_shape" "need_shape" (defArgs s_need_shape) (defBody s_need_shape) (defScope s_need_shape) [] [] (He.ga K "need_shape") fd
  g_box_around : mg "box_around" = some (.ref (He.ga K "box_around"))
  d_box_around : ∃ fd, FunD K "box_around" "box_around" (defArgs s_box_around) (defBody s_box_around) (defScope s_box_around) [] [] (He.ga K "box_around") fd
  g_bounds : mg "bounds" = some (.ref (He.ga K "bounds"))
  d_bounds : ∃ fd, FunD K "bounds" "bounds" (defArgs s_bounds) (defBody s_bounds) (defScope s_bounds) [] [] (He.ga K "bounds") fd
  g_widest : mg "widest" = some (.ref (He.ga K "widest"))
  d_widest : ∃ fd, FunD K "widest" "widest" (defArgs s_widest) (defBody s_widest) (defScope s_widest) [] [] (He.ga K "widest") fd
  d_Branch___init__ : ∃ fd, FunD K "__init__" "Branch.__init__" (defArgs s_Branch___init__) (defBody s_Branch___init__) (defScope s_Branch___init__) [] [] (He.ma K (He.ga K "Branch") "__init__") fd
  g_box_of_two : mg "box_of_two" = some (.ref (He.ga K "box_of_two"))
  d_box_of_two : ∃ fd, FunD K "box_of_two" "box_of_two" (defArgs s_box_of_two) (defBody s_box_of_two) (defScope s_box_of_two) [] [] (He.ga K "box_of_two") fd
  g_grown : mg "grown" = some (.ref (He.ga K "grown"))
  d_grown : ∃ fd, FunD K "grown" "grown" (defArgs s_grown) (defBody s_grown) (defScope s_grown) [] [] (He.ga K "grown") fd
  d_Scene___init__ : ∃ fd, FunD K "__init__" "Scene.__init__" (defArgs s_Scene___init__) (defBody s_Scene___init__) (defScope s_Scene___init__) [] [] (He.ma K (He.ga K "Scene") "__init__") fd
  g_l_spot : mg "_law_spot" = some (.ref (He.ga K "_law_spot"))
  d_l_spot : ∃ fd, FunD K "_law_spot" "_law_spot" (defArgs s_l_spot) (defBody s_l_spot) (defScope s_l_spot) [] [] (He.ga K "_law_spot") fd
  g_l_put : mg "_law_put" = some (.ref (He.ga K "_law_put"))
  d_l_put : ∃ fd, FunD K "_law_put" "_law_put" (defArgs s_l_put) (defBody s_l_put) (defScope s_l_put) [] [] (He.ga K "_law_put") fd
  g_l_ray : mg "_law_ray" = some (.ref (He.ga K "_law_ray"))
  d_l_ray : ∃ fd, FunD K "_law_ray" "_law_ray" (defArgs s_l_ray) (defBody s_l_ray) (defScope s_l_ray) [] [] (He.ga K "_law_ray") fd
  g_l_far : mg "_law_far" = some (.ref (He.ga K "_law_far"))
  d_l_far : ∃ fd, FunD K "_law_far" "_law_far" (defArgs s_l_far) (defBody s_l_far) (defScope s_l_far) [] [] (He.ga K "_law_far") fd
  g_need_ray : mg "need_ray" = some (.ref (He.ga K "need_ray"))
  d_need_ray : ∃ fd, FunD K "need_ray" "need_ray" (defArgs s_need_ray) (defBody s_need_ray) (defScope s_need_ray) [] [] (He.ga K "need_ray") fd
  g_is_less : mg "is_less" = some (.ref (He.ga K "is_less"))
  d_is_less : ∃ fd, FunD K "is_less" "is_less" (defArgs s_is_less) (defBody s_is_less) (defScope s_is_less) [] [] (He.ga K "is_less") fd
  g_ratio : mg "ratio" = some (.ref (He.ga K "ratio"))
  d_ratio : ∃ fd, FunD K "ratio" "ratio" (defArgs s_ratio) (defBody s_ratio) (defScope s_ratio) [] [] (He.ga K "ratio") fd
  g_times_in : mg "times_in" = some (.ref (He.ga K "times_in"))
  d_times_in : ∃ fd, FunD K "times_in" "times_in" (defArgs s_times_in) (defBody s_times_in) (defScope s_times_in) [] [] (He.ga K "times_in") fd
  g_stay_in : mg "stay_in" = some (.ref (He.ga K "stay_in"))
  d_stay_in : ∃ fd, FunD K "stay_in" "stay_in" (defArgs s_stay_in) (defBody s_stay_in) (defScope s_stay_in) [] [] (He.ga K "stay_in") fd
  g_meets_box : mg "meets_box" = some (.ref (He.ga K "meets_box"))
  d_meets_box : ∃ fd, FunD K "meets_box" "meets_box" (defArgs s_meets_box) (defBody s_meets_box) (defScope s_meets_box) [] [] (He.ga K "meets_box") fd
  g_cross : mg "cross" = some (.ref (He.ga K "cross"))
  d_cross : ∃ fd, FunD K "cross" "cross" (defArgs s_cross) (defBody s_cross) (defScope s_cross) [] [] (He.ga K "cross") fd
  g_dot : mg "dot" = some (.ref (He.ga K "dot"))
  d_dot : ∃ fd, FunD K "dot" "dot" (defArgs s_dot) (defBody s_dot) (defScope s_dot) [] [] (He.ga K "dot") fd
  g_sign : mg "sign" = some (.ref (He.ga K "sign"))
  d_sign : ∃ fd, FunD K "sign" "sign" (defArgs s_sign) (defBody s_sign) (defScope s_sign) [] [] (He.ga K "sign") fd
  g_minus : mg "minus" = some (.ref (He.ga K "minus"))
  d_minus : ∃ fd, FunD K "minus" "minus" (defArgs s_minus) (defBody s_minus) (defScope s_minus) [] [] (He.ga K "minus") fd
  g_turn : mg "turn" = some (.ref (He.ga K "turn"))
  d_turn : ∃ fd, FunD K "turn" "turn" (defArgs s_turn) (defBody s_turn) (defScope s_turn) [] [] (He.ga K "turn") fd
  g_is_within : mg "is_within" = some (.ref (He.ga K "is_within"))
  d_is_within : ∃ fd, FunD K "is_within" "is_within" (defArgs s_is_within) (defBody s_is_within) (defScope s_is_within) [] [] (He.ga K "is_within") fd
  g_lesser : mg "lesser" = some (.ref (He.ga K "lesser"))
  d_lesser : ∃ fd, FunD K "lesser" "lesser" (defArgs s_lesser) (defBody s_lesser) (defScope s_lesser) [] [] (He.ga K "lesser") fd
  g_along : mg "along" = some (.ref (He.ga K "along"))
  d_along : ∃ fd, FunD K "along" "along" (defArgs s_along) (defBody s_along) (defScope s_along) [] [] (He.ga K "along") fd
  g_on_line : mg "on_line" = some (.ref (He.ga K "on_line"))
  d_on_line : ∃ fd, FunD K "on_line" "on_line" (defArgs s_on_line) (defBody s_on_line) (defScope s_on_line) [] [] (He.ga K "on_line") fd
  g_meets_segment : mg "meets_segment" = some (.ref (He.ga K "meets_segment"))
  d_meets_segment : ∃ fd, FunD K "meets_segment" "meets_segment" (defArgs s_meets_segment) (defBody s_meets_segment) (defScope s_meets_segment) [] [] (He.ga K "meets_segment") fd
  g_meets_flat : mg "meets_flat" = some (.ref (He.ga K "meets_flat"))
  d_meets_flat : ∃ fd, FunD K "meets_flat" "meets_flat" (defArgs s_meets_flat) (defBody s_meets_flat) (defScope s_meets_flat) [] [] (He.ga K "meets_flat") fd
  g_meets_triangle : mg "meets_triangle" = some (.ref (He.ga K "meets_triangle"))
  d_meets_triangle : ∃ fd, FunD K "meets_triangle" "meets_triangle" (defArgs s_meets_triangle) (defBody s_meets_triangle) (defScope s_meets_triangle) [] [] (He.ga K "meets_triangle") fd
  g_meets : mg "meets" = some (.ref (He.ga K "meets"))
  d_meets : ∃ fd, FunD K "meets" "meets" (defArgs s_meets) (defBody s_meets) (defScope s_meets) [] [] (He.ga K "meets") fd
  a_Scene_better : Meth K (He.ga K "Scene") "better" (He.ma K (He.ga K "Scene") "better")
  d_Scene_better : ∃ fd, FunD K "better" "Scene.better" (defArgs s_Scene_better) (defBody s_Scene_better) (defScope s_Scene_better) [] [] (He.ma K (He.ga K "Scene") "better") fd
  a_Scene_nearer_last : Meth K (He.ga K "Scene") "nearer_last" (He.ma K (He.ga K "Scene") "nearer_last")
  d_Scene_nearer_last : ∃ fd, FunD K "nearer_last" "Scene.nearer_last" (defArgs s_Scene_nearer_last) (defBody s_Scene_nearer_last) (defScope s_Scene_nearer_last) [] [] (He.ma K (He.ga K "Scene") "nearer_last") fd
  a_Scene_first : Meth K (He.ga K "Scene") "first" (He.ma K (He.ga K "Scene") "first")
  d_Scene_first : ∃ fd, FunD K "first" "Scene.first" (defArgs s_Scene_first) (defBody s_Scene_first) (defScope s_Scene_first) [] [] (He.ma K (He.ga K "Scene") "first") fd
  g_moved : mg "moved" = some (.ref (He.ga K "moved"))
  d_moved : ∃ fd, FunD K "moved" "moved" (defArgs s_moved) (defBody s_moved) (defScope s_moved) [] [] (He.ga K "moved") fd
  g_seen : mg "seen" = some (.ref (He.ga K "seen"))
  d_seen : ∃ fd, FunD K "seen" "seen" (defArgs s_seen) (defBody s_seen) (defScope s_seen) [] [] (He.ga K "seen") fd
  g_l_row : mg "_law_row" = some (.ref (He.ga K "_law_row"))
  d_l_row : ∃ fd, FunD K "_law_row" "_law_row" (defArgs s_l_row) (defBody s_l_row) (defScope s_l_row) [] [] (He.ga K "_law_row") fd
  g_l_plain : mg "_law_plain" = some (.ref (He.ga K "_law_plain"))
  d_l_plain : ∃ fd, FunD K "_law_plain" "_law_plain" (defArgs s_l_plain) (defBody s_l_plain) (defScope s_l_plain) [] [] (He.ga K "_law_plain") fd
  g_l_shape : mg "_law_shape" = some (.ref (He.ga K "_law_shape"))
  d_l_shape : ∃ fd, FunD K "_law_shape" "_law_shape" (defArgs s_l_shape) (defBody s_l_shape) (defScope s_l_shape) [] [] (He.ga K "_law_shape") fd
  g_drawn : mg "drawn" = some (.ref (He.ga K "drawn"))
  d_drawn : ∃ fd, FunD K "drawn" "drawn" (defArgs s_drawn) (defBody s_drawn) (defScope s_drawn) [] [] (He.ga K "drawn") fd
  g_l_text : mg "_law_text" = some (.ref (He.ga K "_law_text"))
  d_l_text : ∃ fd, FunD K "_law_text" "_law_text" (defArgs s_l_text) (defBody s_l_text) (defScope s_l_text) [] [] (He.ga K "_law_text") fd
  g_l_seen : mg "_law_seen" = some (.ref (He.ga K "_law_seen"))
  d_l_seen : ∃ fd, FunD K "_law_seen" "_law_seen" (defArgs s_l_seen) (defBody s_l_seen) (defScope s_l_seen) [] [] (He.ga K "_law_seen") fd
  g_law : mg "law" = some (.ref (He.ga K "law"))
  d_law : ∃ fd, FunD K "law" "law" (defArgs s_law) (defBody s_law) (defScope s_law) [] [] (He.ga K "law") fd
  b_grown : LamX.TabB base mg (He.cT K ("grown", none)).1 (He.cT K ("grown", none)).2
  m_grown : ((He.cT K ("grown", none)).2, (("grown" : Str) ++ (".<locals>." : Str) ++ ("<lambda>" : Str))) ∈ TbC.T
  u_grown : ∀ r ∈ TbC.T, r.1 = (He.cT K ("grown", none)).2 → r.2 = (("grown" : Str) ++ (".<locals>." : Str) ++ ("<lambda>" : Str))
section
variable [TbC]
variable {P : Program} {w : World} {K : PySem.W.Frag} {mg : Str → Option Value} {base : Heap}
theorem sc_l_cell : FnScope ["_law_script", "_law_k"] ["_law_script", "_law_k"] (defScope s_l_cell) := ⟨rfl, rfl, rfl, by decide +kernel, rfl, by decide +kernel, by decide +kernel⟩
theorem df_l_cell (T : Tx w base K mg) : Df P w K mg base 1 "_law_cell" 2 F_l_cell := by
  obtain ⟨fd, Fn⟩ := T.d_l_cell
  refine df_mk Fn sc_l_cell T.g_l_cell (fun _ _ _ _ _ _ us hl => match us, hl with | [_, _], _ => rfl) fun cdv A outer s H E hr tk => ?_
  exact (sd_cons (sd_if (tEq hr (pbv 0) (pb_of (pd_new (pn_lst ad_nil)))) (sd_one (sd_ret (dMul (pbv 1) (pb_of pd_int)))) sd_nil) (sd_one (sd_ret (dAdd (pb_of (dIx (pbv 0) (pb_of (dMod (pbv 1) (pb_of (dLen T.f_len (pbv 0))))))) (pb_of (dMul (pb_of (dDiv (pbv 1) (pb_of (dLen T.f_len (pbv 0))))) (pb_of pd_int)))))))
theorem sc_l_drawn : FnScope ["_law_cell_here", "_law_k", "_law_more"] ["_law_cell_here", "_law_k"] (defScope s_l_drawn) := ⟨rfl, rfl, rfl, by decide +kernel, rfl, by decide +kernel, by decide +kernel⟩
theorem df_l_drawn (T : Tx w base K mg) : Df P w K mg base 1 "_law_drawn" 2 F_l_drawn := by
  obtain ⟨fd, Fn⟩ := T.d_l_drawn
  refine df_mk Fn sc_l_drawn T.g_l_drawn (fun _ _ _ _ _ _ us hl => match us, hl with | [_, _], _ => rfl) fun cdv A outer s H E hr tk => ?_
  exact (sd_cons (sd_set (i := 2) sc_l_drawn.nd (dMod (pb_of (dAdd (pb_of (dMul (pbv 0) (pb_of pd_int))) (pb_of (dMul (pb_of (dAdd (pbv 1) (pb_of pd_int))) (pb_of pd_int))))) (pb_of pd_int))) (sd_one (sd_ret (dMod (pb_of (dMul (pbv 2) (pbv 2))) (pb_of pd_int)))))
theorem sc_need_shape : FnScope ["shape", "k"] ["shape"] (defScope s_need_shape) := ⟨rfl, rfl, rfl, by decide +kernel, rfl, by decide +kernel, by decide +kernel⟩
theorem df_need_shape (T : Tx w base K mg) : Df P w K mg base 1 "need_shape" 1 F_need_shape := by
  obtain ⟨fd, Fn⟩ := T.d_need_shape
  refine df_mk Fn sc_need_shape T.g_need_shape (fun _ _ _ _ _ _ us hl => match us, hl with | [_], _ => rfl) fun cdv A outer s H E hr tk => ?_
  exact (sd_one (sd_if (td_of (tw_and (tEq hr (pb_of (dIx (pbv 0) (pb_of pd_int))) (pb_of pd_str)) (tw_and1 (tEq hr (pb_of (dLen T.f_len (pbv 0))) (pb_of pd_int))))) (sd_one (sd_if (td_not (td_val (dAll T.f_all (pb_of (pd_new (pn_lc (own := [("k", 1)]) (js := [1]) rfl sc_need_shape.nd (itR T.f_range (pb_of pd_int)) (blkOk_by (by rfl)) (fun _ _ _ _ _ => (gdN (i := 1) sc_need_shape.nd rfl (by first | exact Or.inl rfl | exact Or.inr rfl))) (fun _ _ _ _ _ => tds_nil) (fun _ _ _ _ _ => (dLe (pb_of (dIx (pb_of (dIx (pbv 0) (pb_of pd_int))) (pbv 1))) (pb_of (dIx (pb_of (dIx (pbv 0) (pb_of pd_int))) (pbv 1))))))))))) (sd_one (sd_raise tk T.x_NoShape)) sd_nil)) (sd_one (sd_if (td_of (tw_or (tNe hr (pb_of (dIx (pbv 0) (pb_of pd_int))) (pb_of pd_str)) (tw_or1 (tNe hr (pb_of (dLen T.f_len (pbv 0))) (pb_of pd_int))))) (sd_one (sd_raise tk T.x_NoShape)) sd_nil))))
theorem sc_box_around : FnScope ["points", "low", "point", "k"] ["points"] (defScope s_box_around) := ⟨rfl, rfl, rfl, by decide +kernel, rfl, by decide +kernel, by decide +kernel⟩
theorem df_box_around (T : Tx w base K mg) : Df P w K mg base 1 "box_around" 1 F_box_around := by
  obtain ⟨fd, Fn⟩ := T.d_box_around
  refine df_mk Fn sc_box_around T.g_box_around (fun _ _ _ _ _ _ us hl => match us, hl with | [_], _ => rfl) fun cdv A outer s H E hr tk => ?_
  exact (sd_cons (sd_set (i := 1) sc_box_around.nd (dTuple T.f_tuple (pb_of (pd_new (pn_lc (own := [("k", 3)]) (js := [3]) rfl sc_box_around.nd (itR T.f_range (pb_of pd_int)) (blkOk_by (by rfl)) (fun _ _ _ _ _ => (gdN (i := 3) sc_box_around.nd rfl (by first | exact Or.inl rfl | exact Or.inr rfl))) (fun _ _ _ _ _ => tds_nil) (fun _ _ _ _ _ => (dMin T.f_min (pb_of (pd_new (pn_lc (own := [("point", 2)]) (js := [2]) rfl sc_box_around.nd (itB (pbv 0)) (blkOk_by (by rfl)) (fun _ _ _ _ _ => (gdN (i := 2) sc_box_around.nd rfl (by first | exact Or.inl rfl | exact Or.inr rfl))) (fun _ _ _ _ _ => tds_nil) (fun _ _ _ _ _ => (dIx (pbv 2) (pbv 3))))))))))))) (sd_one (sd_ret (pd_tup (ad_cons (pdv 1) (ad_cons (dTuple T.f_tuple (pb_of (pd_new (pn_lc (own := [("k", 3)]) (js := [3]) rfl sc_box_around.nd (itR T.f_range (pb_of pd_int)) (blkOk_by (by rfl)) (fun _ _ _ _ _ => (gdN (i := 3) sc_box_around.nd rfl (by first | exact Or.inl rfl | exact Or.inr rfl))) (fun _ _ _ _ _ => tds_nil) (fun _ _ _ _ _ => (dMax T.f_max (pb_of (pd_new (pn_lc (own := [("point", 2)]) (js := [2]) rfl sc_box_around.nd (itB (pbv 0)) (blkOk_by (by rfl)) (fun _ _ _ _ _ => (gdN (i := 2) sc_box_around.nd rfl (by first | exact Or.inl rfl | exact Or.inr rfl))) (fun _ _ _ _ _ => tds_nil) (fun _ _ _ _ _ => (dIx (pbv 2) (pbv 3)))))))))))) ad_nil))))))
theorem sc_bounds : FnScope ["shape"] ["shape"] (defScope s_bounds) := ⟨rfl, rfl, rfl, by decide +kernel, rfl, by decide +kernel, by decide +kernel⟩
theorem df_bounds (T : Tx w base K mg) : Df P w K mg base 2 "bounds" 1 F_bounds := by
  obtain ⟨fd, Fn⟩ := T.d_bounds
  refine df_mk Fn sc_bounds T.g_bounds (fun _ _ _ _ _ _ us hl => match us, hl with | [_], _ => rfl) fun cdv A outer s H E hr tk => ?_
  exact (sd_one (sd_ret (dCall (df_box_around T) hr (by decide) tk (ad_cons (pd_new (nList T.f_list (pb_of (dSl (pbv 0) (po1 (pb_of pd_int)) po0)))) ad_nil))))
theorem sc_widest : FnScope ["box", "sizes", "k"] ["box"] (defScope s_widest) := ⟨rfl, rfl, rfl, by decide +kernel, rfl, by decide +kernel, by decide +kernel⟩
theorem df_widest (T : Tx w base K mg) : Df P w K mg base 1 "widest" 1 F_widest := by
  obtain ⟨fd, Fn⟩ := T.d_widest
  refine df_mk Fn sc_widest T.g_widest (fun _ _ _ _ _ _ us hl => match us, hl with | [_], _ => rfl) fun cdv A outer s H E hr tk => ?_
  exact (sd_cons (sd_setLc (i := 1) (own := [("k", 2)]) (js := [2]) rfl sc_widest.nd rfl rfl (sw_true rfl rfl rfl (by rfl)) (itR T.f_range (pb_of pd_int)) (blkOk_by (by rfl)) (fun _ _ _ _ _ => (gdN (i := 2) sc_widest.nd rfl (by first | exact Or.inl rfl | exact Or.inr rfl))) (fun _ _ _ _ _ => tds_nil) (fun _ _ _ _ _ => (dSub (pb_of (dIx (pb_of (dIx (pbv 0) (pb_of pd_int))) (pbv 2))) (pb_of (dIx (pb_of (dIx (pbv 0) (pb_of pd_int))) (pbv 2)))))) (sd_share (i := 1) (sd_one (sd_ret (pd_index hr (pbv 1) (dMax T.f_max (pbv 1)))))))
theorem sc_Branch___init__ : FnScope ["self", "box", "numbers", "left", "right"] ["self", "box", "numbers", "left", "right"] (defScope s_Branch___init__) := ⟨rfl, rfl, rfl, by decide +kernel, rfl, by decide +kernel, by decide +kernel⟩
theorem df_Branch___init__ (T : Tx w base K mg) : DfI P w K mg base 1 "Branch" 5 I_Branch := by
  obtain ⟨fd, Fn⟩ := T.d_Branch___init__
  refine dfi_mk Fn sc_Branch___init__ T.g_Branch T.k_Branch (fun _ _ _ _ _ _ us hl => match us, hl with | [_, _, _, _, _], _ => rfl) fun cdv A outer s H E hr tk => ?_
  exact (sd_cons (sd_fld 0 T.g_Branch T.c_Branch T.n_Branch_box (pdv 1)) (sd_cons (sd_fld 0 T.g_Branch T.c_Branch T.n_Branch_numbers (pdv 2)) (sd_cons (sd_fld 0 T.g_Branch T.c_Branch T.n_Branch_left (pdv 3)) (sd_one (sd_fld 0 T.g_Branch T.c_Branch T.n_Branch_right (pdv 4))))))
theorem sc_box_of_two : FnScope ["one", "other"] ["one", "other"] (defScope s_box_of_two) := ⟨rfl, rfl, rfl, by decide +kernel, rfl, by decide +kernel, by decide +kernel⟩
theorem df_box_of_two (T : Tx w base K mg) : Df P w K mg base 2 "box_of_two" 2 F_box_of_two := by
  obtain ⟨fd, Fn⟩ := T.d_box_of_two
  refine df_mk Fn sc_box_of_two T.g_box_of_two (fun _ _ _ _ _ _ us hl => match us, hl with | [_, _], _ => rfl) fun cdv A outer s H E hr tk => ?_
  exact (sd_one (sd_ret (dCall (df_box_around T) hr (by decide) tk (ad_cons (pd_new (pn_lst (ad_cons (dIx (pbv 0) (pb_of pd_int)) (ad_cons (dIx (pbv 0) (pb_of pd_int)) (ad_cons (dIx (pbv 1) (pb_of pd_int)) (ad_cons (dIx (pbv 1) (pb_of pd_int)) ad_nil)))))) ad_nil))))
theorem sc_grown : FnScope ["boxes", "numbers", "box", "number", "k", "order", "half"] ["boxes", "numbers"] (defScope s_grown) := ⟨rfl, rfl, rfl, by decide +kernel, rfl, by decide +kernel, by decide +kernel⟩
theorem dfr_grown (T : Tx w base K mg) : ∀ n : Nat, Df P w K mg base (3 + n) "grown" 2 (FR_grown n)
  | 0 => by
    obtain ⟨fd, Fn⟩ := T.d_grown
    exact df_bad (k := 2) Fn sc_grown T.g_grown (fun _ _ _ _ _ _ us hl => match us, hl with | [_, _], _ => rfl)
  | n + 1 => by
    obtain ⟨fd, Fn⟩ := T.d_grown
    refine df_mkC (p := ("grown", none)) (k := 3 + n) Fn sc_grown T.g_grown (fun _ _ _ _ _ _ us hl => match us, hl with | [_, _], _ => rfl) fun  A outer s H E hr tk => ?_
    exact (sd_cons (sd_set (i := 2) sc_grown.nd (dIx (pbv 0) (pb_of (dIx (pbv 1) (pb_of pd_int))))) (sd_cons (sd_for (js := [3]) PassesOwn.leaving rfl (itS (pdv 1)) (gdN (i := 3) sc_grown.nd rfl (by first | exact Or.inl rfl | exact Or.inr rfl)) (sd_one (sd_set (i := 2) sc_grown.nd (dCall (df_box_of_two T) hr (le_lv (by decide)) tk (ad_cons (pdv 2) (ad_cons (dIx (pbv 0) (pbv 3)) ad_nil)))))) (sd_cons (sd_if (tLe (pb_of (dLen T.f_len (pbv 1))) (pb_of (pd_intK T.i_FEW))) (sd_one (sd_ret (dMake (df_Branch___init__ T) hr (le_lv (by decide)) tk (ad_cons (pdv 2) (ad_cons (pdv 1) (ad_cons pd_non (ad_cons pd_non ad_nil))))))) sd_nil) (sd_cons (sd_set (i := 4) sc_grown.nd (dCall (df_widest T) hr (le_lv (by decide)) tk (ad_cons (pdv 2) ad_nil))) (sd_cons (sd_set (i := 5) sc_grown.nd (pd_new (nSortK (it := 3) T.f_sorted T.b_grown rfl rfl T.m_grown T.u_grown hr (lamP_by (by rfl)) sc_grown.nd rfl (fun _ _ _ _ _ _ => rfl) (pbv 1) (fun A outer s H E g c' => (rk_tup (rv_add (rv_ix (rv_ix (rv_ix (rv_var 0) (rv_var 3)) rv_int) (rv_var 4)) (rv_ix (rv_ix (rv_ix (rv_var 0) (rv_var 3)) rv_int) (rv_var 4))) (rv_var 3)))))) (sd_cons (sd_set (i := 6) sc_grown.nd (dDiv (pb_of (dLen T.f_len (pbv 5))) (pb_of pd_int))) (sd_one (sd_ret (dMake (df_Branch___init__ T) hr (le_lv (by decide)) tk (ad_cons (pdv 2) (ad_cons (pd_new (pn_lst ad_nil)) (ad_cons (dCall (dfr_grown T n) hr (Nat.le_refl _) tk (ad_cons (pdv 0) (ad_cons (dSl (pbv 5) po0 (po1 (pbv 6))) ad_nil))) (ad_cons (dCall (dfr_grown T n) hr (Nat.le_refl _) tk (ad_cons (pdv 0) (ad_cons (dSl (pbv 5) (po1 (pbv 6)) po0) ad_nil))) ad_nil)))))))))))))
theorem df_grown (T : Tx w base K mg) : Df P w K mg base 11 "grown" 2 F_grown := dfr_grown T 8
theorem sc_Scene___init__ : FnScope ["self", "shapes", "shape"] ["self", "shapes"] (defScope s_Scene___init__) := ⟨rfl, rfl, rfl, by decide +kernel, rfl, by decide +kernel, by decide +kernel⟩
theorem df_Scene___init__ (T : Tx w base K mg) : DfI P w K mg base 12 "Scene" 2 I_Scene := by
  obtain ⟨fd, Fn⟩ := T.d_Scene___init__
  refine dfi_mk Fn sc_Scene___init__ T.g_Scene T.k_Scene (fun _ _ _ _ _ _ us hl => match us, hl with | [_, _], _ => rfl) fun cdv A outer s H E hr tk => ?_
  exact (sd_cons (sd_for (js := [2]) PassesOwn.leaving rfl (itS (pdv 1)) (gdN (i := 2) sc_Scene___init__.nd rfl (by first | exact Or.inl rfl | exact Or.inr rfl)) (sd_one (sd_expr (dCall (df_need_shape T) hr (by decide) tk (ad_cons (pdv 2) ad_nil))))) (sd_cons (sd_fld 0 T.g_Scene T.c_Scene T.n_Scene_shapes (pd_new (nList T.f_list (pbv 1)))) (sd_cons (sd_fld 0 T.g_Scene T.c_Scene T.n_Scene_boxes (pd_new (pn_lc (own := [("shape", 2)]) (js := [2]) rfl sc_Scene___init__.nd (itB (pbv 1)) (blkOk_by (by rfl)) (fun _ _ _ _ _ => (gdN (i := 2) sc_Scene___init__.nd rfl (by first | exact Or.inl rfl | exact Or.inr rfl))) (fun _ _ _ _ _ => tds_nil) (fun _ _ _ _ _ => (dCall (df_bounds T) hr (by decide) L2.takes0 (ad_cons (pdv 2) ad_nil)))))) (sd_cons (sd_fld 0 T.g_Scene T.c_Scene T.n_Scene_root pd_non) (sd_one (sd_if (tNe0 hr (pb_of (dFld T.g_Scene T.c_Scene T.n_Scene_shapes (pbv 0))) (pb_of (pd_new (pn_lst ad_nil)))) (sd_one (sd_fld 0 T.g_Scene T.c_Scene T.n_Scene_root (dCall (df_grown T) hr (by decide) tk (ad_cons (dFld T.g_Scene T.c_Scene T.n_Scene_boxes (pbv 0)) (ad_cons (pd_new (nListRg T.f_list T.f_range (pb_of (dLen T.f_len (pb_of (dFld T.g_Scene T.c_Scene T.n_Scene_shapes (pbv 0))))))) ad_nil))))) sd_nil))))))
theorem sc_l_spot : FnScope ["_law_more"] ["_law_more"] (defScope s_l_spot) := ⟨rfl, rfl, rfl, by decide +kernel, rfl, by decide +kernel, by decide +kernel⟩
theorem df_l_spot (T : Tx w base K mg) : Df P w K mg base 1 "_law_spot" 1 F_l_spot := by
  obtain ⟨fd, Fn⟩ := T.d_l_spot
  refine df_mk Fn sc_l_spot T.g_l_spot (fun _ _ _ _ _ _ us hl => match us, hl with | [_], _ => rfl) fun cdv A outer s H E hr tk => ?_
  exact (sd_one (sd_ret (pd_tup (ad_cons (dSub (pb_of (dMod (pbv 0) (pb_of pd_int))) (pb_of pd_int)) (ad_cons (dSub (pb_of (dMod (pb_of (dDiv (pbv 0) (pb_of pd_int))) (pb_of pd_int))) (pb_of pd_int)) (ad_cons (dSub (pb_of (dMod (pb_of (dDiv (pbv 0) (pb_of pd_int))) (pb_of pd_int))) (pb_of pd_int)) ad_nil))))))
theorem sc_l_put : FnScope ["_law_point", "_law_cell_here", "_law_scale"] ["_law_point", "_law_cell_here"] (defScope s_l_put) := ⟨rfl, rfl, rfl, by decide +kernel, rfl, by decide +kernel, by decide +kernel⟩
theorem df_l_put (T : Tx w base K mg) : Df P w K mg base 1 "_law_put" 2 F_l_put := by
  obtain ⟨fd, Fn⟩ := T.d_l_put
  refine df_mk Fn sc_l_put T.g_l_put (fun _ _ _ _ _ _ us hl => match us, hl with | [_, _], _ => rfl) fun cdv A outer s H E hr tk => ?_
  exact (sd_cons (sd_if (tEq hr (pb_of (dMod (pbv 1) (pb_of pd_int))) (pb_of pd_int)) (sd_one (sd_ret (pdv 0))) sd_nil) (sd_cons (sd_set (i := 2) sc_l_put.nd (dAdd (pb_of pd_int) (pb_of (dMod (pbv 1) (pb_of (dShl (pb_of pd_int) (pb_of pd_int))))))) (sd_one (sd_ret (pd_tup (ad_cons (dAdd (pb_of (dMul (pb_of (dIx (pbv 0) (pb_of pd_int))) (pbv 2))) (pb_of (dMod (pbv 1) (pb_of pd_int)))) (ad_cons (dSub (pb_of (dMul (pb_of (dIx (pbv 0) (pb_of pd_int))) (pbv 2))) (pb_of (dMod (pbv 1) (pb_of pd_int)))) (ad_cons (dAdd (pb_of (dMul (pb_of (dIx (pbv 0) (pb_of pd_int))) (pbv 2))) (pb_of pd_int)) ad_nil))))))))
theorem sc_l_ray : FnScope ["_law_script", "_law_k", "_law_more", "_law_start", "_law_way", "_law_often", "_law_n"] ["_law_script", "_law_k"] (defScope s_l_ray) := ⟨rfl, rfl, rfl, by decide +kernel, rfl, by decide +kernel, by decide +kernel⟩
theorem df_l_ray (T : Tx w base K mg) : Df P w K mg base 2 "_law_ray" 2 F_l_ray_2 := by
  obtain ⟨fd, Fn⟩ := T.d_l_ray
  refine df_mk Fn sc_l_ray T.g_l_ray (fun _ _ _ _ _ _ us hl => match us, hl with | [_, _], _ => rfl) fun cdv A outer s H E hr tk => ?_
  exact (sd_cons (sd_set (i := 2) sc_l_ray.nd (dCall (df_l_drawn T) hr (by decide) tk (ad_cons (dCall (df_l_cell T) hr (by decide) tk (ad_cons (pdv 0) (ad_cons (pdv 1) ad_nil))) (ad_cons (pdv 1) ad_nil)))) (sd_cons (sd_set (i := 3) sc_l_ray.nd (dCall (df_l_spot T) hr (by decide) tk (ad_cons (pdv 2) ad_nil))) (sd_cons (sd_set (i := 4) sc_l_ray.nd (dCall (df_l_spot T) hr (by decide) tk (ad_cons (dDiv (pbv 2) (pb_of pd_int)) ad_nil))) (sd_cons (sd_if (td_of (tw_or (tEq hr (pb_of (dMod (pb_of (dDiv (pbv 2) (pb_of pd_int))) (pb_of pd_int))) (pb_of pd_int)) (tw_or1 (tEq hr (pbv 4) (pb_of (pd_tup (ad_cons pd_int (ad_cons pd_int (ad_cons pd_int ad_nil))))))))) (sd_one (sd_set (i := 4) sc_l_ray.nd (dIx (pb_of (pd_new (pn_lst (ad_cons (pd_tup (ad_cons pd_int (ad_cons pd_int (ad_cons pd_int ad_nil)))) (ad_cons (pd_tup (ad_cons pd_int (ad_cons (dSub (pb_of pd_int) (pb_of pd_int)) (ad_cons pd_int ad_nil)))) (ad_cons (pd_tup (ad_cons pd_int (ad_cons pd_int (ad_cons pd_int ad_nil)))) (ad_cons (pd_tup (ad_cons pd_int (ad_cons pd_int (ad_cons pd_int ad_nil)))) (ad_cons (pd_tup (ad_cons pd_int (ad_cons pd_int (ad_cons (dSub (pb_of pd_int) (pb_of pd_int)) ad_nil)))) (ad_cons (pd_tup (ad_cons (dSub (pb_of pd_int) (pb_of pd_int)) (ad_cons pd_int (ad_cons pd_int ad_nil)))) ad_nil))))))))) (pb_of (dMod (pb_of (dDiv (pbv 2) (pb_of pd_int))) (pb_of pd_int)))))) sd_nil) (sd_cons (sd_set (i := 5) sc_l_ray.nd (dMod (pb_of (dDiv (pbv 2) (pb_of pd_int))) (pb_of pd_int))) (sd_cons (sd_set (i := 3) sc_l_ray.nd (dTuple T.f_tuple (pb_of (pd_new (pn_lc (own := [("_law_n", 6)]) (js := [6]) rfl sc_l_ray.nd (itR T.f_range (pb_of pd_int)) (blkOk_by (by rfl)) (fun _ _ _ _ _ => (gdN (i := 6) sc_l_ray.nd rfl (by first | exact Or.inl rfl | exact Or.inr rfl))) (fun _ _ _ _ _ => tds_nil) (fun _ _ _ _ _ => (dSub (pb_of (dIx (pbv 3) (pbv 6))) (pb_of (dMul (pbv 5) (pb_of (dIx (pbv 4) (pbv 6)))))))))))) (sd_one (sd_ret (pd_tup (ad_cons (dCall (df_l_put T) hr (by decide) tk (ad_cons (pdv 3) (ad_cons (dCall (df_l_cell T) hr (by decide) tk (ad_cons (pdv 0) (ad_cons pd_int ad_nil))) ad_nil))) (ad_cons (pdv 4) ad_nil)))))))))))
theorem sc_l_far : FnScope ["_law_way", "_law_cell_here", "_law_one"] ["_law_way", "_law_cell_here"] (defScope s_l_far) := ⟨rfl, rfl, rfl, by decide +kernel, rfl, by decide +kernel, by decide +kernel⟩
theorem df_l_far (T : Tx w base K mg) : Df P w K mg base 1 "_law_far" 2 F_l_far := by
  obtain ⟨fd, Fn⟩ := T.d_l_far
  refine df_mk Fn sc_l_far T.g_l_far (fun _ _ _ _ _ _ us hl => match us, hl with | [_, _], _ => rfl) fun cdv A outer s H E hr tk => ?_
  exact (sd_cons (sd_if (tEq hr (pb_of (dMod (pbv 1) (pb_of pd_int))) (pb_of pd_int)) (sd_one (sd_ret (pdv 0))) sd_nil) (sd_one (sd_ret (dTuple T.f_tuple (pb_of (pd_new (pn_lc (own := [("_law_one", 2)]) (js := [2]) rfl sc_l_far.nd (itB (pbv 0)) (blkOk_by (by rfl)) (fun _ _ _ _ _ => (gdN (i := 2) sc_l_far.nd rfl (by first | exact Or.inl rfl | exact Or.inr rfl))) (fun _ _ _ _ _ => tds_nil) (fun _ _ _ _ _ => (dMul (pbv 2) (pb_of (dAdd (pb_of pd_int) (pb_of (dMod (pbv 1) (pb_of (dShl (pb_of pd_int) (pb_of pd_int))))))))))))))))
theorem sc_need_ray : FnScope ["ray"] ["ray"] (defScope s_need_ray) := ⟨rfl, rfl, rfl, by decide +kernel, rfl, by decide +kernel, by decide +kernel⟩
theorem df_need_ray (T : Tx w base K mg) : Df P w K mg base 1 "need_ray" 1 F_need_ray := by
  obtain ⟨fd, Fn⟩ := T.d_need_ray
  refine df_mk Fn sc_need_ray T.g_need_ray (fun _ _ _ _ _ _ us hl => match us, hl with | [_], _ => rfl) fun cdv A outer s H E hr tk => ?_
  exact (sd_one (sd_if (tEq hr (pb_of (dIx (pbv 0) (pb_of pd_int))) (pb_of (pd_tupI (ns := [0, 0, 0]) T.g_ZERO T.t_ZERO))) (sd_one (sd_raise tk T.x_NoRay)) sd_nil))
theorem sc_is_less : FnScope ["one", "other"] ["one", "other"] (defScope s_is_less) := ⟨rfl, rfl, rfl, by decide +kernel, rfl, by decide +kernel, by decide +kernel⟩
theorem df_is_less (T : Tx w base K mg) : Df P w K mg base 1 "is_less" 2 F_is_less := by
  obtain ⟨fd, Fn⟩ := T.d_is_less
  refine df_mk Fn sc_is_less T.g_is_less (fun _ _ _ _ _ _ us hl => match us, hl with | [_, _], _ => rfl) fun cdv A outer s H E hr tk => ?_
  exact (sd_one (sd_ret (dLt (pb_of (dMul (pb_of (dIx (pbv 0) (pb_of pd_int))) (pb_of (dIx (pbv 1) (pb_of pd_int))))) (pb_of (dMul (pb_of (dIx (pbv 1) (pb_of pd_int))) (pb_of (dIx (pbv 0) (pb_of pd_int))))))))
theorem sc_ratio : FnScope ["top", "under", "one", "other"] ["top", "under"] (defScope s_ratio) := ⟨rfl, rfl, rfl, by decide +kernel, rfl, by decide +kernel, by decide +kernel⟩
theorem df_ratio (T : Tx w base K mg) : Df P w K mg base 1 "ratio" 2 F_ratio := by
  obtain ⟨fd, Fn⟩ := T.d_ratio
  refine df_mk Fn sc_ratio T.g_ratio (fun _ _ _ _ _ _ us hl => match us, hl with | [_, _], _ => rfl) fun cdv A outer s H E hr tk => ?_
  exact (sd_cons (sd_set (i := 2) sc_ratio.nd (dAbs T.f_abs (pbv 0))) (sd_cons (sd_set (i := 3) sc_ratio.nd (dAbs T.f_abs (pbv 1))) (sd_cons (sd_while PassesOwn.leaving (tNe hr (pbv 3) (pb_of pd_int)) (sd_one (sd_par (i := 2) (j := 3) rfl sc_ratio.nd rfl rfl (by decide) rfl rfl (ad_cons (pdv 3) (ad_cons (dMod (pbv 2) (pbv 3)) ad_nil))))) (sd_cons (sd_if (tLt (pbv 1) (pb_of pd_int)) (sd_one (sd_set (i := 2) sc_ratio.nd (dSub (pb_of pd_int) (pbv 2)))) sd_nil) (sd_one (sd_ret (pd_tup (ad_cons (dDiv (pbv 0) (pbv 2)) (ad_cons (dDiv (pbv 1) (pbv 2)) ad_nil)))))))))
theorem sc_times_in : FnScope ["start", "way", "low", "high", "ends"] ["start", "way", "low", "high"] (defScope s_times_in) := ⟨rfl, rfl, rfl, by decide +kernel, rfl, by decide +kernel, by decide +kernel⟩
theorem df_times_in (T : Tx w base K mg) : Df P w K mg base 2 "times_in" 4 F_times_in := by
  obtain ⟨fd, Fn⟩ := T.d_times_in
  refine df_mk Fn sc_times_in T.g_times_in (fun _ _ _ _ _ _ us hl => match us, hl with | [_, _, _, _], _ => rfl) fun cdv A outer s H E hr tk => ?_
  exact (sd_cons (sd_if (tEq hr (pbv 1) (pb_of pd_int)) (sd_cons (sd_if (td_of (tw_and (tLe (pbv 2) (pbv 0)) (tw_and1 (tLe (pbv 0) (pbv 3))))) (sd_one (sd_ret (pd_tup (ad_cons pd_non (ad_cons pd_non ad_nil))))) sd_nil) (sd_one (sd_ret pd_bl))) sd_nil) (sd_cons (sd_set (i := 4) sc_times_in.nd (pd_tup (ad_cons (dCall (df_ratio T) hr (by decide) tk (ad_cons (dSub (pbv 2) (pbv 0)) (ad_cons (pdv 1) ad_nil))) (ad_cons (dCall (df_ratio T) hr (by decide) tk (ad_cons (dSub (pbv 3) (pbv 0)) (ad_cons (pdv 1) ad_nil))) ad_nil)))) (sd_cons (sd_if (td_val (dCall (df_is_less T) hr (by decide) tk (ad_cons (dIx (pbv 4) (pb_of pd_int)) (ad_cons (dIx (pbv 4) (pb_of pd_int)) ad_nil)))) (sd_one (sd_ret (pd_tup (ad_cons (dIx (pbv 4) (pb_of pd_int)) (ad_cons (dIx (pbv 4) (pb_of pd_int)) ad_nil))))) sd_nil) (sd_one (sd_ret (pdv 4))))))
theorem sc_stay_in : FnScope ["ray", "box", "low", "high", "k", "times"] ["ray", "box"] (defScope s_stay_in) := ⟨rfl, rfl, rfl, by decide +kernel, rfl, by decide +kernel, by decide +kernel⟩
theorem df_stay_in (T : Tx w base K mg) : Df P w K mg base 3 "stay_in" 2 F_stay_in := by
  obtain ⟨fd, Fn⟩ := T.d_stay_in
  refine df_mk Fn sc_stay_in T.g_stay_in (fun _ _ _ _ _ _ us hl => match us, hl with | [_, _], _ => rfl) fun cdv A outer s H E hr tk => ?_
  exact (sd_cons (sd_set (i := 2) sc_stay_in.nd (pd_tup (ad_cons pd_int (ad_cons pd_int ad_nil)))) (sd_cons (sd_set (i := 3) sc_stay_in.nd pd_non) (sd_cons (sd_for (js := [4]) PassesOwn.leaving rfl (itRS T.f_range (pb_of pd_int)) (gdN (i := 4) sc_stay_in.nd rfl (by first | exact Or.inl rfl | exact Or.inr rfl)) (sd_cons (sd_set (i := 5) sc_stay_in.nd (dCall (df_times_in T) hr (by decide) tk (ad_cons (dIx (pb_of (dIx (pbv 0) (pb_of pd_int))) (pbv 4)) (ad_cons (dIx (pb_of (dIx (pbv 0) (pb_of pd_int))) (pbv 4)) (ad_cons (dIx (pb_of (dIx (pbv 1) (pb_of pd_int))) (pbv 4)) (ad_cons (dIx (pb_of (dIx (pbv 1) (pb_of pd_int))) (pbv 4)) ad_nil)))))) (sd_cons (sd_if (tIsB (pbv 5) (pb_of pd_bl)) (sd_one (sd_ret pd_non)) sd_nil) (sd_one (sd_if (tNotN (pb_of (dIx (pbv 5) (pb_of pd_int))) (pb_of pd_non)) (sd_cons (sd_if (td_val (dCall (df_is_less T) hr (by decide) tk (ad_cons (pdv 2) (ad_cons (dIx (pbv 5) (pb_of pd_int)) ad_nil)))) (sd_one (sd_set (i := 2) sc_stay_in.nd (dIx (pbv 5) (pb_of pd_int)))) sd_nil) (sd_one (sd_if (td_of (tw_or (tIsN (pbv 3) (pb_of pd_non)) (tw_or1 (td_val (dCall (df_is_less T) hr (by decide) tk (ad_cons (dIx (pbv 5) (pb_of pd_int)) (ad_cons (pdv 3) ad_nil))))))) (sd_one (sd_set (i := 3) sc_stay_in.nd (dIx (pbv 5) (pb_of pd_int)))) sd_nil))) sd_nil))))) (sd_cons (sd_if (td_of (tw_and (tNotN (pbv 3) (pb_of pd_non)) (tw_and1 (td_val (dCall (df_is_less T) hr (by decide) tk (ad_cons (pdv 3) (ad_cons (pdv 2) ad_nil))))))) (sd_one (sd_ret pd_non)) sd_nil) (sd_one (sd_ret (pd_tup (ad_cons (pdv 2) (ad_cons (pdv 3) ad_nil)))))))))
theorem sc_meets_box : FnScope ["ray", "box", "stay"] ["ray", "box"] (defScope s_meets_box) := ⟨rfl, rfl, rfl, by decide +kernel, rfl, by decide +kernel, by decide +kernel⟩
theorem df_meets_box (T : Tx w base K mg) : Df P w K mg base 4 "meets_box" 2 F_meets_box := by
  obtain ⟨fd, Fn⟩ := T.d_meets_box
  refine df_mk Fn sc_meets_box T.g_meets_box (fun _ _ _ _ _ _ us hl => match us, hl with | [_, _], _ => rfl) fun cdv A outer s H E hr tk => ?_
  exact (sd_cons (sd_set (i := 2) sc_meets_box.nd (dCall (df_stay_in T) hr (by decide) tk (ad_cons (pdv 0) (ad_cons (pdv 1) ad_nil)))) (sd_cons (sd_if (tIsN (pbv 2) (pb_of pd_non)) (sd_one (sd_ret pd_non)) sd_nil) (sd_one (sd_ret (dIx (pbv 2) (pb_of pd_int))))))
theorem sc_cross : FnScope ["one", "other"] ["one", "other"] (defScope s_cross) := ⟨rfl, rfl, rfl, by decide +kernel, rfl, by decide +kernel, by decide +kernel⟩
theorem df_cross (T : Tx w base K mg) : Df P w K mg base 1 "cross" 2 F_cross := by
  obtain ⟨fd, Fn⟩ := T.d_cross
  refine df_mk Fn sc_cross T.g_cross (fun _ _ _ _ _ _ us hl => match us, hl with | [_, _], _ => rfl) fun cdv A outer s H E hr tk => ?_
  exact (sd_one (sd_ret (pd_tup (ad_cons (dSub (pb_of (dMul (pb_of (dIx (pbv 0) (pb_of pd_int))) (pb_of (dIx (pbv 1) (pb_of pd_int))))) (pb_of (dMul (pb_of (dIx (pbv 0) (pb_of pd_int))) (pb_of (dIx (pbv 1) (pb_of pd_int)))))) (ad_cons (dSub (pb_of (dMul (pb_of (dIx (pbv 0) (pb_of pd_int))) (pb_of (dIx (pbv 1) (pb_of pd_int))))) (pb_of (dMul (pb_of (dIx (pbv 0) (pb_of pd_int))) (pb_of (dIx (pbv 1) (pb_of pd_int)))))) (ad_cons (dSub (pb_of (dMul (pb_of (dIx (pbv 0) (pb_of pd_int))) (pb_of (dIx (pbv 1) (pb_of pd_int))))) (pb_of (dMul (pb_of (dIx (pbv 0) (pb_of pd_int))) (pb_of (dIx (pbv 1) (pb_of pd_int)))))) ad_nil))))))
theorem sc_dot : FnScope ["one", "other"] ["one", "other"] (defScope s_dot) := ⟨rfl, rfl, rfl, by decide +kernel, rfl, by decide +kernel, by decide +kernel⟩
theorem df_dot (T : Tx w base K mg) : Df P w K mg base 1 "dot" 2 F_dot := by
  obtain ⟨fd, Fn⟩ := T.d_dot
  refine df_mk Fn sc_dot T.g_dot (fun _ _ _ _ _ _ us hl => match us, hl with | [_, _], _ => rfl) fun cdv A outer s H E hr tk => ?_
  exact (sd_one (sd_ret (dAdd (pb_of (dAdd (pb_of (dMul (pb_of (dIx (pbv 0) (pb_of pd_int))) (pb_of (dIx (pbv 1) (pb_of pd_int))))) (pb_of (dMul (pb_of (dIx (pbv 0) (pb_of pd_int))) (pb_of (dIx (pbv 1) (pb_of pd_int))))))) (pb_of (dMul (pb_of (dIx (pbv 0) (pb_of pd_int))) (pb_of (dIx (pbv 1) (pb_of pd_int))))))))
theorem sc_sign : FnScope ["number"] ["number"] (defScope s_sign) := ⟨rfl, rfl, rfl, by decide +kernel, rfl, by decide +kernel, by decide +kernel⟩
theorem df_sign (T : Tx w base K mg) : Df P w K mg base 1 "sign" 1 F_sign := by
  obtain ⟨fd, Fn⟩ := T.d_sign
  refine df_mk Fn sc_sign T.g_sign (fun _ _ _ _ _ _ us hl => match us, hl with | [_], _ => rfl) fun cdv A outer s H E hr tk => ?_
  exact (sd_one (sd_ret (dSub (pb_of (dInt T.f_int (pb_of (dGt (pbv 0) (pb_of pd_int))))) (pb_of (dInt T.f_int (pb_of (dLt (pbv 0) (pb_of pd_int))))))))
theorem sc_minus : FnScope ["one", "other"] ["one", "other"] (defScope s_minus) := ⟨rfl, rfl, rfl, by decide +kernel, rfl, by decide +kernel, by decide +kernel⟩
theorem df_minus (T : Tx w base K mg) : Df P w K mg base 1 "minus" 2 F_minus := by
  obtain ⟨fd, Fn⟩ := T.d_minus
  refine df_mk Fn sc_minus T.g_minus (fun _ _ _ _ _ _ us hl => match us, hl with | [_, _], _ => rfl) fun cdv A outer s H E hr tk => ?_
  exact (sd_one (sd_ret (pd_tup (ad_cons (dSub (pb_of (dIx (pbv 0) (pb_of pd_int))) (pb_of (dIx (pbv 1) (pb_of pd_int)))) (ad_cons (dSub (pb_of (dIx (pbv 0) (pb_of pd_int))) (pb_of (dIx (pbv 1) (pb_of pd_int)))) (ad_cons (dSub (pb_of (dIx (pbv 0) (pb_of pd_int))) (pb_of (dIx (pbv 1) (pb_of pd_int)))) ad_nil))))))
theorem sc_turn : FnScope ["a", "b", "c", "upon"] ["a", "b", "c", "upon"] (defScope s_turn) := ⟨rfl, rfl, rfl, by decide +kernel, rfl, by decide +kernel, by decide +kernel⟩
theorem df_turn (T : Tx w base K mg) : Df P w K mg base 2 "turn" 4 F_turn := by
  obtain ⟨fd, Fn⟩ := T.d_turn
  refine df_mk Fn sc_turn T.g_turn (fun _ _ _ _ _ _ us hl => match us, hl with | [_, _, _, _], _ => rfl) fun cdv A outer s H E hr tk => ?_
  exact (sd_one (sd_ret (dCall (df_sign T) hr (by decide) tk (ad_cons (dCall (df_dot T) hr (by decide) tk (ad_cons (dCall (df_cross T) hr (by decide) tk (ad_cons (dCall (df_minus T) hr (by decide) tk (ad_cons (pdv 1) (ad_cons (pdv 0) ad_nil))) (ad_cons (dCall (df_minus T) hr (by decide) tk (ad_cons (pdv 2) (ad_cons (pdv 0) ad_nil))) ad_nil))) (ad_cons (pdv 3) ad_nil))) ad_nil))))
theorem sc_is_within : FnScope ["triangle", "upon", "point", "top", "under", "a", "b", "c", "one", "turns"] ["triangle", "upon", "point"] (defScope s_is_within) := ⟨rfl, rfl, rfl, by decide +kernel, rfl, by decide +kernel, by decide +kernel⟩
theorem df_is_within (T : Tx w base K mg) : Df P w K mg base 3 "is_within" 3 F_is_within := by
  obtain ⟨fd, Fn⟩ := T.d_is_within
  refine df_mk Fn sc_is_within T.g_is_within (fun _ _ _ _ _ _ us hl => match us, hl with | [_, _, _], _ => rfl) fun cdv A outer s H E hr tk => ?_
  exact (sd_cons (sd_asg (pdv 2) (gdT (n := 2) rfl (gds_cons (gdN (i := 3) sc_is_within.nd rfl (by first | exact Or.inl rfl | exact Or.inr rfl)) (gds_cons (gdN (i := 4) sc_is_within.nd rfl (by first | exact Or.inl rfl | exact Or.inr rfl)) gds_nil)))) (sd_cons (sd_asg (pd_new (pn_lc (own := [("one", 8)]) (js := [8]) rfl sc_is_within.nd (itB (pbv 0)) (blkOk_by (by rfl)) (fun _ _ _ _ _ => (gdN (i := 8) sc_is_within.nd rfl (by first | exact Or.inl rfl | exact Or.inr rfl))) (fun _ _ _ _ _ => tds_nil) (fun _ _ _ _ _ => (pd_tup (ad_cons (dMul (pb_of (dIx (pbv 8) (pb_of pd_int))) (pbv 4)) (ad_cons (dMul (pb_of (dIx (pbv 8) (pb_of pd_int))) (pbv 4)) (ad_cons (dMul (pb_of (dIx (pbv 8) (pb_of pd_int))) (pbv 4)) ad_nil))))))) (gdT (n := 3) rfl (gds_cons (gdN (i := 5) sc_is_within.nd rfl (by first | exact Or.inl rfl | exact Or.inr rfl)) (gds_cons (gdN (i := 6) sc_is_within.nd rfl (by first | exact Or.inl rfl | exact Or.inr rfl)) (gds_cons (gdN (i := 7) sc_is_within.nd rfl (by first | exact Or.inl rfl | exact Or.inr rfl)) gds_nil))))) (sd_cons (sd_set (i := 9) sc_is_within.nd (pd_new (pn_lst (ad_cons (dCall (df_turn T) hr (by decide) tk (ad_cons (pdv 5) (ad_cons (pdv 6) (ad_cons (pdv 3) (ad_cons (pdv 1) ad_nil))))) (ad_cons (dCall (df_turn T) hr (by decide) tk (ad_cons (pdv 6) (ad_cons (pdv 7) (ad_cons (pdv 3) (ad_cons (pdv 1) ad_nil))))) (ad_cons (dCall (df_turn T) hr (by decide) tk (ad_cons (pdv 7) (ad_cons (pdv 5) (ad_cons (pdv 3) (ad_cons (pdv 1) ad_nil))))) ad_nil)))))) (sd_one (sd_ret (pd_not (pd_and (dIn (pb_of pd_int) (pbv 9)) (pd_one (dIn (pb_of (dNeg (pb_of pd_int))) (pbv 9))))))))))
theorem sc_lesser : FnScope ["one", "other"] ["one", "other"] (defScope s_lesser) := ⟨rfl, rfl, rfl, by decide +kernel, rfl, by decide +kernel, by decide +kernel⟩
theorem df_lesser (T : Tx w base K mg) : Df P w K mg base 2 "lesser" 2 F_lesser := by
  obtain ⟨fd, Fn⟩ := T.d_lesser
  refine df_mk Fn sc_lesser T.g_lesser (fun _ _ _ _ _ _ us hl => match us, hl with | [_, _], _ => rfl) fun cdv A outer s H E hr tk => ?_
  exact (sd_cons (sd_if (td_of (tw_or (tIsN (pbv 0) (pb_of pd_non)) (tw_or1 (td_of (tw_and (tNotN (pbv 1) (pb_of pd_non)) (tw_and1 (td_val (dCall (df_is_less T) hr (by decide) tk (ad_cons (pdv 1) (ad_cons (pdv 0) ad_nil)))))))))) (sd_one (sd_ret (pdv 1))) sd_nil) (sd_one (sd_ret (pdv 0))))
theorem sc_along : FnScope ["ray", "point", "top"] ["ray", "point"] (defScope s_along) := ⟨rfl, rfl, rfl, by decide +kernel, rfl, by decide +kernel, by decide +kernel⟩
theorem df_along (T : Tx w base K mg) : Df P w K mg base 2 "along" 2 F_along := by
  obtain ⟨fd, Fn⟩ := T.d_along
  refine df_mk Fn sc_along T.g_along (fun _ _ _ _ _ _ us hl => match us, hl with | [_, _], _ => rfl) fun cdv A outer s H E hr tk => ?_
  exact (sd_cons (sd_set (i := 2) sc_along.nd (dCall (df_dot T) hr (by decide) tk (ad_cons (dCall (df_minus T) hr (by decide) tk (ad_cons (pdv 1) (ad_cons (dIx (pbv 0) (pb_of pd_int)) ad_nil))) (ad_cons (dIx (pbv 0) (pb_of pd_int)) ad_nil)))) (sd_cons (sd_if (tLt (pbv 2) (pb_of pd_int)) (sd_one (sd_ret pd_non)) sd_nil) (sd_one (sd_ret (dCall (df_ratio T) hr (by decide) tk (ad_cons (pdv 2) (ad_cons (dCall (df_dot T) hr (by decide) tk (ad_cons (dIx (pbv 0) (pb_of pd_int)) (ad_cons (dIx (pbv 0) (pb_of pd_int)) ad_nil))) ad_nil)))))))
theorem sc_on_line : FnScope ["ray", "one", "other", "first", "second"] ["ray", "one", "other"] (defScope s_on_line) := ⟨rfl, rfl, rfl, by decide +kernel, rfl, by decide +kernel, by decide +kernel⟩
theorem df_on_line (T : Tx w base K mg) : Df P w K mg base 3 "on_line" 3 F_on_line := by
  obtain ⟨fd, Fn⟩ := T.d_on_line
  refine df_mk Fn sc_on_line T.g_on_line (fun _ _ _ _ _ _ us hl => match us, hl with | [_, _, _], _ => rfl) fun cdv A outer s H E hr tk => ?_
  exact (sd_cons (sd_set (i := 3) sc_on_line.nd (dCall (df_along T) hr (by decide) tk (ad_cons (pdv 0) (ad_cons (pdv 1) ad_nil)))) (sd_cons (sd_set (i := 4) sc_on_line.nd (dCall (df_along T) hr (by decide) tk (ad_cons (pdv 0) (ad_cons (pdv 2) ad_nil)))) (sd_cons (sd_if (td_of (tw_and (tIsN (pbv 3) (pb_of pd_non)) (tw_and1 (tIsN (pbv 4) (pb_of pd_non))))) (sd_one (sd_ret pd_non)) sd_nil) (sd_cons (sd_if (td_of (tw_or (tIsN (pbv 3) (pb_of pd_non)) (tw_or1 (tIsN (pbv 4) (pb_of pd_non))))) (sd_one (sd_ret (pd_tup (ad_cons pd_int (ad_cons pd_int ad_nil))))) sd_nil) (sd_one (sd_ret (dCall (df_lesser T) hr (by decide) tk (ad_cons (pdv 3) (ad_cons (pdv 4) ad_nil)))))))))
theorem sc_meets_segment : FnScope ["ray", "one", "other", "start", "way", "side", "gap", "upon", "wide", "when", "where"] ["ray", "one", "other"] (defScope s_meets_segment) := ⟨rfl, rfl, rfl, by decide +kernel, rfl, by decide +kernel, by decide +kernel⟩
theorem df_meets_segment (T : Tx w base K mg) : Df P w K mg base 4 "meets_segment" 3 F_meets_segment := by
  obtain ⟨fd, Fn⟩ := T.d_meets_segment
  refine df_mk Fn sc_meets_segment T.g_meets_segment (fun _ _ _ _ _ _ us hl => match us, hl with | [_, _, _], _ => rfl) fun cdv A outer s H E hr tk => ?_
  exact (sd_cons (sd_asg (pdv 0) (gdT (n := 2) rfl (gds_cons (gdN (i := 3) sc_meets_segment.nd rfl (by first | exact Or.inl rfl | exact Or.inr rfl)) (gds_cons (gdN (i := 4) sc_meets_segment.nd rfl (by first | exact Or.inl rfl | exact Or.inr rfl)) gds_nil)))) (sd_cons (sd_set (i := 5) sc_meets_segment.nd (dCall (df_minus T) hr (by decide) tk (ad_cons (pdv 2) (ad_cons (pdv 1) ad_nil)))) (sd_cons (sd_set (i := 6) sc_meets_segment.nd (dCall (df_minus T) hr (by decide) tk (ad_cons (pdv 1) (ad_cons (pdv 3) ad_nil)))) (sd_cons (sd_set (i := 7) sc_meets_segment.nd (dCall (df_cross T) hr (by decide) tk (ad_cons (pdv 4) (ad_cons (pdv 5) ad_nil)))) (sd_cons (sd_if (tEq hr (pbv 7) (pb_of (pd_tupI (ns := [0, 0, 0]) T.g_ZERO T.t_ZERO))) (sd_cons (sd_if (tNe hr (pb_of (dCall (df_cross T) hr (by decide) tk (ad_cons (pdv 6) (ad_cons (pdv 4) ad_nil)))) (pb_of (pd_tupI (ns := [0, 0, 0]) T.g_ZERO T.t_ZERO))) (sd_one (sd_ret pd_non)) sd_nil) (sd_one (sd_ret (dCall (df_on_line T) hr (by decide) tk (ad_cons (pdv 0) (ad_cons (pdv 1) (ad_cons (pdv 2) ad_nil))))))) sd_nil) (sd_cons (sd_if (tNe hr (pb_of (dCall (df_dot T) hr (by decide) tk (ad_cons (pdv 6) (ad_cons (pdv 7) ad_nil)))) (pb_of pd_int)) (sd_one (sd_ret pd_non)) sd_nil) (sd_cons (sd_set (i := 8) sc_meets_segment.nd (dCall (df_dot T) hr (by decide) tk (ad_cons (pdv 7) (ad_cons (pdv 7) ad_nil)))) (sd_cons (sd_set (i := 9) sc_meets_segment.nd (dCall (df_dot T) hr (by decide) tk (ad_cons (dCall (df_cross T) hr (by decide) tk (ad_cons (pdv 6) (ad_cons (pdv 5) ad_nil))) (ad_cons (pdv 7) ad_nil)))) (sd_cons (sd_set (i := 10) sc_meets_segment.nd (dCall (df_dot T) hr (by decide) tk (ad_cons (dCall (df_cross T) hr (by decide) tk (ad_cons (pdv 6) (ad_cons (pdv 4) ad_nil))) (ad_cons (pdv 7) ad_nil)))) (sd_cons (sd_if (td_of (tw_or (tLt (pbv 9) (pb_of pd_int)) (tw_or (tLt (pbv 10) (pb_of pd_int)) (tw_or1 (tGt (pbv 10) (pbv 8)))))) (sd_one (sd_ret pd_non)) sd_nil) (sd_one (sd_ret (dCall (df_ratio T) hr (by decide) tk (ad_cons (pdv 9) (ad_cons (pdv 8) ad_nil)))))))))))))))
theorem sc_meets_flat : FnScope ["ray", "triangle", "a", "b", "c", "found"] ["ray", "triangle"] (defScope s_meets_flat) := ⟨rfl, rfl, rfl, by decide +kernel, rfl, by decide +kernel, by decide +kernel⟩
theorem df_meets_flat (T : Tx w base K mg) : Df P w K mg base 5 "meets_flat" 2 F_meets_flat := by
  obtain ⟨fd, Fn⟩ := T.d_meets_flat
  refine df_mk Fn sc_meets_flat T.g_meets_flat (fun _ _ _ _ _ _ us hl => match us, hl with | [_, _], _ => rfl) fun cdv A outer s H E hr tk => ?_
  exact (sd_cons (sd_asg (pdv 1) (gdT (n := 3) rfl (gds_cons (gdN (i := 2) sc_meets_flat.nd rfl (by first | exact Or.inl rfl | exact Or.inr rfl)) (gds_cons (gdN (i := 3) sc_meets_flat.nd rfl (by first | exact Or.inl rfl | exact Or.inr rfl)) (gds_cons (gdN (i := 4) sc_meets_flat.nd rfl (by first | exact Or.inl rfl | exact Or.inr rfl)) gds_nil))))) (sd_cons (sd_set (i := 5) sc_meets_flat.nd (dCall (df_lesser T) hr (by decide) tk (ad_cons (dCall (df_meets_segment T) hr (by decide) tk (ad_cons (pdv 0) (ad_cons (pdv 2) (ad_cons (pdv 3) ad_nil)))) (ad_cons (dCall (df_meets_segment T) hr (by decide) tk (ad_cons (pdv 0) (ad_cons (pdv 3) (ad_cons (pdv 4) ad_nil)))) ad_nil)))) (sd_one (sd_ret (dCall (df_lesser T) hr (by decide) tk (ad_cons (pdv 5) (ad_cons (dCall (df_meets_segment T) hr (by decide) tk (ad_cons (pdv 0) (ad_cons (pdv 4) (ad_cons (pdv 2) ad_nil)))) ad_nil)))))))
theorem sc_meets_triangle : FnScope ["ray", "triangle", "start", "way", "a", "b", "c", "upon", "under", "top", "when", "point", "k"] ["ray", "triangle"] (defScope s_meets_triangle) := ⟨rfl, rfl, rfl, by decide +kernel, rfl, by decide +kernel, by decide +kernel⟩
theorem df_meets_triangle (T : Tx w base K mg) : Df P w K mg base 6 "meets_triangle" 2 F_meets_triangle := by
  obtain ⟨fd, Fn⟩ := T.d_meets_triangle
  refine df_mk Fn sc_meets_triangle T.g_meets_triangle (fun _ _ _ _ _ _ us hl => match us, hl with | [_, _], _ => rfl) fun cdv A outer s H E hr tk => ?_
  exact (sd_cons (sd_asg (pdv 0) (gdT (n := 2) rfl (gds_cons (gdN (i := 2) sc_meets_triangle.nd rfl (by first | exact Or.inl rfl | exact Or.inr rfl)) (gds_cons (gdN (i := 3) sc_meets_triangle.nd rfl (by first | exact Or.inl rfl | exact Or.inr rfl)) gds_nil)))) (sd_cons (sd_asg (pdv 1) (gdT (n := 3) rfl (gds_cons (gdN (i := 4) sc_meets_triangle.nd rfl (by first | exact Or.inl rfl | exact Or.inr rfl)) (gds_cons (gdN (i := 5) sc_meets_triangle.nd rfl (by first | exact Or.inl rfl | exact Or.inr rfl)) (gds_cons (gdN (i := 6) sc_meets_triangle.nd rfl (by first | exact Or.inl rfl | exact Or.inr rfl)) gds_nil))))) (sd_cons (sd_set (i := 7) sc_meets_triangle.nd (dCall (df_cross T) hr (by decide) tk (ad_cons (dCall (df_minus T) hr (by decide) tk (ad_cons (pdv 5) (ad_cons (pdv 4) ad_nil))) (ad_cons (dCall (df_minus T) hr (by decide) tk (ad_cons (pdv 6) (ad_cons (pdv 4) ad_nil))) ad_nil)))) (sd_cons (sd_if (tEq hr (pbv 7) (pb_of (pd_tupI (ns := [0, 0, 0]) T.g_ZERO T.t_ZERO))) (sd_one (sd_ret (dCall (df_meets_flat T) hr (by decide) tk (ad_cons (pdv 0) (ad_cons (pdv 1) ad_nil))))) sd_nil) (sd_cons (sd_set (i := 8) sc_meets_triangle.nd (dCall (df_dot T) hr (by decide) tk (ad_cons (pdv 7) (ad_cons (pdv 3) ad_nil)))) (sd_cons (sd_set (i := 9) sc_meets_triangle.nd (dCall (df_dot T) hr (by decide) tk (ad_cons (pdv 7) (ad_cons (dCall (df_minus T) hr (by decide) tk (ad_cons (pdv 4) (ad_cons (pdv 2) ad_nil))) ad_nil)))) (sd_cons (sd_if (tEq hr (pbv 8) (pb_of pd_int)) (sd_cons (sd_if (tNe hr (pbv 9) (pb_of pd_int)) (sd_one (sd_ret pd_non)) sd_nil) (sd_cons (sd_if (td_val (dCall (df_is_within T) hr (by decide) tk (ad_cons (pdv 1) (ad_cons (pdv 7) (ad_cons (pd_tup (ad_cons (pdv 2) (ad_cons pd_int ad_nil))) ad_nil))))) (sd_one (sd_ret (pd_tup (ad_cons pd_int (ad_cons pd_int ad_nil))))) sd_nil) (sd_one (sd_ret (dCall (df_meets_flat T) hr (by decide) tk (ad_cons (pdv 0) (ad_cons (pdv 1) ad_nil))))))) sd_nil) (sd_cons (sd_set (i := 10) sc_meets_triangle.nd (dCall (df_ratio T) hr (by decide) tk (ad_cons (pdv 9) (ad_cons (pdv 8) ad_nil)))) (sd_cons (sd_if (td_val (dCall (df_is_less T) hr (by decide) tk (ad_cons (pdv 10) (ad_cons (pd_tup (ad_cons pd_int (ad_cons pd_int ad_nil))) ad_nil)))) (sd_one (sd_ret pd_non)) sd_nil) (sd_cons (sd_set (i := 11) sc_meets_triangle.nd (dTuple T.f_tuple (pb_of (pd_new (pn_lc (own := [("k", 12)]) (js := [12]) rfl sc_meets_triangle.nd (itR T.f_range (pb_of pd_int)) (blkOk_by (by rfl)) (fun _ _ _ _ _ => (gdN (i := 12) sc_meets_triangle.nd rfl (by first | exact Or.inl rfl | exact Or.inr rfl))) (fun _ _ _ _ _ => tds_nil) (fun _ _ _ _ _ => (dAdd (pb_of (dMul (pb_of (dIx (pbv 2) (pbv 12))) (pb_of (dIx (pbv 10) (pb_of pd_int))))) (pb_of (dMul (pb_of (dIx (pbv 3) (pbv 12))) (pb_of (dIx (pbv 10) (pb_of pd_int)))))))))))) (sd_cons (sd_if (td_val (dCall (df_is_within T) hr (by decide) tk (ad_cons (pdv 1) (ad_cons (pdv 7) (ad_cons (pd_tup (ad_cons (pdv 11) (ad_cons (dIx (pbv 10) (pb_of pd_int)) ad_nil))) ad_nil))))) (sd_one (sd_ret (pdv 10))) sd_nil) (sd_one (sd_ret pd_non)))))))))))))
theorem sc_meets : FnScope ["ray", "shape"] ["ray", "shape"] (defScope s_meets) := ⟨rfl, rfl, rfl, by decide +kernel, rfl, by decide +kernel, by decide +kernel⟩
theorem df_meets (T : Tx w base K mg) : Df P w K mg base 7 "meets" 2 F_meets := by
  obtain ⟨fd, Fn⟩ := T.d_meets
  refine df_mk Fn sc_meets T.g_meets (fun _ _ _ _ _ _ us hl => match us, hl with | [_, _], _ => rfl) fun cdv A outer s H E hr tk => ?_
  exact (sd_cons (sd_expr (dCall (df_need_ray T) hr (by decide) tk (ad_cons (pdv 0) ad_nil))) (sd_cons (sd_expr (dCall (df_need_shape T) hr (by decide) tk (ad_cons (pdv 1) ad_nil))) (sd_cons (sd_if (tEq hr (pb_of (dIx (pbv 1) (pb_of pd_int))) (pb_of pd_str)) (sd_one (sd_ret (dCall (df_meets_box T) hr (by decide) tk (ad_cons (pdv 0) (ad_cons (pd_tup (ad_cons (dIx (pbv 1) (pb_of pd_int)) (ad_cons (dIx (pbv 1) (pb_of pd_int)) ad_nil))) ad_nil))))) sd_nil) (sd_one (sd_ret (dCall (df_meets_triangle T) hr (by decide) tk (ad_cons (pdv 0) (ad_cons (dSl (pbv 1) (po1 (pb_of pd_int)) po0) ad_nil))))))))
theorem sc_Scene_better : FnScope ["self", "ray", "branch", "found", "number", "when"] ["self", "ray", "branch", "found"] (defScope s_Scene_better) := ⟨rfl, rfl, rfl, by decide +kernel, rfl, by decide +kernel, by decide +kernel⟩
theorem df_Scene_better (T : Tx w base K mg) : DfM P w K mg base 8 "Scene" "better" 4 F_Scene_better := by
  obtain ⟨fd, Fn⟩ := T.d_Scene_better
  refine dfm_mk Fn sc_Scene_better T.g_Scene T.c_Scene T.a_Scene_better (fun _ _ _ _ _ _ us hl => match us, hl with | [_, _, _, _], _ => rfl) fun cdv A outer s H E hr tk => ?_
  exact (sd_cons (sd_for (js := [4]) PassesOwn.leaving rfl (itS (dFld T.g_Branch T.c_Branch T.n_Branch_numbers (pbv 2))) (gdN (i := 4) sc_Scene_better.nd rfl (by first | exact Or.inl rfl | exact Or.inr rfl)) (sd_cons (sd_set (i := 5) sc_Scene_better.nd (dCall (df_meets T) hr (by decide) tk (ad_cons (pdv 1) (ad_cons (dIx (pb_of (dFld T.g_Scene T.c_Scene T.n_Scene_shapes (pbv 0))) (pbv 4)) ad_nil)))) (sd_one (sd_if (tNotN (pbv 5) (pb_of pd_non)) (sd_one (sd_if (td_of (tw_or (tIsN (pbv 3) (pb_of pd_non)) (tw_or (td_val (dCall (df_is_less T) hr (by decide) tk (ad_cons (pdv 5) (ad_cons (dIx (pbv 3) (pb_of pd_int)) ad_nil)))) (tw_or1 (td_of (tw_and (tEq hr (pbv 5) (pb_of (dIx (pbv 3) (pb_of pd_int)))) (tw_and1 (tLt (pbv 4) (pb_of (dIx (pbv 3) (pb_of pd_int))))))))))) (sd_one (sd_set (i := 3) sc_Scene_better.nd (pd_tup (ad_cons (pdv 5) (ad_cons (pdv 4) ad_nil))))) sd_nil)) sd_nil)))) (sd_one (sd_ret (pdv 3))))
theorem sc_Scene_nearer_last : FnScope ["self", "ray", "branch", "one", "other"] ["self", "ray", "branch"] (defScope s_Scene_nearer_last) := ⟨rfl, rfl, rfl, by decide +kernel, rfl, by decide +kernel, by decide +kernel⟩
theorem df_Scene_nearer_last (T : Tx w base K mg) : DfM P w K mg base 5 "Scene" "nearer_last" 3 F_Scene_nearer_last := by
  obtain ⟨fd, Fn⟩ := T.d_Scene_nearer_last
  refine dfm_mk Fn sc_Scene_nearer_last T.g_Scene T.c_Scene T.a_Scene_nearer_last (fun _ _ _ _ _ _ us hl => match us, hl with | [_, _, _], _ => rfl) fun cdv A outer s H E hr tk => ?_
  exact (sd_cons (sd_set (i := 3) sc_Scene_nearer_last.nd (dCall (df_meets_box T) hr (by decide) tk (ad_cons (pdv 1) (ad_cons (dFld T.g_Branch T.c_Branch T.n_Branch_box (pb_of (dFld T.g_Branch T.c_Branch T.n_Branch_left (pbv 2)))) ad_nil)))) (sd_cons (sd_set (i := 4) sc_Scene_nearer_last.nd (dCall (df_meets_box T) hr (by decide) tk (ad_cons (pdv 1) (ad_cons (dFld T.g_Branch T.c_Branch T.n_Branch_box (pb_of (dFld T.g_Branch T.c_Branch T.n_Branch_right (pbv 2)))) ad_nil)))) (sd_cons (sd_if (td_of (tw_and (tNotN (pbv 3) (pb_of pd_non)) (tw_and1 (td_of (tw_or (tIsN (pbv 4) (pb_of pd_non)) (tw_or1 (td_val (dCall (df_is_less T) hr (by decide) tk (ad_cons (pdv 3) (ad_cons (pdv 4) ad_nil)))))))))) (sd_one (sd_ret (pd_new (pn_lst (ad_cons (dFld T.g_Branch T.c_Branch T.n_Branch_right (pbv 2)) (ad_cons (dFld T.g_Branch T.c_Branch T.n_Branch_left (pbv 2)) ad_nil)))))) sd_nil) (sd_one (sd_ret (pd_new (pn_lst (ad_cons (dFld T.g_Branch T.c_Branch T.n_Branch_left (pbv 2)) (ad_cons (dFld T.g_Branch T.c_Branch T.n_Branch_right (pbv 2)) ad_nil)))))))))
theorem sc_Scene_first : FnScope ["self", "ray", "found", "waiting", "branch", "when"] ["self", "ray"] (defScope s_Scene_first) := ⟨rfl, rfl, rfl, by decide +kernel, rfl, by decide +kernel, by decide +kernel⟩
theorem df_Scene_first (T : Tx w base K mg) : DfM P w K mg base 9 "Scene" "first" 2 F_Scene_first := by
  obtain ⟨fd, Fn⟩ := T.d_Scene_first
  refine dfm_mk Fn sc_Scene_first T.g_Scene T.c_Scene T.a_Scene_first (fun _ _ _ _ _ _ us hl => match us, hl with | [_, _], _ => rfl) fun cdv A outer s H E hr tk => ?_
  exact (sd_cons (sd_expr (dCall (df_need_ray T) hr (by decide) tk (ad_cons (pdv 1) ad_nil))) (sd_cons (sd_set (i := 2) sc_Scene_first.nd pd_non) (sd_cons (sd_setO (i := 3) sc_Scene_first.nd (nRep (pb_of (pd_new (pn_lst (ad_cons (dFld T.g_Scene T.c_Scene T.n_Scene_root (pbv 0)) ad_nil)))) (pb_of (dInt T.f_int (pb_of (dNotN (pb_of (dFld T.g_Scene T.c_Scene T.n_Scene_root (pbv 0))) (pb_of pd_non))))))) (sd_cons (sd_while PassesOwn.leaving (tNe0 hr (pbv 3) (pb_of (pd_new (pn_lst ad_nil)))) (sd_cons (sd_popV 3 4 sc_Scene_first.nd) (sd_cons (sd_set (i := 5) sc_Scene_first.nd (dCall (df_meets_box T) hr (by decide) tk (ad_cons (pdv 1) (ad_cons (dFld T.g_Branch T.c_Branch T.n_Branch_box (pbv 4)) ad_nil)))) (sd_cons (sd_if (td_of (tw_or (tIsN (pbv 5) (pb_of pd_non)) (tw_or1 (td_of (tw_and (tNotN (pbv 2) (pb_of pd_non)) (tw_and1 (td_val (dCall (df_is_less T) hr (by decide) tk (ad_cons (dIx (pbv 2) (pb_of pd_int)) (ad_cons (pdv 5) ad_nil)))))))))) (sd_one sd_continue) sd_nil) (sd_cons (sd_set (i := 2) sc_Scene_first.nd (dMeth (df_Scene_better T) hr (by decide) tk (pdv 0) (ad_cons (pdv 1) (ad_cons (pdv 4) (ad_cons (pdv 2) ad_nil))))) (sd_one (sd_if (tNotN (pb_of (dFld T.g_Branch T.c_Branch T.n_Branch_left (pbv 4))) (pb_of pd_non)) (sd_one (sd_extend 3 (dMeth (df_Scene_nearer_last T) hr (by decide) tk (pdv 0) (ad_cons (pdv 1) (ad_cons (pdv 4) ad_nil))))) sd_nil))))))) (sd_one (sd_ret (pdv 2)))))))
theorem sc_moved : FnScope ["point", "way", "often"] ["point", "way", "often"] (defScope s_moved) := ⟨rfl, rfl, rfl, by decide +kernel, rfl, by decide +kernel, by decide +kernel⟩
theorem df_moved (T : Tx w base K mg) : Df P w K mg base 1 "moved" 3 F_moved := by
  obtain ⟨fd, Fn⟩ := T.d_moved
  refine df_mk Fn sc_moved T.g_moved (fun _ _ _ _ _ _ us hl => match us, hl with | [_, _, _], _ => rfl) fun cdv A outer s H E hr tk => ?_
  exact (sd_one (sd_ret (pd_tup (ad_cons (dAdd (pb_of (dIx (pbv 0) (pb_of pd_int))) (pb_of (dMul (pbv 2) (pb_of (dIx (pbv 1) (pb_of pd_int)))))) (ad_cons (dAdd (pb_of (dIx (pbv 0) (pb_of pd_int))) (pb_of (dMul (pbv 2) (pb_of (dIx (pbv 1) (pb_of pd_int)))))) (ad_cons (dAdd (pb_of (dIx (pbv 0) (pb_of pd_int))) (pb_of (dMul (pbv 2) (pb_of (dIx (pbv 1) (pb_of pd_int)))))) ad_nil))))))
theorem sc_seen : FnScope ["scene", "frame", "wide", "high", "corner", "right", "down", "way", "rows", "y", "row", "x", "met"] ["scene", "frame", "wide", "high"] (defScope s_seen) := ⟨rfl, rfl, rfl, by decide +kernel, rfl, by decide +kernel, by decide +kernel⟩
theorem df_seen (T : Tx w base K mg) : Df P w K mg base 10 "seen" 4 F_seen := by
  obtain ⟨fd, Fn⟩ := T.d_seen
  refine df_mk Fn sc_seen T.g_seen (fun _ _ _ _ _ _ us hl => match us, hl with | [_, _, _, _], _ => rfl) fun cdv A outer s H E hr tk => ?_
  exact (sd_cons (sd_asg (pdv 1) (gdT (n := 4) rfl (gds_cons (gdN (i := 4) sc_seen.nd rfl (by first | exact Or.inl rfl | exact Or.inr rfl)) (gds_cons (gdN (i := 5) sc_seen.nd rfl (by first | exact Or.inl rfl | exact Or.inr rfl)) (gds_cons (gdN (i := 6) sc_seen.nd rfl (by first | exact Or.inl rfl | exact Or.inr rfl)) (gds_cons (gdN (i := 7) sc_seen.nd rfl (by first | exact Or.inl rfl | exact Or.inr rfl)) gds_nil)))))) (sd_cons (sd_setO (i := 8) sc_seen.nd (pn_lst ad_nil)) (sd_cons (sd_for (js := [9]) PassesOwn.leaving rfl (itRS T.f_range (pbv 3)) (gdN (i := 9) sc_seen.nd rfl (by first | exact Or.inl rfl | exact Or.inr rfl)) (sd_cons (sd_setO (i := 10) sc_seen.nd (pn_lst ad_nil)) (sd_cons (sd_for (js := [11]) PassesOwn.leaving rfl (itRS T.f_range (pbv 2)) (gdN (i := 11) sc_seen.nd rfl (by first | exact Or.inl rfl | exact Or.inr rfl)) (sd_cons (sd_set (i := 12) sc_seen.nd (dMeth (df_Scene_first T) hr (by decide) tk (pdv 0) (ad_cons (pd_tup (ad_cons (dCall (df_moved T) hr (by decide) tk (ad_cons (dCall (df_moved T) hr (by decide) tk (ad_cons (pdv 4) (ad_cons (pdv 5) (ad_cons (pdv 11) ad_nil)))) (ad_cons (pdv 6) (ad_cons (pdv 9) ad_nil)))) (ad_cons (pdv 7) ad_nil))) ad_nil))) (sd_one (sd_if (tIsN (pbv 12) (pb_of pd_non)) (sd_one (sd_append 10 (dNeg (pb_of pd_int)))) (sd_one (sd_append 10 (dIx (pbv 12) (pb_of pd_int)))))))) (sd_share (i := 10) (sd_one (sd_append 8 (pdv 10))))))) (sd_one (sd_retV 8)))))
theorem sc_l_row : FnScope ["_law_script", "_law_k", "_law_cell_here", "_law_j"] ["_law_script", "_law_k"] (defScope s_l_row) := ⟨rfl, rfl, rfl, by decide +kernel, rfl, by decide +kernel, by decide +kernel⟩
theorem df_l_row (T : Tx w base K mg) : Df P w K mg base 2 "_law_row" 2 F_l_row := by
  obtain ⟨fd, Fn⟩ := T.d_l_row
  refine df_mk Fn sc_l_row T.g_l_row (fun _ _ _ _ _ _ us hl => match us, hl with | [_, _], _ => rfl) fun cdv A outer s H E hr tk => ?_
  exact (sd_cons (sd_set (i := 2) sc_l_row.nd (dCall (df_l_cell T) hr (by decide) tk (ad_cons (pdv 0) (ad_cons (pdv 1) ad_nil)))) (sd_one (sd_ret (pd_new (pn_lc (own := [("_law_j", 3)]) (js := [3]) rfl sc_l_row.nd (itR T.f_range (pb_of (dMod (pb_of (dDiv (pb_of (dCall (df_l_drawn T) hr (by decide) tk (ad_cons (pdv 2) (ad_cons (pdv 1) ad_nil)))) (pb_of pd_int))) (pb_of pd_int)))) (blkOk_by (by rfl)) (fun _ _ _ _ _ => (gdN (i := 3) sc_l_row.nd rfl (by first | exact Or.inl rfl | exact Or.inr rfl))) (fun _ _ _ _ _ => tds_nil) (fun _ _ _ _ _ => (dSub (pb_of (dMod (pb_of (dCall (df_l_drawn T) hr (by decide) L2.takes0 (ad_cons (pdv 2) (ad_cons (dAdd (pbv 1) (pbv 3)) ad_nil)))) (pb_of pd_int))) (pb_of pd_int))))))))
theorem sc_l_plain : FnScope ["_law_script", "_law_k", "_law_place", "_law_more", "_law_low", "_law_wide"] ["_law_script", "_law_k"] (defScope s_l_plain) := ⟨rfl, rfl, rfl, by decide +kernel, rfl, by decide +kernel, by decide +kernel⟩
theorem df_l_plain (T : Tx w base K mg) : Df P w K mg base 2 "_law_plain" 2 F_l_plain := by
  obtain ⟨fd, Fn⟩ := T.d_l_plain
  refine df_mk Fn sc_l_plain T.g_l_plain (fun _ _ _ _ _ _ us hl => match us, hl with | [_, _], _ => rfl) fun cdv A outer s H E hr tk => ?_
  exact (sd_cons (sd_set (i := 2) sc_l_plain.nd (dSub (pbv 1) (pb_of (dMul (pb_of (dMod (pbv 1) (pb_of pd_int))) (pb_of (dMod (pb_of (dCall (df_l_cell T) hr (by decide) tk (ad_cons (pdv 0) (ad_cons pd_int ad_nil)))) (pb_of pd_int))))))) (sd_cons (sd_set (i := 3) sc_l_plain.nd (dCall (df_l_drawn T) hr (by decide) tk (ad_cons (dCall (df_l_cell T) hr (by decide) tk (ad_cons (pdv 0) (ad_cons (dAdd (pbv 2) (pb_of pd_int)) ad_nil))) (ad_cons (pdv 2) ad_nil)))) (sd_cons (sd_set (i := 4) sc_l_plain.nd (dCall (df_l_spot T) hr (by decide) tk (ad_cons (pdv 3) ad_nil))) (sd_cons (sd_if (tEq hr (pb_of (dMod (pb_of (dDiv (pbv 3) (pb_of pd_int))) (pb_of pd_int))) (pb_of pd_int)) (sd_cons (sd_set (i := 5) sc_l_plain.nd (dCall (df_l_spot T) hr (by decide) tk (ad_cons (dDiv (pbv 3) (pb_of pd_int)) ad_nil))) (sd_one (sd_ret (pd_tup (ad_cons pd_str (ad_cons (pdv 4) (ad_cons (pd_tup (ad_cons (dAdd (pb_of (dIx (pbv 4) (pb_of pd_int))) (pb_of (dAbs T.f_abs (pb_of (dIx (pbv 5) (pb_of pd_int)))))) (ad_cons (dAdd (pb_of (dIx (pbv 4) (pb_of pd_int))) (pb_of (dDiv (pb_of (dAbs T.f_abs (pb_of (dIx (pbv 5) (pb_of pd_int))))) (pb_of pd_int)))) (ad_cons (dAdd (pb_of (dIx (pbv 4) (pb_of pd_int))) (pb_of (dMod (pb_of (dAbs T.f_abs (pb_of (dIx (pbv 5) (pb_of pd_int))))) (pb_of pd_int)))) ad_nil)))) ad_nil))))))) sd_nil) (sd_one (sd_ret (pd_tup (ad_cons pd_str (ad_cons (pdv 4) (ad_cons (dCall (df_l_spot T) hr (by decide) tk (ad_cons (dDiv (pbv 3) (pb_of pd_int)) ad_nil)) (ad_cons (dCall (df_l_spot T) hr (by decide) tk (ad_cons (dDiv (pbv 3) (pb_of pd_int)) ad_nil)) ad_nil)))))))))))
theorem sc_l_shape : FnScope ["_law_script", "_law_k", "_law_shape_here", "_law_point"] ["_law_script", "_law_k"] (defScope s_l_shape) := ⟨rfl, rfl, rfl, by decide +kernel, rfl, by decide +kernel, by decide +kernel⟩
theorem df_l_shape (T : Tx w base K mg) : Df P w K mg base 3 "_law_shape" 2 F_l_shape := by
  obtain ⟨fd, Fn⟩ := T.d_l_shape
  refine df_mk Fn sc_l_shape T.g_l_shape (fun _ _ _ _ _ _ us hl => match us, hl with | [_, _], _ => rfl) fun cdv A outer s H E hr tk => ?_
  exact (sd_cons (sd_set (i := 2) sc_l_shape.nd (dCall (df_l_plain T) hr (by decide) tk (ad_cons (pdv 0) (ad_cons (pdv 1) ad_nil)))) (sd_one (sd_ret (dAdd (pb_of (pd_tup (ad_cons (dIx (pbv 2) (pb_of pd_int)) ad_nil))) (pb_of (dTuple T.f_tuple (pb_of (pd_new (pn_lc (own := [("_law_point", 3)]) (js := [3]) rfl sc_l_shape.nd (itB (pb_of (dSl (pbv 2) (po1 (pb_of pd_int)) po0))) (blkOk_by (by rfl)) (fun _ _ _ _ _ => (gdN (i := 3) sc_l_shape.nd rfl (by first | exact Or.inl rfl | exact Or.inr rfl))) (fun _ _ _ _ _ => tds_nil) (fun _ _ _ _ _ => (dCall (df_l_put T) hr (by decide) L2.takes0 (ad_cons (pdv 3) (ad_cons (dCall (df_l_cell T) hr (by decide) L2.takes0 (ad_cons (pdv 0) (ad_cons pd_int ad_nil))) ad_nil)))))))))))))
theorem sc_drawn : FnScope ["rows", "lines", "row", "line", "number"] ["rows"] (defScope s_drawn) := ⟨rfl, rfl, rfl, by decide +kernel, rfl, by decide +kernel, by decide +kernel⟩
theorem df_drawn (T : Tx w base K mg) : Df P w K mg base 1 "drawn" 1 F_drawn := by
  obtain ⟨fd, Fn⟩ := T.d_drawn
  refine df_mk Fn sc_drawn T.g_drawn (fun _ _ _ _ _ _ us hl => match us, hl with | [_], _ => rfl) fun cdv A outer s H E hr tk => ?_
  exact (sd_cons (sd_setO (i := 1) sc_drawn.nd (pn_lst ad_nil)) (sd_cons (sd_for (js := [2]) PassesOwn.leaving rfl (itS (pdv 0)) (gdN (i := 2) sc_drawn.nd rfl (by first | exact Or.inl rfl | exact Or.inr rfl)) (sd_cons (sd_set (i := 3) sc_drawn.nd pd_str) (sd_cons (sd_for (js := [4]) PassesOwn.leaving rfl (itS (pdv 2)) (gdN (i := 4) sc_drawn.nd rfl (by first | exact Or.inl rfl | exact Or.inr rfl)) (sd_one (sd_if (tLt (pbv 4) (pb_of pd_int)) (sd_one (sd_set (i := 3) sc_drawn.nd (dAdd (pbv 3) (pb_of pd_str)))) (sd_one (sd_set (i := 3) sc_drawn.nd (dAdd (pbv 3) (pb_of (dIx (pb_of (pd_strK T.s_SIGNS)) (pb_of (dMod (pbv 4) (pb_of (dLen T.f_len (pb_of (pd_strK T.s_SIGNS)))))))))))))) (sd_one (sd_append 1 (pdv 3)))))) (sd_one (sd_ret (dJoin (pb_of pd_str) (pbv 1))))))
theorem sc_l_text : FnScope ["_law_rows", "_law_text_here", "_law_signs", "_law_k", "_law_number"] ["_law_rows"] (defScope s_l_text) := ⟨rfl, rfl, rfl, by decide +kernel, rfl, by decide +kernel, by decide +kernel⟩
theorem df_l_text (T : Tx w base K mg) : Df P w K mg base 1 "_law_text" 1 F_l_text := by
  obtain ⟨fd, Fn⟩ := T.d_l_text
  refine df_mk Fn sc_l_text T.g_l_text (fun _ _ _ _ _ _ us hl => match us, hl with | [_], _ => rfl) fun cdv A outer s H E hr tk => ?_
  exact (sd_cons (sd_set (i := 1) sc_l_text.nd pd_str) (sd_cons (sd_set (i := 2) sc_l_text.nd pd_str) (sd_cons (sd_for (js := [3]) PassesOwn.leaving rfl (itRS T.f_range (pb_of (dLen T.f_len (pbv 0)))) (gdN (i := 3) sc_l_text.nd rfl (by first | exact Or.inl rfl | exact Or.inr rfl)) (sd_cons (sd_if (tGt (pbv 3) (pb_of pd_int)) (sd_one (sd_set (i := 1) sc_l_text.nd (dAdd (pbv 1) (pb_of pd_str)))) sd_nil) (sd_one (sd_for (js := [4]) PassesOwn.leaving rfl (itS (dIx (pbv 0) (pbv 3))) (gdN (i := 4) sc_l_text.nd rfl (by first | exact Or.inl rfl | exact Or.inr rfl)) (sd_one (sd_if (tEq hr (pbv 4) (pb_of (dSub (pb_of pd_int) (pb_of pd_int)))) (sd_one (sd_set (i := 1) sc_l_text.nd (dAdd (pbv 1) (pb_of pd_str)))) (sd_one (sd_set (i := 1) sc_l_text.nd (dAdd (pbv 1) (pb_of (dIx (pbv 2) (pb_of (dSub (pbv 4) (pb_of (dMul (pb_of (dDiv (pbv 4) (pb_of pd_int))) (pb_of pd_int)))))))))))))))) (sd_one (sd_ret (pdv 1))))))
theorem sc_l_seen : FnScope ["_law_scene", "_law_frame", "_law_x", "_law_y", "_law_corner", "_law_right", "_law_down", "_law_way", "_law_start", "_law_n", "_law_met"] ["_law_scene", "_law_frame", "_law_x", "_law_y"] (defScope s_l_seen) := ⟨rfl, rfl, rfl, by decide +kernel, rfl, by decide +kernel, by decide +kernel⟩
theorem df_l_seen (T : Tx w base K mg) : Df P w K mg base 10 "_law_seen" 4 F_l_seen := by
  obtain ⟨fd, Fn⟩ := T.d_l_seen
  refine df_mk Fn sc_l_seen T.g_l_seen (fun _ _ _ _ _ _ us hl => match us, hl with | [_, _, _, _], _ => rfl) fun cdv A outer s H E hr tk => ?_
  exact (sd_cons (sd_asg (pdv 1) (gdT (n := 4) rfl (gds_cons (gdN (i := 4) sc_l_seen.nd rfl (by first | exact Or.inl rfl | exact Or.inr rfl)) (gds_cons (gdN (i := 5) sc_l_seen.nd rfl (by first | exact Or.inl rfl | exact Or.inr rfl)) (gds_cons (gdN (i := 6) sc_l_seen.nd rfl (by first | exact Or.inl rfl | exact Or.inr rfl)) (gds_cons (gdN (i := 7) sc_l_seen.nd rfl (by first | exact Or.inl rfl | exact Or.inr rfl)) gds_nil)))))) (sd_cons (sd_set (i := 8) sc_l_seen.nd (dTuple T.f_tuple (pb_of (pd_new (pn_lc (own := [("_law_n", 9)]) (js := [9]) rfl sc_l_seen.nd (itR T.f_range (pb_of pd_int)) (blkOk_by (by rfl)) (fun _ _ _ _ _ => (gdN (i := 9) sc_l_seen.nd rfl (by first | exact Or.inl rfl | exact Or.inr rfl))) (fun _ _ _ _ _ => tds_nil) (fun _ _ _ _ _ => (dAdd (pb_of (dAdd (pb_of (dIx (pbv 4) (pbv 9))) (pb_of (dMul (pbv 2) (pb_of (dIx (pbv 5) (pbv 9))))))) (pb_of (dMul (pbv 3) (pb_of (dIx (pbv 6) (pbv 9)))))))))))) (sd_cons (sd_set (i := 10) sc_l_seen.nd (dMeth (df_Scene_first T) hr (by decide) tk (pdv 0) (ad_cons (pd_tup (ad_cons (pdv 8) (ad_cons (pdv 7) ad_nil))) ad_nil))) (sd_cons (sd_if (tIsN (pbv 10) (pb_of pd_non)) (sd_one (sd_ret (dSub (pb_of pd_int) (pb_of pd_int)))) sd_nil) (sd_one (sd_ret (dIx (pbv 10) (pb_of pd_int))))))))
theorem sc_law : FnScope ["_law_script", "_law_cell_here", "_law_more", "_law_scene", "_law_k", "_law_corner", "_law_way", "_law_right", "_law_down", "_law_frame", "_law_wide", "_law_high", "_law_due", "_law_y", "_law_x", "_law_told", "_law_row_here", "_law_rows", "_law_kept"] ["_law_script"] (defScope s_law) := ⟨rfl, rfl, rfl, by decide +kernel, rfl, by decide +kernel, by decide +kernel⟩
theorem law_df (T : Tx w base K mg) {fd : FuncData} (Fn : FunD K "law" "law" (defArgs s_law) (defBody s_law) (defScope s_law) [] [] (He.ga K "law") fd) : FnOk P w K mg base (L2.CX P w) 14 (He.ga K "law") fd ["_law_script"] (spD K mg 1 F_law_k20) := by
  refine fnD_ok Fn sc_law fun cdv A outer s H E hr tk => ?_
  exact (sd_cons (sd_set (i := 1) sc_law.nd (dCall (df_l_cell T) hr (by decide) tk (ad_cons (pdv 0) (ad_cons pd_int ad_nil)))) (sd_cons (sd_set (i := 2) sc_law.nd (dCall (df_l_drawn T) hr (by decide) tk (ad_cons (dCall (df_l_cell T) hr (by decide) tk (ad_cons (pdv 0) (ad_cons pd_int ad_nil))) (ad_cons pd_int ad_nil)))) (sd_cons (sd_set (i := 3) sc_law.nd (dMake (df_Scene___init__ T) hr (by decide) tk (ad_cons (pd_new (pn_lc (own := [("_law_k", 4)]) (js := [4]) rfl sc_law.nd (itR T.f_range (pb_of (dMod (pbv 2) (pb_of pd_int)))) (blkOk_by (by rfl)) (fun _ _ _ _ _ => (gdN (i := 4) sc_law.nd rfl (by first | exact Or.inl rfl | exact Or.inr rfl))) (fun _ _ _ _ _ => tds_nil) (fun _ _ _ _ _ => (dCall (df_l_shape T) hr (by decide) L2.takes0 (ad_cons (pdv 0) (ad_cons (pdv 4) ad_nil)))))) ad_nil))) (sd_cons (sd_asg (dCall (df_l_ray T) hr (by decide) tk (ad_cons (pdv 0) (ad_cons pd_int ad_nil))) (gdT (n := 2) rfl (gds_cons (gdN (i := 5) sc_law.nd rfl (by first | exact Or.inl rfl | exact Or.inr rfl)) (gds_cons (gdN (i := 6) sc_law.nd rfl (by first | exact Or.inl rfl | exact Or.inr rfl)) gds_nil)))) (sd_cons (sd_set (i := 7) sc_law.nd (dCall (df_l_far T) hr (by decide) tk (ad_cons (dCall (df_l_spot T) hr (by decide) tk (ad_cons (dDiv (pbv 2) (pb_of pd_int)) ad_nil)) (ad_cons (pdv 1) ad_nil)))) (sd_cons (sd_set (i := 8) sc_law.nd (dCall (df_l_far T) hr (by decide) tk (ad_cons (dIx (pb_of (dCall (df_l_ray T) hr (by decide) tk (ad_cons (pdv 0) (ad_cons pd_int ad_nil)))) (pb_of pd_int)) (ad_cons (pdv 1) ad_nil)))) (sd_cons (sd_set (i := 9) sc_law.nd (pd_tup (ad_cons (pdv 5) (ad_cons (pdv 7) (ad_cons (pdv 8) (ad_cons (pdv 6) ad_nil)))))) (sd_cons (sd_set (i := 10) sc_law.nd (dMod (pb_of (dDiv (pbv 2) (pb_of pd_int))) (pb_of pd_int))) (sd_cons (sd_set (i := 11) sc_law.nd (dMod (pb_of (dDiv (pbv 2) (pb_of pd_int))) (pb_of pd_int))) (sd_due (own := [("_law_y", 13)]) (jd := 12) (jx := 14) (jy := 13) (jz := 13) PassesOwn.leaving rfl sc_law.nd T.f_range (sw_true rfl rfl rfl (by rfl)) (pbv 11) (pbv 11) (pbv 10) (dCall (df_l_seen T) hr (by decide) tk (ad_cons (pdv 3) (ad_cons (pdv 9) (ad_cons (pdv 14) (ad_cons (pdv 13) ad_nil))))) (blkOk_by (by rfl)) (fun _ _ _ _ _ => pg_name (i := 13) sc_law.nd rfl (by first | exact Or.inl rfl | exact Or.inr rfl)) (sd_cons (sd_set (i := 15) sc_law.nd (dCall (df_seen T) hr (by decide) tk (ad_cons (pdv 3) (ad_cons (pdv 9) (ad_cons (pdv 10) (ad_cons (pdv 11) ad_nil)))))) (sd_cons (sd_if (td_of (tw_or (tNe hr (pbv 15) (pbv 12)) (tw_or (td_not (td_val (dIsi (T := "list") (Ty := "list") T.f_isinstance T.f_list (pbv 15)))) (tw_or1 (td_not (td_val (dAll T.f_all (pb_of (pd_new (pn_lc (own := [("_law_row_here", 16)]) (js := [16]) rfl sc_law.nd (itB (pbv 15)) (blkOk_by (by rfl)) (fun _ _ _ _ _ => (gdN (i := 16) sc_law.nd rfl (by first | exact Or.inl rfl | exact Or.inr rfl))) (fun _ _ _ _ _ => tds_nil) (fun _ _ _ _ _ => (dIsi (T := "list") (Ty := "list") T.f_isinstance T.f_list (pbv 16))))))))))))) (sd_one (sd_ret pd_bl)) sd_nil) (sd_cons (sd_setLc (i := 17) (own := [("_law_k", 4)]) (js := [4]) rfl sc_law.nd rfl rfl (sw_true rfl rfl rfl (by rfl)) (itR T.f_range (pb_of (dMod (pb_of (dDiv (pbv 2) (pb_of pd_int))) (pb_of pd_int)))) (blkOk_by (by rfl)) (fun _ _ _ _ _ => (gdN (i := 4) sc_law.nd rfl (by first | exact Or.inl rfl | exact Or.inr rfl))) (fun _ _ _ _ _ => tds_nil) (fun _ _ _ _ _ => (dCall (df_l_row T) hr (by decide) L2.takes0 (ad_cons (pdv 0) (ad_cons (pdv 4) ad_nil))))) (sd_share (i := 17) (sd_cons (sd_setLc (i := 18) (own := [("_law_row_here", 16)]) (js := [16]) rfl sc_law.nd rfl rfl (sw_true rfl rfl rfl (by rfl)) (itB (pbv 17)) (blkOk_by (by rfl)) (fun _ _ _ _ _ => (gdN (i := 16) sc_law.nd rfl (by first | exact Or.inl rfl | exact Or.inr rfl))) (fun _ _ _ _ _ => tds_nil) (fun _ _ _ _ _ => (pd_new (nList T.f_list (pbv 16))))) (sd_share (i := 18) (sd_one (sd_ret (pd_and (dEq hr (pb_of (dCall (df_drawn T) hr (by decide) tk (ad_cons (pdv 17) ad_nil))) (pb_of (dCall (df_l_text T) hr (by decide) tk (ad_cons (pdv 18) ad_nil)))) (pd_and (dEq hr (pbv 17) (pbv 18)) (pd_one (dEq hr (pb_of (dCall (df_drawn T) hr (by decide) tk (ad_cons (pdv 15) ad_nil))) (pb_of (dCall (df_l_text T) hr (by decide) tk (ad_cons (pdv 12) ad_nil)))))))))))))))))))))))))
end
def h_l_cell : He.DefD := ⟨("_law_cell", none), "_law_cell", "_law_cell", defArgs s_l_cell, defBody s_l_cell, defScope s_l_cell, [], []⟩
def h_l_drawn : He.DefD := ⟨("_law_drawn", none), "_law_drawn", "_law_drawn", defArgs s_l_drawn, defBody s_l_drawn, defScope s_l_drawn, [], []⟩
def h_need_shape : He.DefD := ⟨("need_shape", none), "need_shape", "need_shape", defArgs s_need_shape, defBody s_need_shape, defScope s_need_shape, [], []⟩
def h_box_around : He.DefD := ⟨("box_around", none), "box_around", "box_around", defArgs s_box_around, defBody s_box_around, defScope s_box_around, [], []⟩
def h_bounds : He.DefD := ⟨("bounds", none), "bounds", "bounds", defArgs s_bounds, defBody s_bounds, defScope s_bounds, [], []⟩
def h_widest : He.DefD := ⟨("widest", none), "widest", "widest", defArgs s_widest, defBody s_widest, defScope s_widest, [], []⟩
def h_Branch___init__ : He.DefD := ⟨("Branch", some "__init__"), "__init__", "Branch.__init__", defArgs s_Branch___init__, defBody s_Branch___init__, defScope s_Branch___init__, [], []⟩
def h_box_of_two : He.DefD := ⟨("box_of_two", none), "box_of_two", "box_of_two", defArgs s_box_of_two, defBody s_box_of_two, defScope s_box_of_two, [], []⟩
def h_grown : He.DefD := ⟨("grown", none), "grown", "grown", defArgs s_grown, defBody s_grown, defScope s_grown, [], []⟩
def h_Scene___init__ : He.DefD := ⟨("Scene", some "__init__"), "__init__", "Scene.__init__", defArgs s_Scene___init__, defBody s_Scene___init__, defScope s_Scene___init__, [], []⟩
def h_l_spot : He.DefD := ⟨("_law_spot", none), "_law_spot", "_law_spot", defArgs s_l_spot, defBody s_l_spot, defScope s_l_spot, [], []⟩
def h_l_put : He.DefD := ⟨("_law_put", none), "_law_put", "_law_put", defArgs s_l_put, defBody s_l_put, defScope s_l_put, [], []⟩
def h_l_ray : He.DefD := ⟨("_law_ray", none), "_law_ray", "_law_ray", defArgs s_l_ray, defBody s_l_ray, defScope s_l_ray, [], []⟩
def h_l_far : He.DefD := ⟨("_law_far", none), "_law_far", "_law_far", defArgs s_l_far, defBody s_l_far, defScope s_l_far, [], []⟩
def h_need_ray : He.DefD := ⟨("need_ray", none), "need_ray", "need_ray", defArgs s_need_ray, defBody s_need_ray, defScope s_need_ray, [], []⟩
def h_is_less : He.DefD := ⟨("is_less", none), "is_less", "is_less", defArgs s_is_less, defBody s_is_less, defScope s_is_less, [], []⟩
def h_ratio : He.DefD := ⟨("ratio", none), "ratio", "ratio", defArgs s_ratio, defBody s_ratio, defScope s_ratio, [], []⟩
def h_times_in : He.DefD := ⟨("times_in", none), "times_in", "times_in", defArgs s_times_in, defBody s_times_in, defScope s_times_in, [], []⟩
def h_stay_in : He.DefD := ⟨("stay_in", none), "stay_in", "stay_in", defArgs s_stay_in, defBody s_stay_in, defScope s_stay_in, [], []⟩
def h_meets_box : He.DefD := ⟨("meets_box", none), "meets_box", "meets_box", defArgs s_meets_box, defBody s_meets_box, defScope s_meets_box, [], []⟩
def h_cross : He.DefD := ⟨("cross", none), "cross", "cross", defArgs s_cross, defBody s_cross, defScope s_cross, [], []⟩
def h_dot : He.DefD := ⟨("dot", none), "dot", "dot", defArgs s_dot, defBody s_dot, defScope s_dot, [], []⟩
def h_sign : He.DefD := ⟨("sign", none), "sign", "sign", defArgs s_sign, defBody s_sign, defScope s_sign, [], []⟩
def h_minus : He.DefD := ⟨("minus", none), "minus", "minus", defArgs s_minus, defBody s_minus, defScope s_minus, [], []⟩
def h_turn : He.DefD := ⟨("turn", none), "turn", "turn", defArgs s_turn, defBody s_turn, defScope s_turn, [], []⟩
def h_is_within : He.DefD := ⟨("is_within", none), "is_within", "is_within", defArgs s_is_within, defBody s_is_within, defScope s_is_within, [], []⟩
def h_lesser : He.DefD := ⟨("lesser", none), "lesser", "lesser", defArgs s_lesser, defBody s_lesser, defScope s_lesser, [], []⟩
def h_along : He.DefD := ⟨("along", none), "along", "along", defArgs s_along, defBody s_along, defScope s_along, [], []⟩
def h_on_line : He.DefD := ⟨("on_line", none), "on_line", "on_line", defArgs s_on_line, defBody s_on_line, defScope s_on_line, [], []⟩
def h_meets_segment : He.DefD := ⟨("meets_segment", none), "meets_segment", "meets_segment", defArgs s_meets_segment, defBody s_meets_segment, defScope s_meets_segment, [], []⟩
def h_meets_flat : He.DefD := ⟨("meets_flat", none), "meets_flat", "meets_flat", defArgs s_meets_flat, defBody s_meets_flat, defScope s_meets_flat, [], []⟩
def h_meets_triangle : He.DefD := ⟨("meets_triangle", none), "meets_triangle", "meets_triangle", defArgs s_meets_triangle, defBody s_meets_triangle, defScope s_meets_triangle, [], []⟩
def h_meets : He.DefD := ⟨("meets", none), "meets", "meets", defArgs s_meets, defBody s_meets, defScope s_meets, [], []⟩
def h_Scene_better : He.DefD := ⟨("Scene", some "better"), "better", "Scene.better", defArgs s_Scene_better, defBody s_Scene_better, defScope s_Scene_better, [], []⟩
def h_Scene_nearer_last : He.DefD := ⟨("Scene", some "nearer_last"), "nearer_last", "Scene.nearer_last", defArgs s_Scene_nearer_last, defBody s_Scene_nearer_last, defScope s_Scene_nearer_last, [], []⟩
def h_Scene_first : He.DefD := ⟨("Scene", some "first"), "first", "Scene.first", defArgs s_Scene_first, defBody s_Scene_first, defScope s_Scene_first, [], []⟩
def h_moved : He.DefD := ⟨("moved", none), "moved", "moved", defArgs s_moved, defBody s_moved, defScope s_moved, [], []⟩
def h_seen : He.DefD := ⟨("seen", none), "seen", "seen", defArgs s_seen, defBody s_seen, defScope s_seen, [], []⟩
def h_l_row : He.DefD := ⟨("_law_row", none), "_law_row", "_law_row", defArgs s_l_row, defBody s_l_row, defScope s_l_row, [], []⟩
def h_l_plain : He.DefD := ⟨("_law_plain", none), "_law_plain", "_law_plain", defArgs s_l_plain, defBody s_l_plain, defScope s_l_plain, [], []⟩
def h_l_shape : He.DefD := ⟨("_law_shape", none), "_law_shape", "_law_shape", defArgs s_l_shape, defBody s_l_shape, defScope s_l_shape, [], []⟩
def h_drawn : He.DefD := ⟨("drawn", none), "drawn", "drawn", defArgs s_drawn, defBody s_drawn, defScope s_drawn, [], []⟩
def h_l_text : He.DefD := ⟨("_law_text", none), "_law_text", "_law_text", defArgs s_l_text, defBody s_l_text, defScope s_l_text, [], []⟩
def h_l_seen : He.DefD := ⟨("_law_seen", none), "_law_seen", "_law_seen", defArgs s_l_seen, defBody s_l_seen, defScope s_l_seen, [], []⟩
def h_law : He.DefD := ⟨("law", none), "law", "law", defArgs s_law, defBody s_law, defScope s_law, [], []⟩
def fn : List He.DefD := h_l_cell :: h_l_drawn :: h_need_shape :: h_box_around :: h_bounds :: h_widest :: h_Branch___init__ :: h_box_of_two :: h_grown :: h_Scene___init__ :: h_l_spot :: h_l_put :: h_l_ray :: h_l_far :: h_need_ray :: h_is_less :: h_ratio :: h_times_in :: h_stay_in :: h_meets_box :: h_cross :: h_dot :: h_sign :: h_minus :: h_turn :: h_is_within :: h_lesser :: h_along :: h_on_line :: h_meets_segment :: h_meets_flat :: h_meets_triangle :: h_meets :: h_Scene_better :: h_Scene_nearer_last :: h_Scene_first :: h_moved :: h_seen :: h_l_row :: h_l_plain :: h_l_shape :: h_drawn :: h_l_text :: h_l_seen :: h_law :: []
def fa : List He.Fa := .free "abs" :: .free "all" :: .free "int" :: .free "isinstance" :: .free "len" :: .free "list" :: .free "max" :: .free "min" :: .free "range" :: .free "sorted" :: .free "tuple" :: .glo "NoRay" :: .exc "NoRay" :: .glo "NoShape" :: .exc "NoShape" :: .int "FEW" 3 :: .str "SIGNS" "0123456789abcdefghijklmnopqrstuvwxyz" :: .glo "ZERO" :: .glo "Branch" :: .cls "Branch" :: .mkr "Branch" :: .glo "Scene" :: .cls "Scene" :: .mkr "Scene" :: .noat "Branch" "box" :: .noat "Branch" "left" :: .noat "Branch" "numbers" :: .noat "Branch" "right" :: .noat "Scene" "boxes" :: .noat "Scene" "root" :: .noat "Scene" "shapes" :: .glo "_law_cell" :: .glo "_law_drawn" :: .glo "need_shape" :: .glo "box_around" :: .glo "bounds" :: .glo "widest" :: .glo "box_of_two" :: .glo "grown" :: .glo "_law_spot" :: .glo "_law_put" :: .glo "_law_ray" :: .glo "_law_far" :: .glo "need_ray" :: .glo "is_less" :: .glo "ratio" :: .glo "times_in" :: .glo "stay_in" :: .glo "meets_box" :: .glo "cross" :: .glo "dot" :: .glo "sign" :: .glo "minus" :: .glo "turn" :: .glo "is_within" :: .glo "lesser" :: .glo "along" :: .glo "on_line" :: .glo "meets_segment" :: .glo "meets_flat" :: .glo "meets_triangle" :: .glo "meets" :: .meth "Scene" "better" :: .meth "Scene" "nearer_last" :: .meth "Scene" "first" :: .glo "moved" :: .glo "seen" :: .glo "_law_row" :: .glo "_law_plain" :: .glo "_law_shape" :: .glo "drawn" :: .glo "_law_text" :: .glo "_law_seen" :: .glo "law" :: []
def ts : List (He.Defn × Str) := [(("grown", none), (("grown" : Str) ++ (".<locals>." : Str) ++ ("<lambda>" : Str)))]
def tf : List He.Defn := [("grown", none)]
def xs : List (PySem.W.Frag → Bool) := [apart tf, tupX "ZERO" [0, 0, 0]]
theorem tx_of {w : World} {K : PySem.W.Frag} {h base : Heap} {mg : Str → Option Value} (X : K.In h) (G : h.Ns mainGlobals mg) (cx : exOf xs K = true) (c : He.SaysD fa fn K) (tb : ∀ p ∈ tf, LamX.TabB base mg (He.cT K p).1 (He.cT K p).2) : @Tx ⟨tabsOf K ts, w⟩ w base K mg := by
  letI : TbC := ⟨tabsOf K ts, w⟩
  have nd : ((ts.map (·.1)).map fun p => (He.cT K p).2).Nodup := of_decide_eq_true (exOf_at cx 0)
  exact {
    hw := rfl
    f_abs := He.free_ok X G (c.fact 0)
    f_all := He.free_ok X G (c.fact 1)
    f_int := He.free_ok X G (c.fact 2)
    f_isinstance := He.free_ok X G (c.fact 3)
    f_len := He.free_ok X G (c.fact 4)
    f_list := He.free_ok X G (c.fact 5)
    f_max := He.free_ok X G (c.fact 6)
    f_min := He.free_ok X G (c.fact 7)
    f_range := He.free_ok X G (c.fact 8)
    f_sorted := He.free_ok X G (c.fact 9)
    f_tuple := He.free_ok X G (c.fact 10)
    x_NoRay := excF_of X G (c.fact 11) (c.fact 12)
    x_NoShape := excF_of X G (c.fact 13) (c.fact 14)
    i_FEW := He.int_ok X G (c.fact 15)
    s_SIGNS := He.str_ok X G (c.fact 16)
    g_ZERO := He.glo_ok X G (c.fact 17)
    t_ZERO := tupX_ok (exOf_at cx 1)
    g_Branch := He.glo_ok X G (c.fact 18)
    c_Branch := He.cls_ok (c.fact 19)
    k_Branch := He.mkr_ok (c.fact 20)
    g_Scene := He.glo_ok X G (c.fact 21)
    c_Scene := He.cls_ok (c.fact 22)
    k_Scene := He.mkr_ok (c.fact 23)
    n_Branch_box := He.noat_ok (c.fact 24)
    n_Branch_left := He.noat_ok (c.fact 25)
    n_Branch_numbers := He.noat_ok (c.fact 26)
    n_Branch_right := He.noat_ok (c.fact 27)
    n_Scene_boxes := He.noat_ok (c.fact 28)
    n_Scene_root := He.noat_ok (c.fact 29)
    n_Scene_shapes := He.noat_ok (c.fact 30)
    g_l_cell := He.glo_ok X G (c.fact 31)
    d_l_cell := c.def_ 0 (d := h_l_cell) rfl
    g_l_drawn := He.glo_ok X G (c.fact 32)
    d_l_drawn := c.def_ 1 (d := h_l_drawn) rfl
    g_need_shape := He.glo_ok X G (c.fact 33)
    d_need_shape := c.def_ 2 (d := h_need_shape) rfl
    g_box_around := He.glo_ok X G (c.fact 34)
    d_box_around := c.def_ 3 (d := h_box_around) rfl
    g_bounds := He.glo_ok X G (c.fact 35)
    d_bounds := c.def_ 4 (d := h_bounds) rfl
    g_widest := He.glo_ok X G (c.fact 36)
    d_widest := c.def_ 5 (d := h_widest) rfl
    d_Branch___init__ := c.def_ 6 (d := h_Branch___init__) rfl
    g_box_of_two := He.glo_ok X G (c.fact 37)
    d_box_of_two := c.def_ 7 (d := h_box_of_two) rfl
    g_grown := He.glo_ok X G (c.fact 38)
    d_grown := c.def_ 8 (d := h_grown) rfl
    d_Scene___init__ := c.def_ 9 (d := h_Scene___init__) rfl
    g_l_spot := He.glo_ok X G (c.fact 39)
    d_l_spot := c.def_ 10 (d := h_l_spot) rfl
    g_l_put := He.glo_ok X G (c.fact 40)
    d_l_put := c.def_ 11 (d := h_l_put) rfl
    g_l_ray := He.glo_ok X G (c.fact 41)
    d_l_ray := c.def_ 12 (d := h_l_ray) rfl
    g_l_far := He.glo_ok X G (c.fact 42)
    d_l_far := c.def_ 13 (d := h_l_far) rfl
    g_need_ray := He.glo_ok X G (c.fact 43)
    d_need_ray := c.def_ 14 (d := h_need_ray) rfl
    g_is_less := He.glo_ok X G (c.fact 44)
    d_is_less := c.def_ 15 (d := h_is_less) rfl
    g_ratio := He.glo_ok X G (c.fact 45)
    d_ratio := c.def_ 16 (d := h_ratio) rfl
    g_times_in := He.glo_ok X G (c.fact 46)
    d_times_in := c.def_ 17 (d := h_times_in) rfl
    g_stay_in := He.glo_ok X G (c.fact 47)
    d_stay_in := c.def_ 18 (d := h_stay_in) rfl
    g_meets_box := He.glo_ok X G (c.fact 48)
    d_meets_box := c.def_ 19 (d := h_meets_box) rfl
    g_cross := He.glo_ok X G (c.fact 49)
    d_cross := c.def_ 20 (d := h_cross) rfl
    g_dot := He.glo_ok X G (c.fact 50)
    d_dot := c.def_ 21 (d := h_dot) rfl
    g_sign := He.glo_ok X G (c.fact 51)
    d_sign := c.def_ 22 (d := h_sign) rfl
    g_minus := He.glo_ok X G (c.fact 52)
    d_minus := c.def_ 23 (d := h_minus) rfl
    g_turn := He.glo_ok X G (c.fact 53)
    d_turn := c.def_ 24 (d := h_turn) rfl
    g_is_within := He.glo_ok X G (c.fact 54)
    d_is_within := c.def_ 25 (d := h_is_within) rfl
    g_lesser := He.glo_ok X G (c.fact 55)
    d_lesser := c.def_ 26 (d := h_lesser) rfl
    g_along := He.glo_ok X G (c.fact 56)
    d_along := c.def_ 27 (d := h_along) rfl
    g_on_line := He.glo_ok X G (c.fact 57)
    d_on_line := c.def_ 28 (d := h_on_line) rfl
    g_meets_segment := He.glo_ok X G (c.fact 58)
    d_meets_segment := c.def_ 29 (d := h_meets_segment) rfl
    g_meets_flat := He.glo_ok X G (c.fact 59)
    d_meets_flat := c.def_ 30 (d := h_meets_flat) rfl
    g_meets_triangle := He.glo_ok X G (c.fact 60)
    d_meets_triangle := c.def_ 31 (d := h_meets_triangle) rfl
    g_meets := He.glo_ok X G (c.fact 61)
    d_meets := c.def_ 32 (d := h_meets) rfl
    a_Scene_better := He.meth_ok (c.fact 62)
    d_Scene_better := c.def_ 33 (d := h_Scene_better) rfl
    a_Scene_nearer_last := He.meth_ok (c.fact 63)
    d_Scene_nearer_last := c.def_ 34 (d := h_Scene_nearer_last) rfl
    a_Scene_first := He.meth_ok (c.fact 64)
    d_Scene_first := c.def_ 35 (d := h_Scene_first) rfl
    g_moved := He.glo_ok X G (c.fact 65)
    d_moved := c.def_ 36 (d := h_moved) rfl
    g_seen := He.glo_ok X G (c.fact 66)
    d_seen := c.def_ 37 (d := h_seen) rfl
    g_l_row := He.glo_ok X G (c.fact 67)
    d_l_row := c.def_ 38 (d := h_l_row) rfl
    g_l_plain := He.glo_ok X G (c.fact 68)
    d_l_plain := c.def_ 39 (d := h_l_plain) rfl
    g_l_shape := He.glo_ok X G (c.fact 69)
    d_l_shape := c.def_ 40 (d := h_l_shape) rfl
    g_drawn := He.glo_ok X G (c.fact 70)
    d_drawn := c.def_ 41 (d := h_drawn) rfl
    g_l_text := He.glo_ok X G (c.fact 71)
    d_l_text := c.def_ 42 (d := h_l_text) rfl
    g_l_seen := He.glo_ok X G (c.fact 72)
    d_l_seen := c.def_ 43 (d := h_l_seen) rfl
    g_law := He.glo_ok X G (c.fact 73)
    d_law := c.def_ 44 (d := h_law) rfl
    b_grown := tb ("grown", none) (by decide)
    m_grown := tabs_mem (ts := ts) (by first | exact List.mem_cons_self | (repeat (first | exact List.mem_cons_self | apply List.mem_cons_of_mem)))
    u_grown := tabs_one (ts := ts) nd (by first | exact List.mem_cons_self | (repeat (first | exact List.mem_cons_self | apply List.mem_cons_of_mem)))
  }
end Lw
end
section
set_option Elab.async false
set_option linter.all false
set_option maxRecDepth 100000
set_option autoImplicit false
namespace DL
variable [TbC]
open PySem PySem.Spec PyProof.Rows L2
/-! ### what the functions on data do: equations -/
theorem env_set0 (l : Lc) (r : Ev) (x : Lc) : List.set (l :: r) 0 x = x :: r := rfl
theorem env_setS (l : Lc) (r : Ev) (i : Nat) (x : Lc) : List.set (l :: r) (i + 1) x = l :: List.set r i x := rfl
/-! arithmetic under bounds -/
def Bd (n : Nat) (x : Int) : Prop := x.natAbs < 2 ^ n
theorem Bd.mono {n m : Nat} {x : Int} (h : Bd n x) (l : n ≤ m) : Bd m x := Nat.lt_of_lt_of_le h (Nat.pow_le_pow_right (by decide) l)
theorem Bd.add {n : Nat} {x y : Int} (h : Bd n x) (k : Bd n y) : Bd (n + 1) (x + y) := by
  unfold Bd at *
  have : (x + y).natAbs ≤ x.natAbs + y.natAbs := Int.natAbs_add_le x y
  rw [Nat.pow_succ]
  omega
theorem Bd.neg {n : Nat} {x : Int} (h : Bd n x) : Bd n (-x) := by
  unfold Bd at *
  rw [Int.natAbs_neg]
  exact h
theorem Bd.sub {n : Nat} {x y : Int} (h : Bd n x) (k : Bd n y) : Bd (n + 1) (x - y) := by
  rw [Int.sub_eq_add_neg]
  exact h.add k.neg
theorem Bd.mul {n m : Nat} {x y : Int} (h : Bd n x) (k : Bd m y) : Bd (n + m) (x * y) := wide_lt h k
theorem Bd.of_le {n : Nat} {x y : Int} (h0 : 0 ≤ x) (hl : x ≤ y) (h : Bd n y) : Bd n x := wide_le h0 hl h
theorem mul_bd {n m : Nat} {i j : Int} (h : Bd n i) (k : Bd m j) (hn : 0 < n) (hm : 0 < m) (hs : n + m ≤ 1000000) : mulD (.int i) (.int j) = some (.int (i * j)) := by
  exact if_pos (wide_mul h k hn hm hs).ok
theorem mul_right {i j : Int} (h : -(2 ^ 64) < j ∧ j < 2 ^ 64) : mulD (.int i) (.int j) = some (.int (i * j)) := by
  exact if_pos (CMul.ok (.inr h))
theorem mul_left {i j : Int} (h : -(2 ^ 64) < i ∧ i < 2 ^ 64) : mulD (.int i) (.int j) = some (.int (i * j)) := by
  exact if_pos (CMul.ok (.inl h))
theorem mod_pos {i j : Int} (h : 0 < j) : modD (.int i) (.int j) = some (.int (i % j)) := by
  rw [← Int.fmod_eq_emod_of_nonneg i (by omega)]
  exact if_pos (by omega)
theorem div_pos {i j : Int} (h : 0 < j) (hb : Bd 9000 j) : divD (.int i) (.int j) = some (.int (i / j)) := by
  rw [← Int.fdiv_eq_ediv_of_nonneg i (by omega)]
  exact if_pos ⟨by omega, Nat.lt_of_lt_of_le (PySem.Flt.log2_lt_of (by decide) hb) (Nat.le_refl _)⟩
theorem div_sm {i j : Int} (h : 0 < j ∧ j < 4611686018427387904) : divD (.int i) (.int j) = some (.int (i / j)) := div_pos h.1 (Bd.mono (n := 62) (show j.natAbs < 2 ^ 62 by omega) (by decide))
theorem bd_lit {n : Nat} {x : Int} (h : x.natAbs < 2 ^ n) : Bd n x := h
/-! ### equality -/
/-- == on data -/
def eqq (d e : Dt) : Bool := ((py d).bind fun x => (py e).map fun y => PyData.eqv x y).getD false
def eqqs (d e : List Dt) : Bool := ((pys d).bind fun x => (pys e).map fun y => PyData.eqvAll x y).getD false
theorem eqq_int (i j : Int) : eqq (.int i) (.int j) = decide (i = j) := by
  show (i == j) = decide (i = j)
  by_cases h : i = j <;> simp [h]
theorem eqq_str (i j : Str) : eqq (.str i) (.str j) = (i == j) := rfl
theorem eqq_bl (i j : Bool) : eqq (.bl i) (.bl j) = (i == j) := rfl
theorem eqq_non : eqq .non .non = true := rfl
theorem eqq_nonI (i : Int) : eqq .non (.int i) = false := rfl
theorem eqq_Inon (i : Int) : eqq (.int i) .non = false := rfl
theorem eqq_nonT (xs : List Dt) : eqq .non (.tup xs) = false := by
  unfold eqq
  rw [py, py]
  cases pys xs <;> rfl
theorem eqq_Tnon (xs : List Dt) : eqq (.tup xs) .non = false := by
  unfold eqq
  rw [py, py]
  cases pys xs <;> rfl
theorem eqq_TS (xs : List Dt) (s : Str) : eqq (.tup xs) (.str s) = false := by
  unfold eqq
  rw [py, py]
  cases pys xs <;> rfl
theorem eqq_tup (xs ys : List Dt) : eqq (.tup xs) (.tup ys) = eqqs xs ys := by
  unfold eqq eqqs
  rw [py, py]
  cases pys xs <;> cases pys ys <;> rfl
theorem eqq_lst (xs ys : List Dt) : eqq (.lst xs) (.lst ys) = eqqs xs ys := by
  unfold eqq eqqs
  rw [py, py]
  cases pys xs <;> cases pys ys <;> rfl
theorem eqq_frl (xs ys : List Dt) : eqq (.frl xs) (.lst ys) = eqqs xs ys := by
  unfold eqq eqqs
  rw [py, py]
  cases pys xs <;> cases pys ys <;> rfl
theorem eqqs_nil : eqqs [] [] = true := rfl
theorem eqqs_cons (x y : Dt) (xs ys : List Dt) : eqqs (x :: xs) (y :: ys) = (eqq x y && eqqs xs ys) := by
  unfold eqqs eqq
  rw [pys, pys]
  cases py x <;> cases py y <;> cases pys xs <;> cases pys ys <;> simp [PyData.eqvAll]
theorem eqqs_nc (y : Dt) (ys : List Dt) : eqqs [] (y :: ys) = false := by
  unfold eqqs
  rw [pys, pys]
  cases py y <;> cases pys ys <;> rfl
theorem eqqs_cn (y : Dt) (ys : List Dt) : eqqs (y :: ys) [] = false := by
  unfold eqqs
  rw [pys, pys]
  cases py y <;> cases pys ys <;> rfl
mutual
/-- comparable, n deep at most -/
def okq : Nat → Dt → Bool
  | _, .non => true
  | _, .bl _ => true
  | _, .int _ => true
  | _, .str x => PyData.strOk x
  | n + 1, .tup xs => okqs n xs
  | n + 1, .lst xs => okqs n xs
  | n + 1, .frl xs => okqs n xs
  | _, _ => false
def okqs : Nat → List Dt → Bool
  | _, [] => true
  | n, x :: xs => okq n x && okqs n xs
end
mutual
theorem okq_py : ∀ (d : Dt) (n : Nat), okq n d = true → ∃ x, py d = some x ∧ x.canLay0 = true ∧ x.depth ≤ n
  | .non, n, h => ⟨_, rfl, rfl, Nat.zero_le _⟩
  | .bl _, n, h => ⟨_, rfl, rfl, Nat.zero_le _⟩
  | .int _, n, h => ⟨_, rfl, rfl, Nat.zero_le _⟩
  | .str x, n, h => ⟨_, rfl, by cases n <;> exact h, Nat.zero_le _⟩
  | .tup xs, n, h => by
    cases n with
    | zero => cases h
    | succ n =>
      obtain ⟨ys, h1, h2, h3⟩ := okqs_py xs n h
      exact ⟨.tuple ys, by rw [py, h1]; rfl, h2, Nat.succ_le_succ h3⟩
  | .lst xs, n, h => by
    cases n with
    | zero => cases h
    | succ n =>
      obtain ⟨ys, h1, h2, h3⟩ := okqs_py xs n h
      exact ⟨.list ys, by rw [py, h1]; rfl, h2, Nat.succ_le_succ h3⟩
  | .frl xs, n, h => by
    cases n with
    | zero => cases h
    | succ n =>
      obtain ⟨ys, h1, h2, h3⟩ := okqs_py xs n h
      exact ⟨.list ys, by rw [py, h1]; rfl, h2, Nat.succ_le_succ h3⟩
  | .ins _ _ _, n, h => by cases n <;> cases h
  | .fn _ _ _ _ _, n, h => by cases n <;> cases h
theorem okqs_py : ∀ (ds : List Dt) (n : Nat), okqs n ds = true → ∃ xs, pys ds = some xs ∧ PyData.canLayAll0 xs = true ∧ PyData.depthAll xs ≤ n
  | [], n, h => ⟨[], rfl, rfl, Nat.zero_le _⟩
  | d :: ds, n, h => by
    rw [okqs, Bool.and_eq_true] at h
    obtain ⟨x, h1, h2, h3⟩ := okq_py d n h.1
    obtain ⟨xs, h4, h5, h6⟩ := okqs_py ds n h.2
    refine ⟨x :: xs, by rw [pys, h1, h4]; rfl, ?_, ?_⟩
    · rw [PyData.canLayAll0, h2, h5]; rfl
    · rw [PyData.depthAll]; exact Nat.max_le.mpr ⟨h3, h6⟩
end
theorem eqB_of {n : Nat} {x y : Dt} (h1 : okq n x = true) (h2 : okq n y = true) (hn : n ≤ 64) : eqB x y = some (eqq x y) := by
  obtain ⟨a, a1, a2, a3⟩ := okq_py x n h1
  obtain ⟨b, b1, b2, b3⟩ := okq_py y n h2
  have sa : SeqAt.shaped a = true := by
    unfold SeqAt.shaped
    rw [a2, decide_eq_true (Nat.le_trans a3 hn)]; rfl
  have sb : SeqAt.shaped b = true := by
    unfold SeqAt.shaped
    rw [b2, decide_eq_true (Nat.le_trans b3 hn)]; rfl
  unfold eqB eqq
  rw [a1, b1]
  exact if_pos ⟨sa, sb⟩
theorem eqD_of {n : Nat} {x y : Dt} (h1 : okq n x = true) (h2 : okq n y = true) (hn : n ≤ 64) : eqD x y = some (.bl (eqq x y)) := by
  unfold eqD
  rw [eqB_of h1 h2 hn]; rfl
theorem neD_of {n : Nat} {x y : Dt} (h1 : okq n x = true) (h2 : okq n y = true) (hn : n ≤ 64) : neD x y = some (.bl (!eqq x y)) := by
  unfold neD
  rw [eqB_of h1 h2 hn]; rfl
theorem eqD_int (i j : Int) : eqD (.int i) (.int j) = some (.bl (decide (i = j))) := by rw [eqD_of (n := 0) rfl rfl (by decide), eqq_int]
theorem neD_int (i j : Int) : neD (.int i) (.int j) = some (.bl (!decide (i = j))) := by rw [neD_of (n := 0) rfl rfl (by decide), eqq_int]
/-! ### comprehensions -/
theorem lcGo_map {α : Type} {set : Sf} {test : Tf} {elt : Fn} {ε : Ev} {l : List α} {en f : α → Dt} (h : ∀ a ∈ l, ∃ ε1, set (en a) ε = some ε1 ∧ test ε1 = .ok true ∧ elt ε1 = .ok (f a)) : lcGo set test elt ε (l.map en) = some (l.map f) := by
  induction l with
  | nil => rfl
  | cons a l ih =>
    obtain ⟨ε1, h1, h2, h3⟩ := h a List.mem_cons_self
    rw [List.map_cons, lcGo, h1, Option.bind_some, h2, show (Rz.ok true : Rz Str Bool).val = some true from rfl, Option.bind_some, if_pos rfl, h3, show (Rz.ok (f a) : Rz Str Dt).val = some (f a) from rfl, Option.bind_some, ih fun b hb => h b (List.mem_cons_of_mem _ hb)]
    rfl
theorem lcGo_mapN {α : Type} {i : Nat} {elt : Fn} {ε : Ev} {l : List α} {en f : α → Dt} (h : ∀ a ∈ l, elt (ε.set i (.d (en a))) = .ok (f a)) : lcGo (setN i) yes elt ε (l.map en) = some (l.map f) :=
  lcGo_map fun a ha => ⟨_, rfl, rfl, h a ha⟩
/-- a comprehension over a list that is the image of plain things -/
theorem lcF_map {α : Type} {it : Fs} {own : List Nat} {i : Nat} {elt : Fn} {ε : Ev} {l : List α} {en f : α → Dt} (hi : it ε = .ok (l.map en)) (hl : l.length < 16777216) (h : ∀ a ∈ l, elt ((wipeE ε own).set i (.d (en a))) = .ok (f a)) : lcF it own (setN i) yes elt ε = .ok (l.map f) := by
  unfold lcF
  rw [hi, Rz.bind_ok, if_pos (by rw [List.length_map, sizeLine_eq]; exact hl), lcGo_mapN h]
  rfl
/-- .. over range(n) -/
theorem lcF_rng {it : Fs} {own : List Nat} {i : Nat} {elt : Fn} {ε : Ev} {n : Nat} {f : Nat → Dt} (hi : it ε = .ok (upTo 0 n)) (hl : n < 16777216) (h : ∀ k, k < n → elt ((wipeE ε own).set i (.d (.int k))) = .ok (f k)) : lcF it own (setN i) yes elt ε = .ok ((List.range n).map f) := by
  refine lcF_map (l := List.range n) (en := fun k => .int (0 + (k : Int))) hi (by rw [List.length_range]; exact hl) fun k hk => ?_
  rw [Int.zero_add]
  exact h k (List.mem_range.mp hk)
theorem rng_ok {j : Int} (h0 : 0 ≤ j) (h1 : j < 2 ^ 62) : rngD (.int j) = some (upTo 0 j.toNat) := if_pos ⟨by omega, h1⟩
/-! ### equations of the readings -/
section
variable {ε : Ev} {α β : Type} {f g : Fn} {r : Re}
theorem q_ofO (a : α) : (Rz.ofO (some a) : Rz Str α) = .ok a := rfl
theorem q_ofN : (Rz.ofO (none : Option α) : Rz Str α) = .bad := rfl
theorem q_bad (f : α → Rz Str β) : (Rz.bad : Rz Str α).bind f = .bad := rfl
theorem q_ex (c : Str) (f : α → Rz Str β) : (Rz.ex c : Rz Str α).bind f = .ex c := rfl
theorem q_exS (a : α) : exS ε (.ok a : Rz Str α) = .ok a := rfl
theorem q_exX (c : Str) : exS ε (.ex c : Rz Str α) = .ex (c, ε) := rfl
theorem q_exB (x : Str × Ev) (f : α → Rz (Str × Ev) β) : (Rz.ex x : Rz (Str × Ev) α).bind f = .ex x := rfl
theorem q_okB (a : α) (f : α → Rz (Str × Ev) β) : (Rz.ok a : Rz (Str × Ev) α).bind f = f a := rfl
theorem q_nx (g : Sg) : seqR (.ok (.nx ε)) g = g ε := rfl
theorem q_rt (d : Dt) (g : Sg) : seqR (.ok (.rt d)) g = .ok (.rt d) := rfl
theorem q_ro (d : List Dt) (g : Sg) : seqR (.ok (.ro d)) g = .ok (.ro d) := rfl
theorem q_bk (g : Sg) : seqR (.ok (.bk ε)) g = .ok (.bk ε) := rfl
theorem q_ct (g : Sg) : seqR (.ok (.ct ε)) g = .ok (.ct ε) := rfl
theorem q_sx (x : Str × Ev) (g : Sg) : seqR (.ex x) g = .ex x := rfl
theorem q_anx (g : Sg) : afterB (.ok (.nx ε)) g = g ε := rfl
theorem q_act (g : Sg) : afterB (.ok (.ct ε)) g = g ε := rfl
theorem q_abk (g : Sg) : afterB (.ok (.bk ε)) g = .ok (.nx ε) := rfl
theorem q_art (d : Dt) (g : Sg) : afterB (.ok (.rt d)) g = .ok (.rt d) := rfl
theorem q_bnx : bodyR (.ok (.nx ε)) = .ok (.va .non) := rfl
theorem q_brt (d : Dt) : bodyR (.ok (.rt d)) = .ok (.va d) := rfl
theorem q_bro (d : List Dt) : bodyR (.ok (.ro d)) = .ok (.ow d) := rfl
theorem q_bex (c : Str) : bodyR (.ex (c, ε)) = .ex c := rfl
theorem q_va (d : Dt) : Oc.dt (.va d) = d := rfl
theorem q_ow (d : List Dt) : Oc.dt (.ow d) = .lst d := rfl
theorem q_gv {i : Nat} {d : Dt} (h : ε[i]? = some (.d d)) : gv i ε = .ok d := by unfold gv; rw [h]
theorem q_gb {i : Nat} {d : Dt} (h : ε[i]? = some (.d d)) : gb i ε = .ok d := by unfold gb; rw [h]
theorem q_gbo {i : Nat} {xs : List Dt} (h : ε[i]? = some (.o xs)) : gb i ε = .ok (.lst xs) := by unfold gb; rw [h]
theorem q_boo (b : Bool) : Dt.boo (.bl b) = .ok b := rfl
theorem q_call {n : Nat} {G : Fd} {fs : Fs} {ds : List Dt} {o : Oc} (h1 : fs ε = .ok ds) (h2 : ds.length = n) (h3 : G ds = .ok o) : callF n G fs ε = .ok o.dt := by
  unfold callF
  rw [h1, Rz.bind_ok, if_pos h2, h3]; rfl
theorem q_sh {i : Nat} {xs : List Dt} {g : Sg} (h : ε[i]? = some (.o xs)) : shS i g ε = g (ε.set i (.d (.lst xs))) := by unfold shS; rw [h]
end
theorem add_int (i j : Int) : addD (.int i) (.int j) = some (.int (i + j)) := rfl
theorem sub_int (i j : Int) : subD (.int i) (.int j) = some (.int (i - j)) := rfl
theorem lt_int (i j : Int) : ltD (.int i) (.int j) = some (.bl (decide (i < j))) := rfl
theorem le_int (i j : Int) : leD (.int i) (.int j) = some (.bl (decide (i ≤ j))) := rfl
theorem gt_int (i j : Int) : gtD (.int i) (.int j) = some (.bl (decide (j < i))) := rfl
theorem ge_int (i j : Int) : geD (.int i) (.int j) = some (.bl (decide (j ≤ i))) := rfl
theorem neg_int (i : Int) : negD (.int i) = some (.int (-i)) := rfl
/-! ### one step at a time -/
section
variable {ε ε' : Ev} {i : Nat} {f : Fn} {fs : Fs} {g a b : Sg} {t : Tf} {d : Dt} {ds : List Dt} {set : Sf}
theorem s_st (h : f ε = .ok d) : seqS (stS i f) g ε = g (ε.set i (.d d)) := by
  unfold seqS stS
  rw [h]; rfl
theorem s_sto (h : fs ε = .ok ds) : seqS (stO i fs) g ε = g (ε.set i (.o ds)) := by
  unfold seqS stO
  rw [h]; rfl
theorem s_as (h : f ε = .ok d) (k : set d ε = some ε') : seqS (asS f set) g ε = g ε' := by
  unfold seqS asS
  rw [h, q_exS, Rz.bind_ok, k]; rfl
theorem s_ifT (h : t ε = .ok true) : seqS (ifS t a b) g ε = seqR (a ε) g := by
  unfold seqS ifS
  rw [h]; rfl
theorem s_ifF (h : t ε = .ok false) : seqS (ifS t a (fun ε => .ok (.nx ε))) g ε = g ε := by
  unfold seqS ifS
  rw [h]; rfl
theorem s_ifE (h : t ε = .ok false) : seqS (ifS t a b) g ε = seqR (b ε) g := by
  unfold seqS ifS
  rw [h]; rfl
theorem i_T (h : t ε = .ok true) : ifS t a b ε = a ε := by
  unfold ifS
  rw [h]; rfl
theorem i_F (h : t ε = .ok false) : ifS t a b ε = b ε := by
  unfold ifS
  rw [h]; rfl
theorem s_rt (h : f ε = .ok d) : rtS f ε = .ok (.rt d) := by
  unfold rtS
  rw [h]; rfl
theorem b_rt {n : Nat} {us : List Dt} {g : Sg} (h : g (startE n us) = .ok (.rt d)) : bodyF n g us = .ok (.va d) := by
  unfold bodyF
  rw [h]; rfl
theorem c_1 {n : Nat} {G : Fd} {o : Oc} {ds : List Dt} (h1 : fs ε = .ok ds) (h2 : ds.length = n) (h3 : G ds = .ok o) (h4 : o.dt = d) : callF n G fs ε = .ok d := by
  rw [q_call h1 h2 h3, h4]
variable {h : Fn} {o : O2} {u : Dt → Option Dt} {un' : Dt → Option (List Dt)} {x y z : Dt}
theorem e_bin (h1 : f ε = .ok x) (h2 : h ε = .ok y) (h3 : o x y = some z) : bin o f h ε = .ok z := by
  unfold bin
  rw [h1, Rz.bind_ok, h2, Rz.bind_ok, h3]; rfl
theorem e_un (h1 : f ε = .ok x) (h3 : u x = some z) : un u f ε = .ok z := by
  unfold un
  rw [h1, Rz.bind_ok, h3]; rfl
theorem e_unN (h1 : f ε = .ok x) (h3 : un' x = some ds) : unN un' f ε = .ok ds := by
  unfold unN
  rw [h1, Rz.bind_ok, h3]; rfl
theorem e_lst (h1 : fs ε = .ok ds) : lstF fs ε = .ok (.lst ds) := by
  unfold lstF
  rw [h1]; rfl
theorem e_tup (h1 : fs ε = .ok ds) (h2 : ds.length ≤ 16777216) : tupF fs ε = .ok (.tup ds) := by
  unfold tupF
  rw [h1]
  first | rfl | exact if_pos (by rw [sizeLine_eq]; exact h2)
theorem e_cons (h1 : f ε = .ok x) (h2 : fs ε = .ok ds) : consF f fs ε = .ok (x :: ds) := by
  unfold consF
  rw [h1, Rz.bind_ok, h2]; rfl
theorem e_tst {b : Bool} (h1 : f ε = .ok (.bl b)) : tst f ε = .ok b := by
  unfold tst
  rw [h1]; rfl
end
end DL
end
section
set_option Elab.async false
set_option linter.all false
set_option maxRecDepth 100000
set_option maxHeartbeats 4000000
set_option autoImplicit false
namespace DL
variable [TbC]
open PySem
/-! ### points -/
abbrev P3 := Int × Int × Int
def co : Nat → P3 → Int
  | 0, p => p.1
  | 1, p => p.2.1
  | _, p => p.2.2
def en (p : P3) : Dt := .tup [.int p.1, .int p.2.1, .int p.2.2]
def rayD (s w : P3) : Dt := .tup [en s, en w]
theorem en_ix (p : P3) (k : Nat) (h : k < 3) : ixD (en p) (.int k) = some (.int (co k p)) := by
  match k, h with
  | 0, _ => rfl
  | 1, _ => rfl
  | 2, _ => rfl
theorem en_okq (p : P3) : okq 1 (en p) = true := rfl
theorem ens_okq (ps : List P3) : okqs 1 (ps.map en) = true := by
  induction ps with
  | nil => rfl
  | cons a l ih => rw [List.map_cons, okqs, ih, en_okq]; rfl
theorem eqq_en (p q : P3) : eqq (en p) (en q) = decide (p = q) := by
  unfold en
  rw [eqq_tup, eqqs_cons, eqqs_cons, eqqs_cons, eqqs_nil, eqq_int, eqq_int, eqq_int]
  obtain ⟨a, b, c⟩ := p
  obtain ⟨d, e, f⟩ := q
  simp only [Prod.mk.injEq]
  by_cases h1 : a = d <;> by_cases h2 : b = e <;> by_cases h3 : c = f <;> simp [h1, h2, h3]
theorem eqqs_ens (ps qs : List P3) : eqqs (ps.map en) (qs.map en) = decide (ps = qs) := by
  induction ps generalizing qs with
  | nil => cases qs with
    | nil => rfl
    | cons b m => rw [List.map_cons, List.map_nil, eqqs_nc]; rfl
  | cons a l ih => cases qs with
    | nil => rw [List.map_cons, List.map_nil, eqqs_cn]; rfl
    | cons b m =>
      rw [List.map_cons, List.map_cons, eqqs_cons, ih, eqq_en]
      simp only [List.cons.injEq]
      by_cases h1 : a = b <;> by_cases h2 : l = m <;> simp [h1, h2]
theorem range3 {α : Type} (f : Nat → α) : (List.range 3).map f = [f 0, f 1, f 2] := rfl
theorem tupD_lst (xs : List Dt) : tupD (.lst xs) = some (.tup xs) := rfl
end DL
end
section
set_option Elab.async false
set_option linter.all false
set_option maxRecDepth 100000
set_option maxHeartbeats 4000000
set_option autoImplicit false
namespace DL
variable [TbC]
open PySem
/-! ### vectors -/
def mnP (p q : P3) : P3 := (p.1 - q.1, p.2.1 - q.2.1, p.2.2 - q.2.2)
def dtP (p q : P3) : Int := p.1 * q.1 + p.2.1 * q.2.1 + p.2.2 * q.2.2
def crP (p q : P3) : P3 := (p.2.1 * q.2.2 - p.2.2 * q.2.1, p.2.2 * q.1 - p.1 * q.2.2, p.1 * q.2.1 - p.2.1 * q.1)
def BdN (n : Nat) (p : P3) : Prop := Bd n p.1 ∧ Bd n p.2.1 ∧ Bd n p.2.2
theorem BdN.mono {n m : Nat} {p : P3} (h : BdN n p) (l : n ≤ m) : BdN m p := ⟨h.1.mono l, h.2.1.mono l, h.2.2.mono l⟩
theorem BdN.mn {n : Nat} {p q : P3} (h : BdN n p) (k : BdN n q) : BdN (n + 1) (mnP p q) := ⟨h.1.sub k.1, h.2.1.sub k.2.1, h.2.2.sub k.2.2⟩
theorem BdN.cr {n m : Nat} {p q : P3} (h : BdN n p) (k : BdN m q) : BdN (n + m + 1) (crP p q) :=
  ⟨(h.2.1.mul k.2.2).sub (h.2.2.mul k.2.1), (h.2.2.mul k.1).sub (h.1.mul k.2.2), (h.1.mul k.2.1).sub (h.2.1.mul k.1)⟩
theorem BdN.dt {n m : Nat} {p q : P3} (h : BdN n p) (k : BdN m q) : Bd (n + m + 2) (dtP p q) := ((h.1.mul k.1).add (h.2.1.mul k.2.1)).add ((h.2.2.mul k.2.2).mono (Nat.le_succ _))
theorem en0 (p : P3) : ixD (en p) (.int 0) = some (.int p.1) := rfl
theorem en1 (p : P3) : ixD (en p) (.int 1) = some (.int p.2.1) := rfl
theorem en2 (p : P3) : ixD (en p) (.int 2) = some (.int p.2.2) := rfl
theorem F_dot_eq {n m : Nat} {p q : P3} (h : BdN n p) (k : BdN m q) (h0 : 0 < n) (h1 : 0 < m) (hs : n + m ≤ 1000000) : F_dot [en p, en q] = .ok (.va (.int (dtP p q))) := by
  have e1 := mul_bd h.1 k.1 h0 h1 hs
  have e2 := mul_bd h.2.1 k.2.1 h0 h1 hs
  have e3 := mul_bd h.2.2 k.2.2 h0 h1 hs
  simp only [F_dot, g_dot, bodyF, startE, seqS, stS, stO, rtS, roS, roV, asS, ifS, xpS, bin, un, unN, lstF, lsF, consF, nilF, tupF, kc, gv, gb, tst, andT, orT, notT, andV, orV, notV, ifV, callF, callN, iterF, rngF, walked, slF, noP, soP, setN, setT, setCons, setNil, wipeE, yes, forS, prS, Rz.bind_ok, q_ofO, q_ofN, q_bad, q_ex, q_exS, q_exX, q_exB, q_okB, q_nx, q_rt, q_ro, q_bk, q_ct, q_sx, q_anx, q_act, q_abk, q_art, q_bnx, q_brt, q_bro, q_bex, q_va, q_ow, q_boo, add_int, sub_int, lt_int, le_int, gt_int, ge_int, neg_int, List.map_cons, List.map_nil, List.length_cons, List.length_nil, List.nil_append, List.cons_append, List.replicate, List.getElem?_cons_zero, List.getElem?_cons_succ, env_set0, env_setS, Option.bind_some, Option.map_some, if_true, Bool.false_eq_true, if_false, Nat.reduceAdd, Nat.reduceSub, sizeLine_eq, Nat.reduceLeDiff, Nat.zero_le, en0, en1, en2, e1, e2, e3]
  rfl
theorem F_cross_eq {n m : Nat} {p q : P3} (h : BdN n p) (k : BdN m q) (h0 : 0 < n) (h1 : 0 < m) (hs : n + m ≤ 1000000) : F_cross [en p, en q] = .ok (.va (en (crP p q))) := by
  have e1 := mul_bd h.1 k.2.1 h0 h1 hs
  have e2 := mul_bd h.1 k.2.2 h0 h1 hs
  have e3 := mul_bd h.2.1 k.1 h0 h1 hs
  have e4 := mul_bd h.2.1 k.2.2 h0 h1 hs
  have e5 := mul_bd h.2.2 k.1 h0 h1 hs
  have e6 := mul_bd h.2.2 k.2.1 h0 h1 hs
  simp only [F_cross, g_cross, bodyF, startE, seqS, stS, stO, rtS, roS, roV, asS, ifS, xpS, bin, un, unN, lstF, lsF, consF, nilF, tupF, kc, gv, gb, tst, andT, orT, notT, andV, orV, notV, ifV, callF, callN, iterF, rngF, walked, slF, noP, soP, setN, setT, setCons, setNil, wipeE, yes, forS, prS, Rz.bind_ok, q_ofO, q_ofN, q_bad, q_ex, q_exS, q_exX, q_exB, q_okB, q_nx, q_rt, q_ro, q_bk, q_ct, q_sx, q_anx, q_act, q_abk, q_art, q_bnx, q_brt, q_bro, q_bex, q_va, q_ow, q_boo, add_int, sub_int, lt_int, le_int, gt_int, ge_int, neg_int, List.map_cons, List.map_nil, List.length_cons, List.length_nil, List.nil_append, List.cons_append, List.replicate, List.getElem?_cons_zero, List.getElem?_cons_succ, env_set0, env_setS, Option.bind_some, Option.map_some, if_true, Bool.false_eq_true, if_false, Nat.reduceAdd, Nat.reduceSub, sizeLine_eq, Nat.reduceLeDiff, Nat.zero_le, en0, en1, en2, e1, e2, e3, e4, e5, e6]
  rfl
/-! identities -/
theorem dt_comm (p q : P3) : dtP p q = dtP q p := by
  obtain ⟨a, b, c⟩ := p
  obtain ⟨d, e, f⟩ := q
  simp only [dtP]
  grind
/-- a vector by three that stand askew -/
theorem split3 (g w v : P3) (k : Nat) : dtP (crP w v) (crP w v) * co k g = dtP (crP g v) (crP w v) * co k w - dtP (crP g w) (crP w v) * co k v + dtP g (crP w v) * co k (crP w v) := by
  obtain ⟨a, b, c⟩ := g
  obtain ⟨d, e, f⟩ := w
  obtain ⟨x, y, z⟩ := v
  match k with
  | 0 => simp only [dtP, crP, co]; grind
  | 1 => simp only [dtP, crP, co]; grind
  | k + 2 => simp only [dtP, crP, co]; grind
theorem dt_pos {p : P3} (h : p ≠ (0, 0, 0)) : 0 < dtP p p := by
  obtain ⟨a, b, c⟩ := p
  have sq : ∀ x : Int, 0 ≤ x * x ∧ (x ≠ 0 → 0 < x * x) := fun x => by
    refine ⟨?_, fun hx => ?_⟩
    · rcases Int.le_total 0 x with z | z
      · exact Int.mul_nonneg z z
      · exact Int.mul_nonneg_of_nonpos_of_nonpos z z
    · rcases Int.lt_trichotomy x 0 with z | z | z
      · exact Int.mul_pos_of_neg_of_neg z z
      · exact absurd z hx
      · exact Int.mul_pos z z
  have ha := sq a
  have hb := sq b
  have hc := sq c
  simp only [dtP]
  by_cases z1 : a = 0
  · by_cases z2 : b = 0
    · by_cases z3 : c = 0
      · subst z1 z2 z3; exact absurd rfl h
      · have := hc.2 z3; omega
    · have := hb.2 z2; omega
  · have := ha.2 z1; omega
end DL
end
section
set_option Elab.async false
set_option linter.all false
set_option maxRecDepth 100000
set_option maxHeartbeats 4000000
set_option autoImplicit false
namespace DL
variable [TbC]
open PySem
def BdP (p : P3) : Prop := ∀ k, Bd 400 (co k p)
theorem bdp_of {p : P3} {n : Nat} (hn : n ≤ 400) (h0 : Bd n p.1) (h1 : Bd n p.2.1) (h2 : Bd n p.2.2) : BdP p := fun k => by
  match k with
  | 0 => exact h0.mono hn
  | 1 => exact h1.mono hn
  | k + 2 => exact h2.mono hn
end DL
end
section
set_option Elab.async false
set_option linter.all false
set_option maxRecDepth 100000
set_option maxHeartbeats 4000000
set_option autoImplicit false
namespace DL
variable [TbC]
open PySem
/-! ### fractions -/
abbrev Fr := Int × Int
def fr (x : Fr) : Dt := .tup [.int x.1, .int x.2]
def gle (x y : Fr) : Prop := x.1 * y.2 ≤ y.1 * x.2
instance (x y : Fr) : Decidable (gle x y) := inferInstanceAs (Decidable (x.1 * y.2 ≤ y.1 * x.2))
def rtg (t u : Int) : Int := if u < 0 then -(Int.gcd t u : Int) else (Int.gcd t u : Int)
def rat (t u : Int) : Fr := (t / rtg t u, u / rtg t u)
def Rdc (x : Fr) : Prop := 0 < x.2 ∧ Int.gcd x.1 x.2 = 1
theorem rat_g {t u : Int} (hu : u ≠ 0) : rtg t u ≠ 0 ∧ (0 < rtg t u ↔ 0 < u) ∧ t = rtg t u * (rat t u).1 ∧ u = rtg t u * (rat t u).2 := by
  have hg : (Int.gcd t u : Int) ≠ 0 := by
    intro h
    have h1 : Int.gcd t u = 0 := by exact_mod_cast h
    exact hu (Int.gcd_eq_zero_iff.mp h1).2
  have d1 : (Int.gcd t u : Int) ∣ t := Int.gcd_dvd_left ..
  have d2 : (Int.gcd t u : Int) ∣ u := Int.gcd_dvd_right ..
  have hp : 0 < (Int.gcd t u : Int) := by omega
  have e1 : rtg t u ∣ t := by
    unfold rtg; split
    · exact Int.neg_dvd.mpr d1
    · exact d1
  have e2 : rtg t u ∣ u := by
    unfold rtg; split
    · exact Int.neg_dvd.mpr d2
    · exact d2
  refine ⟨?_, ?_, (Int.mul_ediv_cancel' e1).symm, (Int.mul_ediv_cancel' e2).symm⟩
  · unfold rtg; split <;> omega
  · unfold rtg; split <;> omega
theorem rat_pos {t u : Int} (hu : u ≠ 0) : 0 < (rat t u).2 := by
  obtain ⟨h1, h2, h3, h4⟩ := rat_g (t := t) hu
  by_cases hp : 0 < u
  · have hg := h2.mpr hp
    rcases Int.lt_trichotomy (rat t u).2 0 with h | h | h
    · have := Int.mul_neg_of_pos_of_neg hg h; omega
    · rw [h] at h4; omega
    · exact h
  · have hg : rtg t u < 0 := by
      have : ¬ 0 < rtg t u := fun z => hp (h2.mp z)
      omega
    rcases Int.lt_trichotomy (rat t u).2 0 with h | h | h
    · have := Int.mul_pos_of_neg_of_neg hg h; omega
    · rw [h] at h4; omega
    · exact h
theorem rat_rd {t u : Int} (hu : u ≠ 0) : Rdc (rat t u) := by
  refine ⟨rat_pos hu, ?_⟩
  obtain ⟨h1, h2, h3, h4⟩ := rat_g (t := t) hu
  have e : Int.gcd t u = (rtg t u).natAbs * Int.gcd (rat t u).1 (rat t u).2 := by
    have := Int.gcd_mul_left (rtg t u) (rat t u).1 (rat t u).2
    rw [← h3, ← h4] at this
    exact this
  have e2 : (rtg t u).natAbs = Int.gcd t u := by
    unfold rtg; split
    · rw [Int.natAbs_neg, Int.natAbs_natCast]
    · rw [Int.natAbs_natCast]
  rw [e2] at e
  have hg : 0 < Int.gcd t u := by
    rcases Nat.eq_zero_or_pos (Int.gcd t u) with h | h
    · exact absurd (Int.gcd_eq_zero_iff.mp h).2 hu
    · exact h
  exact Nat.eq_of_mul_eq_mul_left hg (by rw [Nat.mul_one]; exact e.symm)
theorem Rdc.eq {x y : Fr} (h : Rdc x) (k : Rdc y) (e : x.1 * y.2 = y.1 * x.2) : x = y := by
  obtain ⟨a, b⟩ := x
  obtain ⟨c, d⟩ := y
  obtain ⟨h1, h2⟩ := h
  obtain ⟨k1, k2⟩ := k
  simp only at *
  have cop : ∀ {a b d c : Int}, Int.gcd a b = 1 → a * d = c * b → b ∣ d := fun {a b d c} g e => by
    have e' : a.natAbs * d.natAbs = c.natAbs * b.natAbs := by rw [← Int.natAbs_mul, ← Int.natAbs_mul, e]
    have : Nat.Coprime b.natAbs a.natAbs := by
      show Nat.gcd _ _ = 1
      rw [Nat.gcd_comm]
      exact g
    exact Int.natAbs_dvd_natAbs.mp (this.dvd_of_dvd_mul_left (by rw [e']; exact Nat.dvd_mul_left ..))
  have b_d : b ∣ d := cop h2 e
  have d_b : d ∣ b := cop k2 e.symm
  have e1 : b = d := Int.dvd_antisymm (by omega) (by omega) b_d d_b
  subst e1
  have : a = c := Int.eq_of_mul_eq_mul_right (by omega) e
  rw [this]
theorem rat_self {x : Fr} (h : Rdc x) : rat x.1 x.2 = x := by
  have h0 : x.2 ≠ 0 := by have := h.1; omega
  refine (rat_rd h0).eq h ?_
  obtain ⟨h1, h2, h3, h4⟩ := rat_g (t := x.1) h0
  apply Int.eq_of_mul_eq_mul_left h1
  calc rtg x.1 x.2 * ((rat x.1 x.2).1 * x.2) = (rtg x.1 x.2 * (rat x.1 x.2).1) * x.2 := by rw [Int.mul_assoc]
    _ = x.1 * x.2 := by rw [← h3]
    _ = x.1 * (rtg x.1 x.2 * (rat x.1 x.2).2) := by rw [← h4]
    _ = rtg x.1 x.2 * (x.1 * (rat x.1 x.2).2) := by rw [Int.mul_left_comm]
theorem rat_bd {n : Nat} {t u : Int} (hu : u ≠ 0) (h : Bd n t) (k : Bd n u) : Bd n (rat t u).1 ∧ Bd n (rat t u).2 := by
  obtain ⟨h1, h2, h3, h4⟩ := rat_g (t := t) hu
  have g1 : 1 ≤ (rtg t u).natAbs := by omega
  have e1 : t.natAbs = (rtg t u).natAbs * (rat t u).1.natAbs := by rw [← Int.natAbs_mul, ← h3]
  have e2 : u.natAbs = (rtg t u).natAbs * (rat t u).2.natAbs := by rw [← Int.natAbs_mul, ← h4]
  unfold Bd at *
  exact ⟨Nat.lt_of_le_of_lt (by rw [e1]; exact Nat.le_mul_of_pos_left _ g1) h, Nat.lt_of_le_of_lt (by rw [e2]; exact Nat.le_mul_of_pos_left _ g1) k⟩
/-! order -/
theorem gle_trans {x y z : Fr} (hx : 0 < x.2) (hy : 0 < y.2) (hz : 0 < z.2) (h : gle x y) (k : gle y z) : gle x z := by
  unfold gle at *
  have h1 := Int.mul_le_mul_of_nonneg_right h (Int.le_of_lt hz)
  have h2 := Int.mul_le_mul_of_nonneg_right k (Int.le_of_lt hx)
  refine Int.le_of_mul_le_mul_right (a := y.2) ?_ hy
  calc x.1 * z.2 * y.2 = x.1 * y.2 * z.2 := by rw [Int.mul_right_comm]
    _ ≤ y.1 * x.2 * z.2 := h1
    _ = y.1 * z.2 * x.2 := by rw [Int.mul_right_comm]
    _ ≤ z.1 * y.2 * x.2 := h2
    _ = z.1 * x.2 * y.2 := by rw [Int.mul_right_comm]
theorem gle_total (x y : Fr) : gle x y ∨ gle y x := by
  unfold gle; omega
theorem gle_of_not {x y : Fr} (h : ¬ gle x y) : gle y x := (gle_total x y).resolve_left h
theorem gle_refl (x : Fr) : gle x x := Int.le_refl _
theorem Rdc.anti {x y : Fr} (h : Rdc x) (k : Rdc y) (h1 : gle x y) (h2 : gle y x) : x = y := h.eq k (Int.le_antisymm h1 h2)
/-- a fraction told by any top and under -/
theorem gle_rat {t u : Int} (hu : u ≠ 0) (x : Fr) : (gle (rat t u) x ↔ if 0 < u then t * x.2 ≤ x.1 * u else x.1 * u ≤ t * x.2) ∧ (gle x (rat t u) ↔ if 0 < u then x.1 * u ≤ t * x.2 else t * x.2 ≤ x.1 * u) := by
  obtain ⟨h1, h2, h3, h4⟩ := rat_g (t := t) hu
  have e1 : t * x.2 = rtg t u * ((rat t u).1 * x.2) := by rw [← Int.mul_assoc, ← h3]
  have e2 : x.1 * u = rtg t u * (x.1 * (rat t u).2) := by rw [Int.mul_left_comm, ← h4]
  unfold gle
  by_cases hp : 0 < u
  · have hg := h2.mpr hp
    rw [if_pos hp, if_pos hp, e1, e2]
    exact ⟨(Int.mul_le_mul_left hg).symm, (Int.mul_le_mul_left hg).symm⟩
  · have hg : rtg t u < 0 := by
      have : ¬ 0 < rtg t u := fun z => hp (h2.mp z)
      omega
    rw [if_neg hp, if_neg hp, e1, e2]
    have neg : ∀ a b : Int, a ≤ b ↔ rtg t u * b ≤ rtg t u * a := fun a b => by
      constructor
      · exact fun h => Int.mul_le_mul_of_nonpos_left (by omega) h
      · intro h
        rcases Int.lt_or_le b a with z | z
        · have := Int.mul_lt_mul_of_neg_left z hg
          omega
        · exact z
    exact ⟨neg _ _, neg _ _⟩
/-! ### the loops of ratio -/
theorem absD_int (i : Int) : absD (.int i) = some (.int (i.natAbs : Int)) := by
  show some (Dt.int (if i < 0 then -i else i)) = _
  rw [show (if i < 0 then -i else i) = (i.natAbs : Int) by split <;> omega]
theorem mod_nat {a b : Nat} (h : b ≠ 0) : modD (.int a) (.int b) = some (.int ((a % b : Nat) : Int)) := by rw [mod_pos (by omega)]; rfl
theorem fdiv_mul {d t : Int} {n : Nat} (h : d ≠ 0) (hb : Bd n d) (hn : n ≤ 9000) : divD (.int (d * t)) (.int d) = some (.int t) := by
  have e : (d * t).fdiv d = t := Int.mul_fdiv_cancel_left _ h
  refine (if_pos ⟨h, PySem.Flt.log2_lt_of (by decide) (Bd.mono hb hn)⟩).trans ?_
  rw [e]
theorem gcd_loop (d0 d1 : Lc) : ∀ (b a : Nat), whS (tst (bin neD (gb 3) (kc (.int 0)))) (prS 2 3 (consF (gv 3) (consF (bin modD (gb 2) (gb 3)) nilF))) [d0, d1, .d (.int a), .d (.int b)] = .ok (.nx [d0, d1, .d (.int (Nat.gcd a b : Nat)), .d (.int 0)]) := by
  intro b
  induction b using Nat.strongRecOn with
  | ind b ih =>
    intro a
    rw [whS_step]
    by_cases h : b = 0
    · subst h
      have h1 : neD (.int ((0 : Nat) : Int)) (.int 0) = some (.bl false) := by rw [neD_int]; rfl
      simp only [whT, bodyF, startE, seqS, stS, stO, rtS, roS, roV, asS, ifS, xpS, bin, un, unN, lstF, lsF, consF, nilF, tupF, kc, gv, gb, tst, andT, orT, notT, andV, orV, notV, ifV, callF, callN, iterF, rngF, walked, slF, noP, soP, setN, setT, setCons, setNil, wipeE, yes, forS, prS, Rz.bind_ok, q_ofO, q_ofN, q_bad, q_ex, q_exS, q_exX, q_exB, q_okB, q_nx, q_rt, q_ro, q_bk, q_ct, q_sx, q_anx, q_act, q_abk, q_art, q_bnx, q_brt, q_bro, q_bex, q_va, q_ow, q_boo, add_int, sub_int, lt_int, le_int, gt_int, ge_int, neg_int, List.map_cons, List.map_nil, List.length_cons, List.length_nil, List.nil_append, List.cons_append, List.replicate, List.getElem?_cons_zero, List.getElem?_cons_succ, env_set0, env_setS, Option.bind_some, Option.map_some, if_true, Bool.false_eq_true, if_false, Nat.reduceAdd, Nat.reduceSub, sizeLine_eq, Nat.reduceLeDiff, Nat.zero_le, h1]
      rw [Nat.gcd_zero_right]
      rfl
    · have h1 : neD (.int (b : Int)) (.int 0) = some (.bl true) := by rw [neD_int, decide_eq_false (by omega)]; rfl
      simp only [whT, bodyF, startE, seqS, stS, stO, rtS, roS, roV, asS, ifS, xpS, bin, un, unN, lstF, lsF, consF, nilF, tupF, kc, gv, gb, tst, andT, orT, notT, andV, orV, notV, ifV, callF, callN, iterF, rngF, walked, slF, noP, soP, setN, setT, setCons, setNil, wipeE, yes, forS, prS, Rz.bind_ok, q_ofO, q_ofN, q_bad, q_ex, q_exS, q_exX, q_exB, q_okB, q_nx, q_rt, q_ro, q_bk, q_ct, q_sx, q_anx, q_act, q_abk, q_art, q_bnx, q_brt, q_bro, q_bex, q_va, q_ow, q_boo, add_int, sub_int, lt_int, le_int, gt_int, ge_int, neg_int, List.map_cons, List.map_nil, List.length_cons, List.length_nil, List.nil_append, List.cons_append, List.replicate, List.getElem?_cons_zero, List.getElem?_cons_succ, env_set0, env_setS, Option.bind_some, Option.map_some, if_true, Bool.false_eq_true, if_false, Nat.reduceAdd, Nat.reduceSub, sizeLine_eq, Nat.reduceLeDiff, Nat.zero_le, h1, mod_nat h]
      rw [ih (a % b) (Nat.mod_lt _ (by omega)) b]
      rw [show Nat.gcd b (a % b) = Nat.gcd a b by rw [Nat.gcd_comm, ← Nat.gcd_rec, Nat.gcd_comm]]
theorem rtg_tail {t u : Int} (hu : u ≠ 0) {n : Nat} (hb : Bd n u) (hn : n ≤ 9000) : divD (.int t) (.int (rtg t u)) = some (.int (rat t u).1) ∧ divD (.int u) (.int (rtg t u)) = some (.int (rat t u).2) := by
  obtain ⟨h1, h2, h3, h4⟩ := rat_g (t := t) hu
  have hb' : Bd n (rtg t u) := by
    unfold Bd at *
    have e : u.natAbs = (rtg t u).natAbs * (rat t u).2.natAbs := by rw [← Int.natAbs_mul, ← h4]
    have := rat_pos (t := t) hu
    exact Nat.lt_of_le_of_lt (by rw [e]; exact Nat.le_mul_of_pos_right _ (by omega)) hb
  refine ⟨?_, ?_⟩
  · have := fdiv_mul (t := (rat t u).1) h1 hb' hn
    rw [← h3] at this
    exact this
  · have := fdiv_mul (t := (rat t u).2) h1 hb' hn
    rw [← h4] at this
    exact this
theorem F_ratio_eq {t u : Int} (hu : u ≠ 0) {n : Nat} (hb : Bd n u) (hn : n ≤ 9000) : F_ratio [.int t, .int u] = .ok (.va (fr (rat t u))) := by
  obtain ⟨h1, h2⟩ := rtg_tail (t := t) hu hb hn
  refine b_rt ?_
  unfold g_ratio
  rw [s_st (e_un rfl (absD_int t)), s_st (e_un rfl (absD_int u))]
  show seqR (whS _ _ [.d (.int t), .d (.int u), .d (.int t.natAbs), .d (.int u.natAbs)]) _ = _
  rw [gcd_loop, q_nx]
  have hg : (Nat.gcd t.natAbs u.natAbs : Int) = Int.gcd t u := rfl
  rw [hg]
  by_cases h : u < 0
  · rw [s_ifT (by simp only [bodyF, startE, seqS, stS, stO, rtS, roS, roV, asS, ifS, xpS, bin, un, unN, lstF, lsF, consF, nilF, tupF, kc, gv, gb, tst, andT, orT, notT, andV, orV, notV, ifV, callF, callN, iterF, rngF, walked, slF, noP, soP, setN, setT, setCons, setNil, wipeE, yes, forS, prS, Rz.bind_ok, q_ofO, q_ofN, q_bad, q_ex, q_exS, q_exX, q_exB, q_okB, q_nx, q_rt, q_ro, q_bk, q_ct, q_sx, q_anx, q_act, q_abk, q_art, q_bnx, q_brt, q_bro, q_bex, q_va, q_ow, q_boo, add_int, sub_int, lt_int, le_int, gt_int, ge_int, neg_int, List.map_cons, List.map_nil, List.length_cons, List.length_nil, List.nil_append, List.cons_append, List.replicate, List.getElem?_cons_zero, List.getElem?_cons_succ, env_set0, env_setS, Option.bind_some, Option.map_some, if_true, Bool.false_eq_true, if_false, Nat.reduceAdd, Nat.reduceSub, sizeLine_eq, Nat.reduceLeDiff, Nat.zero_le, decide_eq_true h])]
    have e : rtg t u = 0 - Int.gcd t u := by unfold rtg; rw [if_pos h]; omega
    rw [e] at h1 h2
    simp only [bodyF, startE, seqS, stS, stO, rtS, roS, roV, asS, ifS, xpS, bin, un, unN, lstF, lsF, consF, nilF, tupF, kc, gv, gb, tst, andT, orT, notT, andV, orV, notV, ifV, callF, callN, iterF, rngF, walked, slF, noP, soP, setN, setT, setCons, setNil, wipeE, yes, forS, prS, Rz.bind_ok, q_ofO, q_ofN, q_bad, q_ex, q_exS, q_exX, q_exB, q_okB, q_nx, q_rt, q_ro, q_bk, q_ct, q_sx, q_anx, q_act, q_abk, q_art, q_bnx, q_brt, q_bro, q_bex, q_va, q_ow, q_boo, add_int, sub_int, lt_int, le_int, gt_int, ge_int, neg_int, List.map_cons, List.map_nil, List.length_cons, List.length_nil, List.nil_append, List.cons_append, List.replicate, List.getElem?_cons_zero, List.getElem?_cons_succ, env_set0, env_setS, Option.bind_some, Option.map_some, if_true, Bool.false_eq_true, if_false, Nat.reduceAdd, Nat.reduceSub, sizeLine_eq, Nat.reduceLeDiff, Nat.zero_le, h1, h2]
    rfl
  · rw [s_ifF (by simp only [bodyF, startE, seqS, stS, stO, rtS, roS, roV, asS, ifS, xpS, bin, un, unN, lstF, lsF, consF, nilF, tupF, kc, gv, gb, tst, andT, orT, notT, andV, orV, notV, ifV, callF, callN, iterF, rngF, walked, slF, noP, soP, setN, setT, setCons, setNil, wipeE, yes, forS, prS, Rz.bind_ok, q_ofO, q_ofN, q_bad, q_ex, q_exS, q_exX, q_exB, q_okB, q_nx, q_rt, q_ro, q_bk, q_ct, q_sx, q_anx, q_act, q_abk, q_art, q_bnx, q_brt, q_bro, q_bex, q_va, q_ow, q_boo, add_int, sub_int, lt_int, le_int, gt_int, ge_int, neg_int, List.map_cons, List.map_nil, List.length_cons, List.length_nil, List.nil_append, List.cons_append, List.replicate, List.getElem?_cons_zero, List.getElem?_cons_succ, env_set0, env_setS, Option.bind_some, Option.map_some, if_true, Bool.false_eq_true, if_false, Nat.reduceAdd, Nat.reduceSub, sizeLine_eq, Nat.reduceLeDiff, Nat.zero_le, decide_eq_false h])]
    have e : rtg t u = Int.gcd t u := by unfold rtg; rw [if_neg h]
    rw [e] at h1 h2
    simp only [bodyF, startE, seqS, stS, stO, rtS, roS, roV, asS, ifS, xpS, bin, un, unN, lstF, lsF, consF, nilF, tupF, kc, gv, gb, tst, andT, orT, notT, andV, orV, notV, ifV, callF, callN, iterF, rngF, walked, slF, noP, soP, setN, setT, setCons, setNil, wipeE, yes, forS, prS, Rz.bind_ok, q_ofO, q_ofN, q_bad, q_ex, q_exS, q_exX, q_exB, q_okB, q_nx, q_rt, q_ro, q_bk, q_ct, q_sx, q_anx, q_act, q_abk, q_art, q_bnx, q_brt, q_bro, q_bex, q_va, q_ow, q_boo, add_int, sub_int, lt_int, le_int, gt_int, ge_int, neg_int, List.map_cons, List.map_nil, List.length_cons, List.length_nil, List.nil_append, List.cons_append, List.replicate, List.getElem?_cons_zero, List.getElem?_cons_succ, env_set0, env_setS, Option.bind_some, Option.map_some, if_true, Bool.false_eq_true, if_false, Nat.reduceAdd, Nat.reduceSub, sizeLine_eq, Nat.reduceLeDiff, Nat.zero_le, h1, h2]
    rfl
theorem F_is_less_eq {x y : Fr} {n : Nat} (b1 : Bd n x.1) (b2 : Bd n x.2) (b3 : Bd n y.1) (b4 : Bd n y.2) (h0 : 0 < n) (hn : n ≤ 500000) : F_is_less [fr x, fr y] = .ok (.va (.bl (!decide (gle y x)))) := by
  have m1 := mul_bd b1 b4 h0 h0 (by omega)
  have m2 := mul_bd b3 b2 h0 h0 (by omega)
  have i0 : ∀ z : Fr, ixD (fr z) (.int 0) = some (.int z.1) := fun _ => rfl
  have i1 : ∀ z : Fr, ixD (fr z) (.int 1) = some (.int z.2) := fun _ => rfl
  simp only [F_is_less, g_is_less, bodyF, startE, seqS, stS, stO, rtS, roS, roV, asS, ifS, xpS, bin, un, unN, lstF, lsF, consF, nilF, tupF, kc, gv, gb, tst, andT, orT, notT, andV, orV, notV, ifV, callF, callN, iterF, rngF, walked, slF, noP, soP, setN, setT, setCons, setNil, wipeE, yes, forS, prS, Rz.bind_ok, q_ofO, q_ofN, q_bad, q_ex, q_exS, q_exX, q_exB, q_okB, q_nx, q_rt, q_ro, q_bk, q_ct, q_sx, q_anx, q_act, q_abk, q_art, q_bnx, q_brt, q_bro, q_bex, q_va, q_ow, q_boo, add_int, sub_int, lt_int, le_int, gt_int, ge_int, neg_int, List.map_cons, List.map_nil, List.length_cons, List.length_nil, List.nil_append, List.cons_append, List.replicate, List.getElem?_cons_zero, List.getElem?_cons_succ, env_set0, env_setS, Option.bind_some, Option.map_some, if_true, Bool.false_eq_true, if_false, Nat.reduceAdd, Nat.reduceSub, sizeLine_eq, Nat.reduceLeDiff, Nat.zero_le, i0, i1, m1, m2]
  have e : decide (x.1 * y.2 < y.1 * x.2) = !decide (gle y x) := by
    by_cases h : x.1 * y.2 < y.1 * x.2
    · rw [decide_eq_true h, decide_eq_false (show ¬ gle y x from fun z => by unfold gle at z; omega)]; rfl
    · rw [decide_eq_false h, decide_eq_true (show gle y x by unfold gle; omega)]; rfl
  rw [e]
end DL
end
section
set_option Elab.async false
set_option linter.all false
set_option maxRecDepth 100000
set_option maxHeartbeats 4000000
set_option autoImplicit false
namespace DL
variable [TbC]
open PySem
theorem F_minus_eq (p q : P3) : F_minus [en p, en q] = .ok (.va (en (mnP p q))) := by
  simp only [F_minus, g_minus, bodyF, startE, seqS, stS, stO, rtS, roS, roV, asS, ifS, xpS, bin, un, unN, lstF, lsF, consF, nilF, tupF, kc, gv, gb, tst, andT, orT, notT, andV, orV, notV, ifV, callF, callN, iterF, rngF, walked, slF, noP, soP, setN, setT, setCons, setNil, wipeE, yes, forS, prS, Rz.bind_ok, q_ofO, q_ofN, q_bad, q_ex, q_exS, q_exX, q_exB, q_okB, q_nx, q_rt, q_ro, q_bk, q_ct, q_sx, q_anx, q_act, q_abk, q_art, q_bnx, q_brt, q_bro, q_bex, q_va, q_ow, q_boo, add_int, sub_int, lt_int, le_int, gt_int, ge_int, neg_int, List.map_cons, List.map_nil, List.length_cons, List.length_nil, List.nil_append, List.cons_append, List.replicate, List.getElem?_cons_zero, List.getElem?_cons_succ, env_set0, env_setS, Option.bind_some, Option.map_some, if_true, Bool.false_eq_true, if_false, Nat.reduceAdd, Nat.reduceSub, sizeLine_eq, Nat.reduceLeDiff, Nat.zero_le, en0, en1, en2]
  rfl
end DL
end
section
set_option Elab.async false
set_option linter.all false
set_option maxRecDepth 100000
set_option maxHeartbeats 4000000
set_option autoImplicit false
namespace DL
variable [TbC]
open PySem
/-! ### times that may be none -/
def hiD : Option Fr → Dt
  | none => .non
  | some x => fr x
structure Gt (x : Fr) : Prop where
  rd : Rdc x
  b1 : Bd 8900 x.1
  b2 : Bd 8900 x.2
theorem Gt.pos {x : Fr} (h : Gt x) : 0 < x.2 := h.rd.1
theorem gt_rat {t u : Int} (hu : u ≠ 0) (h1 : Bd 8900 t) (h2 : Bd 8900 u) : Gt (rat t u) := ⟨rat_rd hu, (rat_bd hu h1 h2).1, (rat_bd hu h1 h2).2⟩
theorem gt_01 : Gt (0, 1) := ⟨⟨by decide, by decide⟩, Bd.mono (n := 1) (show (0 : Int).natAbs < 2 ^ 1 by decide) (by decide), Bd.mono (n := 1) (show (1 : Int).natAbs < 2 ^ 1 by decide) (by decide)⟩
def lesO : Option Fr → Option Fr → Option Fr
  | none, y => y
  | some x, none => some x
  | some x, some y => if gle x y then some x else some y
theorem F_lesser_eq {x y : Option Fr} (hx : ∀ a, x = some a → Gt a) (hy : ∀ a, y = some a → Gt a) : F_lesser [hiD x, hiD y] = .ok (.va (hiD (lesO x y))) := by
  have n0 : isND .non .non = some (.bl true) := rfl
  have n1 : ∀ x : Fr, isND (fr x) .non = some (.bl false) := fun _ => rfl
  have n2 : notND .non .non = some (.bl false) := rfl
  have n3 : ∀ x : Fr, notND (fr x) .non = some (.bl true) := fun _ => rfl
  cases x with
  | none =>
    simp only [F_lesser, g_lesser, bodyF, startE, seqS, stS, stO, rtS, roS, roV, asS, ifS, xpS, bin, un, unN, lstF, lsF, consF, nilF, tupF, kc, gv, gb, tst, andT, orT, notT, andV, orV, notV, ifV, callF, callN, iterF, rngF, walked, slF, noP, soP, setN, setT, setCons, setNil, wipeE, yes, forS, prS, Rz.bind_ok, q_ofO, q_ofN, q_bad, q_ex, q_exS, q_exX, q_exB, q_okB, q_nx, q_rt, q_ro, q_bk, q_ct, q_sx, q_anx, q_act, q_abk, q_art, q_bnx, q_brt, q_bro, q_bex, q_va, q_ow, q_boo, add_int, sub_int, lt_int, le_int, gt_int, ge_int, neg_int, List.map_cons, List.map_nil, List.length_cons, List.length_nil, List.nil_append, List.cons_append, List.replicate, List.getElem?_cons_zero, List.getElem?_cons_succ, env_set0, env_setS, Option.bind_some, Option.map_some, if_true, Bool.false_eq_true, if_false, Nat.reduceAdd, Nat.reduceSub, sizeLine_eq, Nat.reduceLeDiff, Nat.zero_le, hiD, n0, lesO]
  | some a =>
    cases y with
    | none => simp only [F_lesser, g_lesser, bodyF, startE, seqS, stS, stO, rtS, roS, roV, asS, ifS, xpS, bin, un, unN, lstF, lsF, consF, nilF, tupF, kc, gv, gb, tst, andT, orT, notT, andV, orV, notV, ifV, callF, callN, iterF, rngF, walked, slF, noP, soP, setN, setT, setCons, setNil, wipeE, yes, forS, prS, Rz.bind_ok, q_ofO, q_ofN, q_bad, q_ex, q_exS, q_exX, q_exB, q_okB, q_nx, q_rt, q_ro, q_bk, q_ct, q_sx, q_anx, q_act, q_abk, q_art, q_bnx, q_brt, q_bro, q_bex, q_va, q_ow, q_boo, add_int, sub_int, lt_int, le_int, gt_int, ge_int, neg_int, List.map_cons, List.map_nil, List.length_cons, List.length_nil, List.nil_append, List.cons_append, List.replicate, List.getElem?_cons_zero, List.getElem?_cons_succ, env_set0, env_setS, Option.bind_some, Option.map_some, if_true, Bool.false_eq_true, if_false, Nat.reduceAdd, Nat.reduceSub, sizeLine_eq, Nat.reduceLeDiff, Nat.zero_le, hiD, n1, n2, lesO]
    | some b =>
      have ga := hx a rfl
      have gb' := hy b rfl
      have l := F_is_less_eq (x := b) (y := a) gb'.b1 gb'.b2 ga.b1 ga.b2 (by decide) (by decide)
      by_cases c : gle a b
      · simp only [F_lesser, g_lesser, bodyF, startE, seqS, stS, stO, rtS, roS, roV, asS, ifS, xpS, bin, un, unN, lstF, lsF, consF, nilF, tupF, kc, gv, gb, tst, andT, orT, notT, andV, orV, notV, ifV, callF, callN, iterF, rngF, walked, slF, noP, soP, setN, setT, setCons, setNil, wipeE, yes, forS, prS, Rz.bind_ok, q_ofO, q_ofN, q_bad, q_ex, q_exS, q_exX, q_exB, q_okB, q_nx, q_rt, q_ro, q_bk, q_ct, q_sx, q_anx, q_act, q_abk, q_art, q_bnx, q_brt, q_bro, q_bex, q_va, q_ow, q_boo, add_int, sub_int, lt_int, le_int, gt_int, ge_int, neg_int, List.map_cons, List.map_nil, List.length_cons, List.length_nil, List.nil_append, List.cons_append, List.replicate, List.getElem?_cons_zero, List.getElem?_cons_succ, env_set0, env_setS, Option.bind_some, Option.map_some, if_true, Bool.false_eq_true, if_false, Nat.reduceAdd, Nat.reduceSub, sizeLine_eq, Nat.reduceLeDiff, Nat.zero_le, hiD, n1, n3, l, decide_eq_true c, Bool.not_true, lesO, if_pos c]
      · simp only [F_lesser, g_lesser, bodyF, startE, seqS, stS, stO, rtS, roS, roV, asS, ifS, xpS, bin, un, unN, lstF, lsF, consF, nilF, tupF, kc, gv, gb, tst, andT, orT, notT, andV, orV, notV, ifV, callF, callN, iterF, rngF, walked, slF, noP, soP, setN, setT, setCons, setNil, wipeE, yes, forS, prS, Rz.bind_ok, q_ofO, q_ofN, q_bad, q_ex, q_exS, q_exX, q_exB, q_okB, q_nx, q_rt, q_ro, q_bk, q_ct, q_sx, q_anx, q_act, q_abk, q_art, q_bnx, q_brt, q_bro, q_bex, q_va, q_ow, q_boo, add_int, sub_int, lt_int, le_int, gt_int, ge_int, neg_int, List.map_cons, List.map_nil, List.length_cons, List.length_nil, List.nil_append, List.cons_append, List.replicate, List.getElem?_cons_zero, List.getElem?_cons_succ, env_set0, env_setS, Option.bind_some, Option.map_some, if_true, Bool.false_eq_true, if_false, Nat.reduceAdd, Nat.reduceSub, sizeLine_eq, Nat.reduceLeDiff, Nat.zero_le, hiD, n1, n3, l, decide_eq_false c, Bool.not_false, lesO, if_neg c]
/-! ### what is the first of times -/
/-- r tells the first of the times at which S holds -/
structure Fst (S : Fr → Prop) (r : Option Fr) : Prop where
  g : ∀ x, r = some x → Gt x ∧ 0 ≤ x.1 ∧ S x
  least : ∀ x, r = some x → ∀ t : Fr, 0 < t.2 → 0 ≤ t.1 → S t → gle x t
  no : r = none → ∀ t : Fr, 0 < t.2 → 0 ≤ t.1 → ¬ S t
theorem Fst.or {S T : Fr → Prop} {x y : Option Fr} (h : Fst S x) (k : Fst T y) : Fst (fun t => S t ∨ T t) (lesO x y) := by
  cases x with
  | none => exact ⟨fun a e => ⟨(k.g a e).1, (k.g a e).2.1, .inr (k.g a e).2.2⟩, fun a e t h1 h2 z => z.elim (fun z => absurd z (h.no rfl t h1 h2)) fun z => k.least a e t h1 h2 z, fun e t h1 h2 z => z.elim (h.no rfl t h1 h2) (k.no e t h1 h2)⟩
  | some a =>
    cases y with
    | none => exact ⟨fun b e => by cases e; exact ⟨(h.g a rfl).1, (h.g a rfl).2.1, .inl (h.g a rfl).2.2⟩, fun b e t h1 h2 z => by cases e; exact z.elim (fun z => h.least a rfl t h1 h2 z) fun z => absurd z (k.no rfl t h1 h2), fun e => nomatch e⟩
    | some b =>
      have ga := h.g a rfl
      have gb := k.g b rfl
      unfold lesO
      by_cases c : gle a b
      · simp only [if_pos c]
        exact ⟨fun x e => by cases e; exact ⟨ga.1, ga.2.1, .inl ga.2.2⟩, fun x e t h1 h2 z => by cases e; exact z.elim (fun z => h.least a rfl t h1 h2 z) fun z => gle_trans ga.1.pos gb.1.pos h1 c (k.least b rfl t h1 h2 z), fun e => nomatch e⟩
      · simp only [if_neg c]
        exact ⟨fun x e => by cases e; exact ⟨gb.1, gb.2.1, .inr gb.2.2⟩, fun x e t h1 h2 z => by cases e; exact z.elim (fun z => gle_trans gb.1.pos ga.1.pos h1 (gle_of_not c) (h.least a rfl t h1 h2 z)) fun z => k.least b rfl t h1 h2 z, fun e => nomatch e⟩
theorem Fst.cong {S T : Fr → Prop} {r : Option Fr} (h : Fst S r) (e : ∀ t : Fr, 0 < t.2 → 0 ≤ t.1 → (S t ↔ T t)) : Fst T r :=
  ⟨fun x q => ⟨(h.g x q).1, (h.g x q).2.1, (e x (h.g x q).1.pos (h.g x q).2.1).mp (h.g x q).2.2⟩, fun x q t h1 h2 z => h.least x q t h1 h2 ((e t h1 h2).mpr z), fun q t h1 h2 z => h.no q t h1 h2 ((e t h1 h2).mpr z)⟩
theorem Fst.same {S : Fr → Prop} {x y : Option Fr} (h : Fst S x) (k : Fst S y) : x = y := by
  cases x with
  | none =>
    cases y with
    | none => rfl
    | some b => exact absurd (k.g b rfl).2.2 (h.no rfl b (k.g b rfl).1.pos (k.g b rfl).2.1)
  | some a =>
    cases y with
    | none => exact absurd (h.g a rfl).2.2 (k.no rfl a (h.g a rfl).1.pos (h.g a rfl).2.1)
    | some b =>
      have ga := h.g a rfl
      have gb := k.g b rfl
      rw [ga.1.rd.anti gb.1.rd (h.least a rfl b gb.1.pos gb.2.1 gb.2.2) (k.least b rfl a ga.1.pos ga.2.1 ga.2.2)]
/-! ### the ray's place at a time, a segment -/
def atP (s w : P3) (t : Fr) : P3 := (s.1 * t.2 + w.1 * t.1, s.2.1 * t.2 + w.2.1 * t.1, s.2.2 * t.2 + w.2.2 * t.1)
theorem co_at (s w : P3) (t : Fr) (k : Nat) : co k (atP s w t) = co k s * t.2 + co k w * t.1 := by
  match k with
  | 0 => rfl
  | 1 => rfl
  | k + 2 => rfl
theorem co_mn (p q : P3) (k : Nat) : co k (mnP p q) = co k p - co k q := by
  match k with
  | 0 => rfl
  | 1 => rfl
  | k + 2 => rfl
def Seg (X : P3) (m : Int) (p q : P3) : Prop := ∃ α β : Int, 0 ≤ α ∧ 0 ≤ β ∧ 0 < α + β ∧ ∀ k, (α + β) * co k X = m * (α * co k p + β * co k q)
theorem dt_co (p q : P3) : dtP p q = co 0 p * co 0 q + co 1 p * co 1 q + co 2 p * co 2 q := rfl
theorem ext3 {p q : P3} (h : ∀ k, co k p = co k q) : p = q := by
  have h0 := h 0
  have h1 := h 1
  have h2 := h 2
  obtain ⟨a, b, c⟩ := p
  obtain ⟨d, e, f⟩ := q
  simp only [co] at h0 h1 h2
  rw [h0, h1, h2]
theorem co_zero (k : Nat) : co k ((0, 0, 0) : P3) = 0 := by
  match k with
  | 0 => rfl
  | 1 => rfl
  | k + 2 => rfl
/-- where the ray stands on the line of the segment's ends, told by gaps -/
theorem seg_vec {s w p q : P3} {t : Fr} {α β : Int} (h : ∀ k, (α + β) * co k (atP s w t) = t.2 * (α * co k p + β * co k q)) (k : Nat) : (α + β) * (co k w * t.1) = t.2 * (α * co k (mnP p s) + β * co k (mnP q s)) := by
  have := h k
  rw [co_at] at this
  rw [co_mn, co_mn]
  grind
end DL
end
section
set_option Elab.async false
set_option linter.all false
set_option maxRecDepth 100000
set_option maxHeartbeats 4000000
set_option autoImplicit false
namespace DL
variable [TbC]
open PySem
theorem for_ind {ds : List Dt} {set : Sf} {body : Sg} {I : Nat → Ev → Prop} {O : Rs → Prop} (hstep : ∀ i d ε, ds[i]? = some d → I i ε → ∃ ε1, set d ε = some ε1 ∧ ((∃ ε2, (body ε1 = .ok (.nx ε2) ∨ body ε1 = .ok (.ct ε2)) ∧ I (i + 1) ε2) ∨ (∃ r, body ε1 = .ok (.rt r) ∧ O (.ok (.rt r)))))
    {ε : Ev} (h0 : I 0 ε) (hend : ∀ ε, I ds.length ε → O (.ok (.nx ε))) : O (forGo set body ds ε) := by
  have key : ∀ (n i : Nat) (ε : Ev), ds.length - i = n → i ≤ ds.length → I i ε → O (forGo set body (ds.drop i) ε) := by
    intro n
    induction n with
    | zero =>
      intro i ε h1 h2 h3
      have : i = ds.length := by omega
      subst this
      rw [List.drop_length]
      exact hend ε h3
    | succ n ih =>
      intro i ε h1 h2 h3
      have hlt : i < ds.length := by omega
      rw [List.drop_eq_getElem_cons hlt]
      obtain ⟨ε1, e1, h⟩ := hstep i ds[i] ε (List.getElem?_eq_getElem hlt) h3
      unfold forGo
      rw [e1]
      rcases h with ⟨ε2, h | h, h5⟩ | ⟨r, h, h5⟩
      · show O (afterB (body ε1) _)
        rw [h]
        exact ih (i + 1) ε2 (by omega) (by omega) h5
      · show O (afterB (body ε1) _)
        rw [h]
        exact ih (i + 1) ε2 (by omega) (by omega) h5
      · show O (afterB (body ε1) _)
        rw [h]
        exact h5
  have := key ds.length 0 ε (by omega) (Nat.zero_le _) h0
  rw [List.drop_zero] at this
  exact this
theorem rgN (n : Nat) : (List.range n).map (fun k : Nat => Dt.int k) = upTo 0 n := by
  unfold upTo
  refine List.map_congr_left fun k _ => ?_
  rw [Int.zero_add]
theorem rng3 (ε : Ev) : rngF (kc (.int 3)) ε = .ok ((List.range 3).map fun k : Nat => Dt.int k) := rfl
theorem q_app {i : Nat} {f : Fn} {ε : Ev} {ds : List Dt} {d : Dt} (h : ε[i]? = some (.o ds)) (hf : f ε = .ok d) (hl : ds.length < 16777216) : appS i f ε = .ok (.nx (ε.set i (.o (ds ++ [d])))) := by
  unfold appS chS
  rw [h]
  show (exS ε (consF f nilF ε)).bind _ = _
  rw [e_cons hf rfl, q_exS, q_okB]
  show (match appK ds [d] with | some es => _ | none => _) = _
  have : appK ds [d] = some (ds ++ [d]) := if_pos (by rw [sizeLine_eq]; exact hl)
  rw [this]
theorem q_ins {i : Nat} {f g : Fn} {ε : Ev} {ds : List Dt} {d : Dt} {n : Nat} (h : ε[i]? = some (.o ds)) (hf : f ε = .ok (.int n)) (hg : g ε = .ok d) (hl : ds.length < 16777216) (hn : n ≤ ds.length) : insS i f g ε = .ok (.nx (ε.set i (.o (ds.take n ++ [d] ++ ds.drop n)))) := by
  unfold insS chS
  rw [h]
  show (exS ε (consF f (consF g nilF) ε)).bind _ = _
  rw [e_cons hf (e_cons hg rfl), q_exS, q_okB]
  show (match insK ds [.int n, d] with | some es => _ | none => _) = _
  have : insK ds [.int (n : Int), d] = some (ds.take n ++ [d] ++ ds.drop n) := if_pos ⟨by rw [sizeLine_eq]; exact hl, by omega, by omega⟩
  rw [this]
theorem rounds_ok {ns : List Int} {n : Nat} (hn : 1 ≤ n) (h62 : n < 1000) (ε : Ev) (h0 : ε[0]? = some (.d (.frl (ns.map .int)))) : ∃ m : Nat, m ≤ n ∧ rngF (bin max2D (kc (.int 1)) (bin min2D (kc (.int n)) (un lenD (gb 0)))) ε = .ok ((List.range m).map fun k : Nat => Dt.int k) := by
  have lb : lenD (.frl (ns.map .int)) = some (.int ns.length) := by
    show some (Dt.int (ns.map Dt.int).length) = _
    rw [List.length_map]
  have fin : ∀ m : Nat, m ≤ n → rngD (.int m) = some ((List.range m).map fun k : Nat => Dt.int k) := fun m hm => by
    rw [rng_ok (by omega) (by omega), rgN]; rfl
  have e : ∀ d : Dt, bin max2D (kc (.int 1)) (bin min2D (kc (.int n)) (un lenD (gb 0))) ε = .ok d → rngF (bin max2D (kc (.int 1)) (bin min2D (kc (.int n)) (un lenD (gb 0)))) ε = .ofO (rngD d) := fun d h => by
    unfold rngF
    rw [h]; rfl
  have e1 : un lenD (gb 0) ε = .ok (.int ns.length) := e_un (q_gb h0) lb
  by_cases h : (ns.length : Int) < n
  · have e2 : bin min2D (kc (.int n)) (un lenD (gb 0)) ε = .ok (.int ns.length) := e_bin rfl e1 (by show some (Dt.int (if (ns.length : Int) < n then _ else _)) = _; rw [if_pos h])
    by_cases h2 : (ns.length : Int) > 1
    · refine ⟨ns.length, by omega, ?_⟩
      rw [e (.int ns.length) (e_bin rfl e2 (by show some (Dt.int (if (ns.length : Int) > 1 then _ else _)) = _; rw [if_pos h2])), fin _ (by omega)]
      rfl
    · refine ⟨1, by omega, ?_⟩
      rw [e (.int 1) (e_bin rfl e2 (by show some (Dt.int (if (ns.length : Int) > 1 then _ else _)) = _; rw [if_neg h2]))]
      exact congrArg Rz.ofO (fin 1 hn)
  · have e2 : bin min2D (kc (.int n)) (un lenD (gb 0)) ε = .ok (.int n) := e_bin rfl e1 (by show some (Dt.int (if (ns.length : Int) < n then _ else _)) = _; rw [if_neg h])
    by_cases h2 : (n : Int) > 1
    · refine ⟨n, by omega, ?_⟩
      rw [e (.int n) (e_bin rfl e2 (by show some (Dt.int (if (n : Int) > 1 then _ else _)) = _; rw [if_pos h2])), fin _ (by omega)]
      rfl
    · refine ⟨1, by omega, ?_⟩
      rw [e (.int 1) (e_bin rfl e2 (by show some (Dt.int (if (n : Int) > 1 then _ else _)) = _; rw [if_neg h2]))]
      exact congrArg Rz.ofO (fin 1 hn)
end DL
end
section
set_option Elab.async false
set_option linter.all false
set_option maxRecDepth 100000
set_option maxHeartbeats 4000000
set_option autoImplicit false
namespace DL
variable [TbC]
open PySem
/-! ### a side's times -/
/-- in the slab at the time t -/
def InK (s w l h : Int) (t : Fr) : Prop := l * t.2 ≤ s * t.2 + w * t.1 ∧ s * t.2 + w * t.1 ≤ h * t.2
instance (s w l h : Int) (t : Fr) : Decidable (InK s w l h t) := inferInstanceAs (Decidable (_ ∧ _))
def endA (s w l h : Int) : Fr := if gle (rat (l - s) w) (rat (h - s) w) then rat (l - s) w else rat (h - s) w
def endB (s w l h : Int) : Fr := if gle (rat (l - s) w) (rat (h - s) w) then rat (h - s) w else rat (l - s) w
theorem inK_iff {s w l h : Int} (hw : w ≠ 0) (hlh : l ≤ h) {t : Fr} (ht : 0 < t.2) : InK s w l h t ↔ gle (endA s w l h) t ∧ gle t (endB s w l h) := by
  have p1 := rat_pos (t := l - s) hw
  have p2 := rat_pos (t := h - s) hw
  have g1 := gle_rat (t := l - s) hw t
  have g2 := gle_rat (t := h - s) hw t
  have e1 : InK s w l h t ↔ (l - s) * t.2 ≤ t.1 * w ∧ t.1 * w ≤ (h - s) * t.2 := by
    unfold InK
    have a1 : (l - s) * t.2 = l * t.2 - s * t.2 := Int.sub_mul ..
    have a2 : (h - s) * t.2 = h * t.2 - s * t.2 := Int.sub_mul ..
    have a3 : t.1 * w = w * t.1 := Int.mul_comm ..
    omega
  have base : if 0 < w then (InK s w l h t ↔ gle (rat (l - s) w) t ∧ gle t (rat (h - s) w)) else (InK s w l h t ↔ gle (rat (h - s) w) t ∧ gle t (rat (l - s) w)) := by
    by_cases hp : 0 < w
    · rw [if_pos hp] at g1 g2 ⊢
      rw [if_pos hp] at g1 g2
      rw [e1, g1.1, g2.2]
    · rw [if_neg hp] at g1 g2 ⊢
      rw [if_neg hp] at g1 g2
      rw [e1, g1.2, g2.1]
      exact And.comm
  have cmp : if 0 < w then gle (rat (l - s) w) (rat (h - s) w) else gle (rat (h - s) w) (rat (l - s) w) := by
    have z := gle_rat (t := l - s) hw (rat (h - s) w)
    have z2 := gle_rat (t := h - s) hw (w, w)
    obtain ⟨q1, q2, q3, q4⟩ := rat_g (t := h - s) hw
    have m : (l - s) * (rat (h - s) w).2 ≤ (h - s) * (rat (h - s) w).2 := Int.mul_le_mul_of_nonneg_right (by omega) (by omega)
    have e : (h - s) * (rat (h - s) w).2 = (rat (h - s) w).1 * w := by
      conv => lhs; lhs; rw [q3]
      conv => rhs; rhs; rw [q4]
      rw [Int.mul_assoc, Int.mul_left_comm]
    by_cases hp : 0 < w
    · rw [if_pos hp] at z ⊢
      exact z.1.mpr (by omega)
    · rw [if_neg hp] at z ⊢
      rw [if_neg hp] at z
      exact z.2.mpr (by omega)
  unfold endA endB
  by_cases hp : 0 < w
  · rw [if_pos hp] at base cmp
    rw [if_pos cmp, if_pos cmp, base]
  · rw [if_neg hp] at base cmp
    by_cases c : gle (rat (l - s) w) (rat (h - s) w)
    · have e := (rat_rd (t := l - s) hw).anti (rat_rd (t := h - s) hw) c cmp
      rw [if_pos c, if_pos c, base, e]
    · rw [if_neg c, if_neg c, base]
theorem F_times_in_eq {s w l h : Int} (b1 : Bd 400 s) (b2 : Bd 400 w) (b3 : Bd 400 l) (b4 : Bd 400 h) : F_times_in [.int s, .int w, .int l, .int h] = .ok (.va (if w = 0 then (if l ≤ s ∧ s ≤ h then .tup [.non, .non] else .bl false) else .tup [fr (endA s w l h), fr (endB s w l h)])) := by
  by_cases hw : w = 0
  · subst hw
    have h1 : eqD (.int (0 : Int)) (.int 0) = some (.bl true) := by rw [eqD_int]; rfl
    rw [if_pos rfl]
    by_cases c1 : l ≤ s
    · by_cases c2 : s ≤ h
      · simp only [F_times_in, g_times_in, bodyF, startE, seqS, stS, stO, rtS, roS, roV, asS, ifS, xpS, bin, un, unN, lstF, lsF, consF, nilF, tupF, kc, gv, gb, tst, andT, orT, notT, andV, orV, notV, ifV, callF, callN, iterF, rngF, walked, slF, noP, soP, setN, setT, setCons, setNil, wipeE, yes, forS, prS, Rz.bind_ok, q_ofO, q_ofN, q_bad, q_ex, q_exS, q_exX, q_exB, q_okB, q_nx, q_rt, q_ro, q_bk, q_ct, q_sx, q_anx, q_act, q_abk, q_art, q_bnx, q_brt, q_bro, q_bex, q_va, q_ow, q_boo, add_int, sub_int, lt_int, le_int, gt_int, ge_int, neg_int, List.map_cons, List.map_nil, List.length_cons, List.length_nil, List.nil_append, List.cons_append, List.replicate, List.getElem?_cons_zero, List.getElem?_cons_succ, env_set0, env_setS, Option.bind_some, Option.map_some, if_true, Bool.false_eq_true, if_false, Nat.reduceAdd, Nat.reduceSub, sizeLine_eq, Nat.reduceLeDiff, Nat.zero_le, h1, decide_eq_true c1, decide_eq_true c2]
        rw [if_pos ⟨c1, c2⟩]
      · simp only [F_times_in, g_times_in, bodyF, startE, seqS, stS, stO, rtS, roS, roV, asS, ifS, xpS, bin, un, unN, lstF, lsF, consF, nilF, tupF, kc, gv, gb, tst, andT, orT, notT, andV, orV, notV, ifV, callF, callN, iterF, rngF, walked, slF, noP, soP, setN, setT, setCons, setNil, wipeE, yes, forS, prS, Rz.bind_ok, q_ofO, q_ofN, q_bad, q_ex, q_exS, q_exX, q_exB, q_okB, q_nx, q_rt, q_ro, q_bk, q_ct, q_sx, q_anx, q_act, q_abk, q_art, q_bnx, q_brt, q_bro, q_bex, q_va, q_ow, q_boo, add_int, sub_int, lt_int, le_int, gt_int, ge_int, neg_int, List.map_cons, List.map_nil, List.length_cons, List.length_nil, List.nil_append, List.cons_append, List.replicate, List.getElem?_cons_zero, List.getElem?_cons_succ, env_set0, env_setS, Option.bind_some, Option.map_some, if_true, Bool.false_eq_true, if_false, Nat.reduceAdd, Nat.reduceSub, sizeLine_eq, Nat.reduceLeDiff, Nat.zero_le, h1, decide_eq_true c1, decide_eq_false c2]
        rw [if_neg fun z => c2 z.2]
    · simp only [F_times_in, g_times_in, bodyF, startE, seqS, stS, stO, rtS, roS, roV, asS, ifS, xpS, bin, un, unN, lstF, lsF, consF, nilF, tupF, kc, gv, gb, tst, andT, orT, notT, andV, orV, notV, ifV, callF, callN, iterF, rngF, walked, slF, noP, soP, setN, setT, setCons, setNil, wipeE, yes, forS, prS, Rz.bind_ok, q_ofO, q_ofN, q_bad, q_ex, q_exS, q_exX, q_exB, q_okB, q_nx, q_rt, q_ro, q_bk, q_ct, q_sx, q_anx, q_act, q_abk, q_art, q_bnx, q_brt, q_bro, q_bex, q_va, q_ow, q_boo, add_int, sub_int, lt_int, le_int, gt_int, ge_int, neg_int, List.map_cons, List.map_nil, List.length_cons, List.length_nil, List.nil_append, List.cons_append, List.replicate, List.getElem?_cons_zero, List.getElem?_cons_succ, env_set0, env_setS, Option.bind_some, Option.map_some, if_true, Bool.false_eq_true, if_false, Nat.reduceAdd, Nat.reduceSub, sizeLine_eq, Nat.reduceLeDiff, Nat.zero_le, h1, decide_eq_false c1]
      rw [if_neg fun z => c1 z.1]
  · rw [if_neg hw]
    have h1 : eqD (.int w) (.int 0) = some (.bl false) := by rw [eqD_int, decide_eq_false hw]
    have d1 := b3.sub b1
    have d2 := b4.sub b1
    have r1 := F_ratio_eq (t := l - s) hw b2 (by decide)
    have r2 := F_ratio_eq (t := h - s) hw b2 (by decide)
    have k1 := rat_bd hw d1 (b2.mono (by decide))
    have k2 := rat_bd hw d2 (b2.mono (by decide))
    have less := F_is_less_eq k2.1 k2.2 k1.1 k1.2 (by decide) (by decide)
    have i0 : ∀ x y : Dt, ixD (.tup [x, y]) (.int 0) = some x := fun _ _ => rfl
    have i1 : ∀ x y : Dt, ixD (.tup [x, y]) (.int 1) = some y := fun _ _ => rfl
    by_cases c : gle (rat (l - s) w) (rat (h - s) w)
    · simp only [F_times_in, g_times_in, bodyF, startE, seqS, stS, stO, rtS, roS, roV, asS, ifS, xpS, bin, un, unN, lstF, lsF, consF, nilF, tupF, kc, gv, gb, tst, andT, orT, notT, andV, orV, notV, ifV, callF, callN, iterF, rngF, walked, slF, noP, soP, setN, setT, setCons, setNil, wipeE, yes, forS, prS, Rz.bind_ok, q_ofO, q_ofN, q_bad, q_ex, q_exS, q_exX, q_exB, q_okB, q_nx, q_rt, q_ro, q_bk, q_ct, q_sx, q_anx, q_act, q_abk, q_art, q_bnx, q_brt, q_bro, q_bex, q_va, q_ow, q_boo, add_int, sub_int, lt_int, le_int, gt_int, ge_int, neg_int, List.map_cons, List.map_nil, List.length_cons, List.length_nil, List.nil_append, List.cons_append, List.replicate, List.getElem?_cons_zero, List.getElem?_cons_succ, env_set0, env_setS, Option.bind_some, Option.map_some, if_true, Bool.false_eq_true, if_false, Nat.reduceAdd, Nat.reduceSub, sizeLine_eq, Nat.reduceLeDiff, Nat.zero_le, h1, r1, r2, i0, i1, less, decide_eq_true c, Bool.not_true]
      unfold endA endB
      rw [if_pos c, if_pos c]
    · simp only [F_times_in, g_times_in, bodyF, startE, seqS, stS, stO, rtS, roS, roV, asS, ifS, xpS, bin, un, unN, lstF, lsF, consF, nilF, tupF, kc, gv, gb, tst, andT, orT, notT, andV, orV, notV, ifV, callF, callN, iterF, rngF, walked, slF, noP, soP, setN, setT, setCons, setNil, wipeE, yes, forS, prS, Rz.bind_ok, q_ofO, q_ofN, q_bad, q_ex, q_exS, q_exX, q_exB, q_okB, q_nx, q_rt, q_ro, q_bk, q_ct, q_sx, q_anx, q_act, q_abk, q_art, q_bnx, q_brt, q_bro, q_bex, q_va, q_ow, q_boo, add_int, sub_int, lt_int, le_int, gt_int, ge_int, neg_int, List.map_cons, List.map_nil, List.length_cons, List.length_nil, List.nil_append, List.cons_append, List.replicate, List.getElem?_cons_zero, List.getElem?_cons_succ, env_set0, env_setS, Option.bind_some, Option.map_some, if_true, Bool.false_eq_true, if_false, Nat.reduceAdd, Nat.reduceSub, sizeLine_eq, Nat.reduceLeDiff, Nat.zero_le, h1, r1, r2, i0, i1, less, decide_eq_false c, Bool.not_false]
      unfold endA endB
      rw [if_neg c, if_neg c]

/-! ### stay_in -/
def In3 (s w l h : P3) (t : Fr) : Prop := 0 ≤ t.1 ∧ ∀ j, j < 3 → InK (co j s) (co j w) (co j l) (co j h) t
structure Gd (x : Fr) : Prop where
  rd : Rdc x
  b1 : Bd 401 x.1
  b2 : Bd 401 x.2
theorem Gd.pos {x : Fr} (h : Gd x) : 0 < x.2 := h.rd.1
theorem gd_rat {t u : Int} (hu : u ≠ 0) (h1 : Bd 401 t) (h2 : Bd 401 u) : Gd (rat t u) := ⟨rat_rd hu, (rat_bd hu h1 h2).1, (rat_bd hu h1 h2).2⟩
theorem gd_01 : Gd (0, 1) := ⟨⟨by decide, by decide⟩, show (0 : Int).natAbs < 2 ^ 401 from Nat.two_pow_pos _, show (1 : Int).natAbs < 2 ^ 401 from Nat.one_lt_two_pow (by decide)⟩
theorem less_eq {x y : Fr} (h : Gd x) (k : Gd y) : F_is_less [fr x, fr y] = .ok (.va (.bl (!decide (gle y x)))) := F_is_less_eq h.b1 h.b2 k.b1 k.b2 (by decide) (by decide)
theorem gd_end {s w l h : Int} (hw : w ≠ 0) (b1 : Bd 400 s) (b2 : Bd 400 w) (b3 : Bd 400 l) (b4 : Bd 400 h) : Gd (endA s w l h) ∧ Gd (endB s w l h) := by
  have k1 := gd_rat hw (b3.sub b1) (b2.mono (by decide))
  have k2 := gd_rat hw (b4.sub b1) (b2.mono (by decide))
  unfold endA endB
  split
  · exact ⟨k1, k2⟩
  · exact ⟨k2, k1⟩
structure SI (s w l h : P3) (k : Nat) (low : Fr) (high : Option Fr) : Prop where
  gl : Gd low
  gh : ∀ x, high = some x → Gd x
  l0 : low = (0, 1) ∨ ∃ j, j < k ∧ co j w ≠ 0 ∧ low = endA (co j s) (co j w) (co j l) (co j h)
  h0 : ∀ x, high = some x → ∃ j, j < k ∧ co j w ≠ 0 ∧ x = endB (co j s) (co j w) (co j l) (co j h)
  hn : high = none → ∀ j, j < k → co j w = 0
  iff : ∀ t : Fr, 0 < t.2 → ((0 ≤ t.1 ∧ ∀ j, j < k → InK (co j s) (co j w) (co j l) (co j h) t) ↔ (gle low t ∧ ∀ x, high = some x → gle t x))
theorem si0 (s w l h : P3) : SI s w l h 0 (0, 1) none :=
  ⟨gd_01, fun _ z => (nomatch z), .inl rfl, fun _ z => (nomatch z), fun _ j z => absurd z (Nat.not_lt_zero _), fun t ht => by
    have : gle (0, 1) t ↔ 0 ≤ t.1 := by unfold gle; simp
    rw [this]
    exact ⟨fun z => ⟨z.1, fun _ q => (nomatch q)⟩, fun z => ⟨z.1, fun j q => absurd q (Nat.not_lt_zero _)⟩⟩⟩
def lowN (low a : Fr) : Fr := if gle a low then low else a
def hiN (high : Option Fr) (b : Fr) : Fr := match high with
  | none => b
  | some x => if gle x b then x else b
theorem lowN_iff {low a t : Fr} (h1 : 0 < low.2) (h2 : 0 < a.2) (h3 : 0 < t.2) : gle (lowN low a) t ↔ gle low t ∧ gle a t := by
  unfold lowN
  split
  · rename_i c
    exact ⟨fun z => ⟨z, gle_trans h2 h1 h3 c z⟩, fun z => z.1⟩
  · rename_i c
    exact ⟨fun z => ⟨gle_trans h1 h2 h3 (gle_of_not c) z, z⟩, fun z => z.2⟩
theorem si_step {s w l h : P3} {k : Nat} {low : Fr} {high : Option Fr} (S : SI s w l h k low high) (hw : co k w ≠ 0) (hl : co k l ≤ co k h) (b1 : BdP s) (b2 : BdP w) (b3 : BdP l) (b4 : BdP h) :
    SI s w l h (k + 1) (lowN low (endA (co k s) (co k w) (co k l) (co k h))) (some (hiN high (endB (co k s) (co k w) (co k l) (co k h)))) := by
  obtain ⟨gA, gB⟩ := gd_end hw (b1 k) (b2 k) (b3 k) (b4 k)
  have key : ∀ t : Fr, 0 < t.2 → (gle t (hiN high (endB (co k s) (co k w) (co k l) (co k h))) ↔ (∀ x, high = some x → gle t x) ∧ gle t (endB (co k s) (co k w) (co k l) (co k h))) := fun t ht => by
    unfold hiN
    cases high with
    | none => exact ⟨fun z => ⟨fun _ q => (nomatch q), z⟩, fun z => z.2⟩
    | some x =>
      have hx := (S.gh x rfl).pos
      by_cases c : gle x (endB (co k s) (co k w) (co k l) (co k h))
      · simp only [if_pos c]
        exact ⟨fun z => ⟨fun _ q => (by cases q; exact z), gle_trans ht hx gB.pos z c⟩, fun z => z.1 x rfl⟩
      · simp only [if_neg c]
        exact ⟨fun z => ⟨fun _ q => (by cases q; exact gle_trans ht gB.pos hx z (gle_of_not c)), z⟩, fun z => z.2⟩
  refine ⟨?_, fun x e => ?_, ?_, fun x e => ?_, fun e => (nomatch e), fun t ht => ?_⟩
  · unfold lowN; split
    · exact S.gl
    · exact gA
  · cases e
    unfold hiN
    cases high with
    | none => exact gB
    | some x =>
      by_cases c : gle x (endB (co k s) (co k w) (co k l) (co k h))
      · simp only [if_pos c]; exact S.gh x rfl
      · simp only [if_neg c]; exact gB
  · unfold lowN; split
    · rcases S.l0 with z | ⟨j, z1, z2, z3⟩
      · exact .inl z
      · exact .inr ⟨j, by omega, z2, z3⟩
    · exact .inr ⟨k, by omega, hw, rfl⟩
  · cases e
    unfold hiN
    cases high with
    | none => exact ⟨k, by omega, hw, rfl⟩
    | some x =>
      by_cases c : gle x (endB (co k s) (co k w) (co k l) (co k h))
      · simp only [if_pos c]
        obtain ⟨j, z1, z2, z3⟩ := S.h0 x rfl
        exact ⟨j, by omega, z2, z3⟩
      · simp only [if_neg c]; exact ⟨k, by omega, hw, rfl⟩
  · have e1 : (∀ x, some (hiN high (endB (co k s) (co k w) (co k l) (co k h))) = some x → gle t x) ↔ gle t (hiN high (endB (co k s) (co k w) (co k l) (co k h))) := ⟨fun z => z _ rfl, fun z x q => by cases q; exact z⟩
    rw [e1, key t ht, lowN_iff S.gl.pos gA.pos ht]
    have hk := inK_iff (s := co k s) hw hl ht
    have hi := S.iff t ht
    constructor
    · rintro ⟨z1, z2⟩
      have a := hi.mp ⟨z1, fun j q => z2 j (by omega)⟩
      have b := hk.mp (z2 k (by omega))
      exact ⟨⟨a.1, b.1⟩, a.2, b.2⟩
    · rintro ⟨⟨y1, y2⟩, y3, y4⟩
      have a := hi.mpr ⟨y1, y3⟩
      refine ⟨a.1, fun j q => ?_⟩
      rcases Nat.lt_or_eq_of_le (Nat.le_of_lt_succ q) with z | z
      · exact a.2 j z
      · subst z; exact hk.mpr ⟨y2, y4⟩
theorem inK_zero {s l h : Int} {t : Fr} (ht : 0 < t.2) : InK s 0 l h t ↔ l ≤ s ∧ s ≤ h := by
  unfold InK
  rw [Int.zero_mul, Int.add_zero]
  exact and_congr (Int.mul_le_mul_right ht) (Int.mul_le_mul_right ht)
theorem si_same {s w l h : P3} {k : Nat} {low : Fr} {high : Option Fr} (S : SI s w l h k low high) (hw : co k w = 0) (hl : co k l ≤ co k s ∧ co k s ≤ co k h) : SI s w l h (k + 1) low high := by
  refine ⟨S.gl, S.gh, ?_, fun x e => ?_, fun e j q => ?_, fun t ht => ?_⟩
  · rcases S.l0 with z | ⟨j, z1, z2, z3⟩
    · exact .inl z
    · exact .inr ⟨j, by omega, z2, z3⟩
  · obtain ⟨j, z1, z2, z3⟩ := S.h0 x e
    exact ⟨j, by omega, z2, z3⟩
  · rcases Nat.lt_or_eq_of_le (Nat.le_of_lt_succ q) with z | z
    · exact S.hn e j z
    · subst z; exact hw
  · rw [← S.iff t ht]
    constructor
    · exact fun z => ⟨z.1, fun j q => z.2 j (by omega)⟩
    · rintro ⟨z1, z2⟩
      refine ⟨z1, fun j q => ?_⟩
      rcases Nat.lt_or_eq_of_le (Nat.le_of_lt_succ q) with z | z
      · exact z2 j z
      · subst z; rw [hw]; exact (inK_zero ht).mpr hl
/-- what stay_in tells -/
def Stay (s w l h : P3) (o : Rz Str Oc) : Prop := (o = .ok (.va .non) ∧ ∀ t : Fr, 0 < t.2 → ¬ In3 s w l h t) ∨
  ∃ low high : Fr, o = .ok (.va (.tup [fr low, fr high])) ∧ Gd low ∧ Gd high ∧ In3 s w l h low ∧ In3 s w l h high ∧ (∀ t : Fr, 0 < t.2 → In3 s w l h t → gle low t ∧ gle t high) ∧
    (low = (0, 1) ∨ ∃ j, j < 3 ∧ co j w ≠ 0 ∧ low = endA (co j s) (co j w) (co j l) (co j h)) ∧ ∃ j, j < 3 ∧ co j w ≠ 0 ∧ high = endB (co j s) (co j w) (co j l) (co j h)
theorem F_stay_in_eq {s w l h : P3} (b1 : BdP s) (b2 : BdP w) (b3 : BdP l) (b4 : BdP h) (hl : ∀ j, j < 3 → co j l ≤ co j h) (hw : ∃ j, j < 3 ∧ co j w ≠ 0) : Stay s w l h (F_stay_in [rayD s w, rayD l h]) := by
  have i0 : ∀ x y : Dt, ixD (.tup [x, y]) (.int 0) = some x := fun _ _ => rfl
  have i1 : ∀ x y : Dt, ixD (.tup [x, y]) (.int 1) = some y := fun _ _ => rfl
  have n0 : isND .non .non = some (.bl true) := rfl
  have n1 : ∀ x y : Dt, isND (.tup [x, y]) .non = some (.bl false) := fun _ _ => rfl
  have n2 : notND .non .non = some (.bl false) := rfl
  have n3 : ∀ x : Fr, notND (fr x) .non = some (.bl true) := fun _ => rfl
  have n4 : ∀ x y : Dt, isBD (.tup [x, y]) (.bl false) = some (.bl false) := fun _ _ => rfl
  have n5 : isBD (.bl false) (.bl false) = some (.bl true) := rfl
  have n6 : ∀ x : Fr, isND (fr x) .non = some (.bl false) := fun _ => rfl
  unfold F_stay_in bodyF g_stay_in
  rw [s_st (d := fr (0, 1)) rfl, s_st (d := .non) rfl]
  show Stay s w l h (bodyR (seqR ((exS _ (rngF (kc (.int 3)) _)).bind fun xs => forGo _ _ xs _) _))
  rw [show rngF (kc (.int 3)) _ = (.ok ((List.range 3).map fun k : Nat => Dt.int k) : Rz Str (List Dt)) from rfl, q_exS, q_okB]
  refine for_ind (O := fun r => Stay s w l h (bodyR (seqR r _))) (I := fun k ε => ∃ low high x4 x5, ε = [.d (rayD s w), .d (rayD l h), .d (fr low), .d (hiD high), x4, x5] ∧ SI s w l h k low high) ?_ ⟨_, none, .u, .u, rfl, si0 s w l h⟩ ?_
  · rintro k d ε hd ⟨low, high, x4, x5, rfl, S⟩
    have hk : k < 3 := by
      have := (List.getElem?_eq_some_iff.mp hd).1
      simpa using this
    have hd' : d = .int k := by
      rw [List.getElem?_map, List.getElem?_range hk] at hd
      exact (Option.some.inj hd).symm
    subst hd'
    have e1 := F_times_in_eq (b1 k) (b2 k) (b3 k) (b4 k)
    refine ⟨_, rfl, ?_⟩
    have ev : callF 4 F_times_in (consF (bin ixD (bin ixD (gb 0) (kc (.int 0))) (gb 4)) (consF (bin ixD (bin ixD (gb 0) (kc (.int 1))) (gb 4)) (consF (bin ixD (bin ixD (gb 1) (kc (.int 0))) (gb 4)) (consF (bin ixD (bin ixD (gb 1) (kc (.int 1))) (gb 4)) nilF)))) [.d (rayD s w), .d (rayD l h), .d (fr low), .d (hiD high), .d (.int k), x5] = .ok (if co k w = 0 then (if co k l ≤ co k s ∧ co k s ≤ co k h then .tup [.non, .non] else .bl false) else .tup [fr (endA (co k s) (co k w) (co k l) (co k h)), fr (endB (co k s) (co k w) (co k l) (co k h))]) := by
      refine c_1 (ds := [.int (co k s), .int (co k w), .int (co k l), .int (co k h)]) ?_ rfl e1 rfl
      simp only [bodyF, startE, seqS, stS, stO, rtS, roS, roV, asS, ifS, xpS, bin, un, unN, lstF, lsF, consF, nilF, tupF, kc, gv, gb, tst, andT, orT, notT, andV, orV, notV, ifV, callF, callN, iterF, rngF, walked, slF, noP, soP, setN, setT, setCons, setNil, wipeE, yes, forS, prS, Rz.bind_ok, q_ofO, q_ofN, q_bad, q_ex, q_exS, q_exX, q_exB, q_okB, q_nx, q_rt, q_ro, q_bk, q_ct, q_sx, q_anx, q_act, q_abk, q_art, q_bnx, q_brt, q_bro, q_bex, q_va, q_ow, q_boo, add_int, sub_int, lt_int, le_int, gt_int, ge_int, neg_int, List.map_cons, List.map_nil, List.length_cons, List.length_nil, List.nil_append, List.cons_append, List.replicate, List.getElem?_cons_zero, List.getElem?_cons_succ, env_set0, env_setS, Option.bind_some, Option.map_some, if_true, Bool.false_eq_true, if_false, Nat.reduceAdd, Nat.reduceSub, sizeLine_eq, Nat.reduceLeDiff, Nat.zero_le, rayD, i0, i1, en_ix _ k hk]
    have st : List.set [Lc.d (rayD s w), .d (rayD l h), .d (fr low), .d (hiD high), x4, x5] 4 (.d (.int k)) = [.d (rayD s w), .d (rayD l h), .d (fr low), .d (hiD high), .d (.int k), x5] := rfl
    rw [st]
    by_cases hw0 : co k w = 0
    · rw [if_pos hw0] at ev
      by_cases hin : co k l ≤ co k s ∧ co k s ≤ co k h
      · rw [if_pos hin] at ev
        refine .inl ⟨_, .inl ?_, low, high, .d (.int k), .d (.tup [.non, .non]), rfl, si_same S hw0 hin⟩
        rw [s_st ev]
        simp only [bodyF, startE, seqS, stS, stO, rtS, roS, roV, asS, ifS, xpS, bin, un, unN, lstF, lsF, consF, nilF, tupF, kc, gv, gb, tst, andT, orT, notT, andV, orV, notV, ifV, callF, callN, iterF, rngF, walked, slF, noP, soP, setN, setT, setCons, setNil, wipeE, yes, forS, prS, Rz.bind_ok, q_ofO, q_ofN, q_bad, q_ex, q_exS, q_exX, q_exB, q_okB, q_nx, q_rt, q_ro, q_bk, q_ct, q_sx, q_anx, q_act, q_abk, q_art, q_bnx, q_brt, q_bro, q_bex, q_va, q_ow, q_boo, add_int, sub_int, lt_int, le_int, gt_int, ge_int, neg_int, List.map_cons, List.map_nil, List.length_cons, List.length_nil, List.nil_append, List.cons_append, List.replicate, List.getElem?_cons_zero, List.getElem?_cons_succ, env_set0, env_setS, Option.bind_some, Option.map_some, if_true, Bool.false_eq_true, if_false, Nat.reduceAdd, Nat.reduceSub, sizeLine_eq, Nat.reduceLeDiff, Nat.zero_le, n4, i0, n2]
      · rw [if_neg hin] at ev
        refine .inr ⟨.non, ?_, .inl ⟨rfl, fun t ht z => hin ?_⟩⟩
        · rw [s_st ev]
          simp only [bodyF, startE, seqS, stS, stO, rtS, roS, roV, asS, ifS, xpS, bin, un, unN, lstF, lsF, consF, nilF, tupF, kc, gv, gb, tst, andT, orT, notT, andV, orV, notV, ifV, callF, callN, iterF, rngF, walked, slF, noP, soP, setN, setT, setCons, setNil, wipeE, yes, forS, prS, Rz.bind_ok, q_ofO, q_ofN, q_bad, q_ex, q_exS, q_exX, q_exB, q_okB, q_nx, q_rt, q_ro, q_bk, q_ct, q_sx, q_anx, q_act, q_abk, q_art, q_bnx, q_brt, q_bro, q_bex, q_va, q_ow, q_boo, add_int, sub_int, lt_int, le_int, gt_int, ge_int, neg_int, List.map_cons, List.map_nil, List.length_cons, List.length_nil, List.nil_append, List.cons_append, List.replicate, List.getElem?_cons_zero, List.getElem?_cons_succ, env_set0, env_setS, Option.bind_some, Option.map_some, if_true, Bool.false_eq_true, if_false, Nat.reduceAdd, Nat.reduceSub, sizeLine_eq, Nat.reduceLeDiff, Nat.zero_le, n5]
        · have := z.2 k hk
          rw [hw0] at this
          exact (inK_zero ht).mp this
    · rw [if_neg hw0] at ev
      obtain ⟨gA, gB⟩ := gd_end hw0 (b1 k) (b2 k) (b3 k) (b4 k)
      have l1 := less_eq S.gl gA
      refine .inl ⟨_, .inl ?_, lowN low (endA (co k s) (co k w) (co k l) (co k h)), some (hiN high (endB (co k s) (co k w) (co k l) (co k h))), .d (.int k), .d (.tup [fr (endA (co k s) (co k w) (co k l) (co k h)), fr (endB (co k s) (co k w) (co k l) (co k h))]), rfl, si_step S hw0 (hl k hk) b1 b2 b3 b4⟩
      rw [s_st ev]
      cases high with
      | none =>
        by_cases c : gle (endA (co k s) (co k w) (co k l) (co k h)) low
        · simp only [bodyF, startE, seqS, stS, stO, rtS, roS, roV, asS, ifS, xpS, bin, un, unN, lstF, lsF, consF, nilF, tupF, kc, gv, gb, tst, andT, orT, notT, andV, orV, notV, ifV, callF, callN, iterF, rngF, walked, slF, noP, soP, setN, setT, setCons, setNil, wipeE, yes, forS, prS, Rz.bind_ok, q_ofO, q_ofN, q_bad, q_ex, q_exS, q_exX, q_exB, q_okB, q_nx, q_rt, q_ro, q_bk, q_ct, q_sx, q_anx, q_act, q_abk, q_art, q_bnx, q_brt, q_bro, q_bex, q_va, q_ow, q_boo, add_int, sub_int, lt_int, le_int, gt_int, ge_int, neg_int, List.map_cons, List.map_nil, List.length_cons, List.length_nil, List.nil_append, List.cons_append, List.replicate, List.getElem?_cons_zero, List.getElem?_cons_succ, env_set0, env_setS, Option.bind_some, Option.map_some, if_true, Bool.false_eq_true, if_false, Nat.reduceAdd, Nat.reduceSub, sizeLine_eq, Nat.reduceLeDiff, Nat.zero_le, n4, i0, i1, n3, l1, decide_eq_true c, Bool.not_true, hiD, n0, hiN, lowN, if_pos c]
        · simp only [bodyF, startE, seqS, stS, stO, rtS, roS, roV, asS, ifS, xpS, bin, un, unN, lstF, lsF, consF, nilF, tupF, kc, gv, gb, tst, andT, orT, notT, andV, orV, notV, ifV, callF, callN, iterF, rngF, walked, slF, noP, soP, setN, setT, setCons, setNil, wipeE, yes, forS, prS, Rz.bind_ok, q_ofO, q_ofN, q_bad, q_ex, q_exS, q_exX, q_exB, q_okB, q_nx, q_rt, q_ro, q_bk, q_ct, q_sx, q_anx, q_act, q_abk, q_art, q_bnx, q_brt, q_bro, q_bex, q_va, q_ow, q_boo, add_int, sub_int, lt_int, le_int, gt_int, ge_int, neg_int, List.map_cons, List.map_nil, List.length_cons, List.length_nil, List.nil_append, List.cons_append, List.replicate, List.getElem?_cons_zero, List.getElem?_cons_succ, env_set0, env_setS, Option.bind_some, Option.map_some, if_true, Bool.false_eq_true, if_false, Nat.reduceAdd, Nat.reduceSub, sizeLine_eq, Nat.reduceLeDiff, Nat.zero_le, n4, i0, i1, n3, l1, decide_eq_false c, Bool.not_false, hiD, n0, hiN, lowN, if_neg c]
      | some x =>
        have l2 := less_eq gB (S.gh x rfl)
        by_cases c : gle (endA (co k s) (co k w) (co k l) (co k h)) low
        · by_cases c2 : gle x (endB (co k s) (co k w) (co k l) (co k h))
          · simp only [bodyF, startE, seqS, stS, stO, rtS, roS, roV, asS, ifS, xpS, bin, un, unN, lstF, lsF, consF, nilF, tupF, kc, gv, gb, tst, andT, orT, notT, andV, orV, notV, ifV, callF, callN, iterF, rngF, walked, slF, noP, soP, setN, setT, setCons, setNil, wipeE, yes, forS, prS, Rz.bind_ok, q_ofO, q_ofN, q_bad, q_ex, q_exS, q_exX, q_exB, q_okB, q_nx, q_rt, q_ro, q_bk, q_ct, q_sx, q_anx, q_act, q_abk, q_art, q_bnx, q_brt, q_bro, q_bex, q_va, q_ow, q_boo, add_int, sub_int, lt_int, le_int, gt_int, ge_int, neg_int, List.map_cons, List.map_nil, List.length_cons, List.length_nil, List.nil_append, List.cons_append, List.replicate, List.getElem?_cons_zero, List.getElem?_cons_succ, env_set0, env_setS, Option.bind_some, Option.map_some, if_true, Bool.false_eq_true, if_false, Nat.reduceAdd, Nat.reduceSub, sizeLine_eq, Nat.reduceLeDiff, Nat.zero_le, n4, i0, i1, n3, l1, l2, decide_eq_true c, decide_eq_true c2, Bool.not_true, hiD, n6, hiN, lowN, if_pos c, if_pos c2]
          · simp only [bodyF, startE, seqS, stS, stO, rtS, roS, roV, asS, ifS, xpS, bin, un, unN, lstF, lsF, consF, nilF, tupF, kc, gv, gb, tst, andT, orT, notT, andV, orV, notV, ifV, callF, callN, iterF, rngF, walked, slF, noP, soP, setN, setT, setCons, setNil, wipeE, yes, forS, prS, Rz.bind_ok, q_ofO, q_ofN, q_bad, q_ex, q_exS, q_exX, q_exB, q_okB, q_nx, q_rt, q_ro, q_bk, q_ct, q_sx, q_anx, q_act, q_abk, q_art, q_bnx, q_brt, q_bro, q_bex, q_va, q_ow, q_boo, add_int, sub_int, lt_int, le_int, gt_int, ge_int, neg_int, List.map_cons, List.map_nil, List.length_cons, List.length_nil, List.nil_append, List.cons_append, List.replicate, List.getElem?_cons_zero, List.getElem?_cons_succ, env_set0, env_setS, Option.bind_some, Option.map_some, if_true, Bool.false_eq_true, if_false, Nat.reduceAdd, Nat.reduceSub, sizeLine_eq, Nat.reduceLeDiff, Nat.zero_le, n4, i0, i1, n3, l1, l2, decide_eq_true c, decide_eq_false c2, Bool.not_true, Bool.not_false, hiD, n6, hiN, lowN, if_pos c, if_neg c2]
        · by_cases c2 : gle x (endB (co k s) (co k w) (co k l) (co k h))
          · simp only [bodyF, startE, seqS, stS, stO, rtS, roS, roV, asS, ifS, xpS, bin, un, unN, lstF, lsF, consF, nilF, tupF, kc, gv, gb, tst, andT, orT, notT, andV, orV, notV, ifV, callF, callN, iterF, rngF, walked, slF, noP, soP, setN, setT, setCons, setNil, wipeE, yes, forS, prS, Rz.bind_ok, q_ofO, q_ofN, q_bad, q_ex, q_exS, q_exX, q_exB, q_okB, q_nx, q_rt, q_ro, q_bk, q_ct, q_sx, q_anx, q_act, q_abk, q_art, q_bnx, q_brt, q_bro, q_bex, q_va, q_ow, q_boo, add_int, sub_int, lt_int, le_int, gt_int, ge_int, neg_int, List.map_cons, List.map_nil, List.length_cons, List.length_nil, List.nil_append, List.cons_append, List.replicate, List.getElem?_cons_zero, List.getElem?_cons_succ, env_set0, env_setS, Option.bind_some, Option.map_some, if_true, Bool.false_eq_true, if_false, Nat.reduceAdd, Nat.reduceSub, sizeLine_eq, Nat.reduceLeDiff, Nat.zero_le, n4, i0, i1, n3, l1, l2, decide_eq_false c, decide_eq_true c2, Bool.not_true, Bool.not_false, hiD, n6, hiN, lowN, if_neg c, if_pos c2]
          · simp only [bodyF, startE, seqS, stS, stO, rtS, roS, roV, asS, ifS, xpS, bin, un, unN, lstF, lsF, consF, nilF, tupF, kc, gv, gb, tst, andT, orT, notT, andV, orV, notV, ifV, callF, callN, iterF, rngF, walked, slF, noP, soP, setN, setT, setCons, setNil, wipeE, yes, forS, prS, Rz.bind_ok, q_ofO, q_ofN, q_bad, q_ex, q_exS, q_exX, q_exB, q_okB, q_nx, q_rt, q_ro, q_bk, q_ct, q_sx, q_anx, q_act, q_abk, q_art, q_bnx, q_brt, q_bro, q_bex, q_va, q_ow, q_boo, add_int, sub_int, lt_int, le_int, gt_int, ge_int, neg_int, List.map_cons, List.map_nil, List.length_cons, List.length_nil, List.nil_append, List.cons_append, List.replicate, List.getElem?_cons_zero, List.getElem?_cons_succ, env_set0, env_setS, Option.bind_some, Option.map_some, if_true, Bool.false_eq_true, if_false, Nat.reduceAdd, Nat.reduceSub, sizeLine_eq, Nat.reduceLeDiff, Nat.zero_le, n4, i0, i1, n3, l1, l2, decide_eq_false c, decide_eq_false c2, Bool.not_true, Bool.not_false, hiD, n6, hiN, lowN, if_neg c, if_neg c2]
  · rintro ε ⟨low, high, x4, x5, rfl, S⟩
    have S : SI s w l h 3 low high := S
    cases high with
    | none =>
      obtain ⟨j, z1, z2⟩ := hw
      exact absurd (S.hn rfl j z1) z2
    | some x =>
      have gx := S.gh x rfl
      have l1 := less_eq gx S.gl
      rw [q_nx]
      by_cases c : gle low x
      · refine .inr ⟨low, x, ?_, S.gl, gx, (S.iff low S.gl.pos).mpr ⟨gle_refl _, fun y q => by cases q; exact c⟩, (S.iff x gx.pos).mpr ⟨c, fun y q => by cases q; exact gle_refl _⟩, fun t ht z => ?_, S.l0, S.h0 x rfl⟩
        · simp only [bodyF, startE, seqS, stS, stO, rtS, roS, roV, asS, ifS, xpS, bin, un, unN, lstF, lsF, consF, nilF, tupF, kc, gv, gb, tst, andT, orT, notT, andV, orV, notV, ifV, callF, callN, iterF, rngF, walked, slF, noP, soP, setN, setT, setCons, setNil, wipeE, yes, forS, prS, Rz.bind_ok, q_ofO, q_ofN, q_bad, q_ex, q_exS, q_exX, q_exB, q_okB, q_nx, q_rt, q_ro, q_bk, q_ct, q_sx, q_anx, q_act, q_abk, q_art, q_bnx, q_brt, q_bro, q_bex, q_va, q_ow, q_boo, add_int, sub_int, lt_int, le_int, gt_int, ge_int, neg_int, List.map_cons, List.map_nil, List.length_cons, List.length_nil, List.nil_append, List.cons_append, List.replicate, List.getElem?_cons_zero, List.getElem?_cons_succ, env_set0, env_setS, Option.bind_some, Option.map_some, if_true, Bool.false_eq_true, if_false, Nat.reduceAdd, Nat.reduceSub, sizeLine_eq, Nat.reduceLeDiff, Nat.zero_le, hiD, n3, l1, decide_eq_true c, Bool.not_true]
        · have := (S.iff t ht).mp z
          exact ⟨this.1, this.2 x rfl⟩
      · refine .inl ⟨?_, fun t ht z => c ?_⟩
        · simp only [bodyF, startE, seqS, stS, stO, rtS, roS, roV, asS, ifS, xpS, bin, un, unN, lstF, lsF, consF, nilF, tupF, kc, gv, gb, tst, andT, orT, notT, andV, orV, notV, ifV, callF, callN, iterF, rngF, walked, slF, noP, soP, setN, setT, setCons, setNil, wipeE, yes, forS, prS, Rz.bind_ok, q_ofO, q_ofN, q_bad, q_ex, q_exS, q_exX, q_exB, q_okB, q_nx, q_rt, q_ro, q_bk, q_ct, q_sx, q_anx, q_act, q_abk, q_art, q_bnx, q_brt, q_bro, q_bex, q_va, q_ow, q_boo, add_int, sub_int, lt_int, le_int, gt_int, ge_int, neg_int, List.map_cons, List.map_nil, List.length_cons, List.length_nil, List.nil_append, List.cons_append, List.replicate, List.getElem?_cons_zero, List.getElem?_cons_succ, env_set0, env_setS, Option.bind_some, Option.map_some, if_true, Bool.false_eq_true, if_false, Nat.reduceAdd, Nat.reduceSub, sizeLine_eq, Nat.reduceLeDiff, Nat.zero_le, hiD, n3, l1, decide_eq_false c, Bool.not_false]
        · have := (S.iff t ht).mp z
          exact gle_trans S.gl.pos ht gx.pos this.1 (this.2 x rfl)

end DL
end
section
set_option Elab.async false
set_option linter.all false
set_option maxRecDepth 100000
set_option maxHeartbeats 4000000
set_option autoImplicit false
namespace DL
variable [TbC]
open PySem
/-! ### meets, of a box -/
theorem F_meets_box_eq {s w l h : P3} {o : Oc} (hs : F_stay_in [rayD s w, rayD l h] = .ok o) (ho : o = .va .non ∨ ∃ x y, o = .va (.tup [x, y])) : F_meets_box [rayD s w, rayD l h] = .ok (.va (match o with | .va (.tup [x, _]) => x | _ => .non)) := by
  rcases ho with rfl | ⟨x, y, rfl⟩
  · have n0 : isND .non .non = some (.bl true) := rfl
    simp only [F_meets_box, g_meets_box, bodyF, startE, seqS, stS, stO, rtS, roS, roV, asS, ifS, xpS, bin, un, unN, lstF, lsF, consF, nilF, tupF, kc, gv, gb, tst, andT, orT, notT, andV, orV, notV, ifV, callF, callN, iterF, rngF, walked, slF, noP, soP, setN, setT, setCons, setNil, wipeE, yes, forS, prS, Rz.bind_ok, q_ofO, q_ofN, q_bad, q_ex, q_exS, q_exX, q_exB, q_okB, q_nx, q_rt, q_ro, q_bk, q_ct, q_sx, q_anx, q_act, q_abk, q_art, q_bnx, q_brt, q_bro, q_bex, q_va, q_ow, q_boo, add_int, sub_int, lt_int, le_int, gt_int, ge_int, neg_int, List.map_cons, List.map_nil, List.length_cons, List.length_nil, List.nil_append, List.cons_append, List.replicate, List.getElem?_cons_zero, List.getElem?_cons_succ, env_set0, env_setS, Option.bind_some, Option.map_some, if_true, Bool.false_eq_true, if_false, Nat.reduceAdd, Nat.reduceSub, sizeLine_eq, Nat.reduceLeDiff, Nat.zero_le, hs, n0]
  · have n1 : isND (.tup [x, y]) .non = some (.bl false) := rfl
    have i0 : ixD (.tup [x, y]) (.int 0) = some x := rfl
    simp only [F_meets_box, g_meets_box, bodyF, startE, seqS, stS, stO, rtS, roS, roV, asS, ifS, xpS, bin, un, unN, lstF, lsF, consF, nilF, tupF, kc, gv, gb, tst, andT, orT, notT, andV, orV, notV, ifV, callF, callN, iterF, rngF, walked, slF, noP, soP, setN, setT, setCons, setNil, wipeE, yes, forS, prS, Rz.bind_ok, q_ofO, q_ofN, q_bad, q_ex, q_exS, q_exX, q_exB, q_okB, q_nx, q_rt, q_ro, q_bk, q_ct, q_sx, q_anx, q_act, q_abk, q_art, q_bnx, q_brt, q_bro, q_bex, q_va, q_ow, q_boo, add_int, sub_int, lt_int, le_int, gt_int, ge_int, neg_int, List.map_cons, List.map_nil, List.length_cons, List.length_nil, List.nil_append, List.cons_append, List.replicate, List.getElem?_cons_zero, List.getElem?_cons_succ, env_set0, env_setS, Option.bind_some, Option.map_some, if_true, Bool.false_eq_true, if_false, Nat.reduceAdd, Nat.reduceSub, sizeLine_eq, Nat.reduceLeDiff, Nat.zero_le, hs, n1, i0]
end DL
end
section
set_option Elab.async false
set_option linter.all false
set_option maxRecDepth 100000
set_option maxHeartbeats 4000000
set_option autoImplicit false
namespace DL
variable [TbC]
open PySem
theorem F_meets_box_ok {s w l h : P3} (hw : ∃ j, j < 3 ∧ co j w ≠ 0) (hl : ∀ j, j < 3 → co j l ≤ co j h) {d : Dt} (hb : F_meets_box [rayD s w, rayD l h] = .ok (.va d)) : F_meets [rayD s w, .tup [.str "box", en l, en h]] = .ok (.va d) := by
  have i0 : ∀ x y : Dt, ixD (.tup [x, y]) (.int 0) = some x := fun _ _ => rfl
  have i1 : ∀ x y : Dt, ixD (.tup [x, y]) (.int 1) = some y := fun _ _ => rfl
  have j0 : ∀ x y z : Dt, ixD (.tup [x, y, z]) (.int 0) = some x := fun _ _ _ => rfl
  have j1 : ∀ x y z : Dt, ixD (.tup [x, y, z]) (.int 1) = some y := fun _ _ _ => rfl
  have j2 : ∀ x y z : Dt, ixD (.tup [x, y, z]) (.int 2) = some z := fun _ _ _ => rfl
  have e1 : eqD (en w) (.tup [.int 0, .int 0, .int 0]) = some (.bl false) := by
    rw [eqD_of (n := 1) rfl rfl (by decide), show Dt.tup [.int 0, .int 0, .int 0] = en (0, 0, 0) from rfl, eqq_en, decide_eq_false]
    rintro rfl
    obtain ⟨j, q, z⟩ := hw
    match j, q with
    | 0, _ => exact z rfl
    | 1, _ => exact z rfl
    | 2, _ => exact z rfl
  have e2 : eqD (.str "box") (.str "box") = some (.bl true) := by
    rw [eqD_of (n := 0) (by decide +kernel) (by decide +kernel) (by decide), eqq_str]
    rfl
  have e3 : lenD (.tup [.str "box", en l, en h]) = some (.int 3) := rfl
  have e4 : eqD (.int 3) (.int 3) = some (.bl true) := by rw [eqD_int]; rfl
  have nr : F_need_ray [rayD s w] = .ok (.va .non) := by
    simp only [F_need_ray, g_need_ray, bodyF, startE, seqS, stS, stO, rtS, roS, roV, asS, ifS, xpS, bin, un, unN, lstF, lsF, consF, nilF, tupF, kc, gv, gb, tst, andT, orT, notT, andV, orV, notV, ifV, callF, callN, iterF, rngF, walked, slF, noP, soP, setN, setT, setCons, setNil, wipeE, yes, forS, prS, Rz.bind_ok, q_ofO, q_ofN, q_bad, q_ex, q_exS, q_exX, q_exB, q_okB, q_nx, q_rt, q_ro, q_bk, q_ct, q_sx, q_anx, q_act, q_abk, q_art, q_bnx, q_brt, q_bro, q_bex, q_va, q_ow, q_boo, add_int, sub_int, lt_int, le_int, gt_int, ge_int, neg_int, List.map_cons, List.map_nil, List.length_cons, List.length_nil, List.nil_append, List.cons_append, List.replicate, List.getElem?_cons_zero, List.getElem?_cons_succ, env_set0, env_setS, Option.bind_some, Option.map_some, if_true, Bool.false_eq_true, if_false, Nat.reduceAdd, Nat.reduceSub, sizeLine_eq, Nat.reduceLeDiff, Nat.zero_le, rayD, i1, e1]
  have al : allD (.lst [.bl true, .bl true, .bl true]) = some (.bl true) := rfl
  have ns : F_need_shape [.tup [.str "box", en l, en h]] = .ok (.va .non) := by
    simp only [F_need_shape, g_need_shape, bodyF, startE, seqS, stS, stO, rtS, roS, roV, asS, ifS, xpS, bin, un, unN, lstF, lsF, consF, nilF, tupF, kc, gv, gb, tst, andT, orT, notT, andV, orV, notV, ifV, callF, callN, iterF, rngF, walked, slF, noP, soP, setN, setT, setCons, setNil, wipeE, yes, forS, prS, Rz.bind_ok, q_ofO, q_ofN, q_bad, q_ex, q_exS, q_exX, q_exB, q_okB, q_nx, q_rt, q_ro, q_bk, q_ct, q_sx, q_anx, q_act, q_abk, q_art, q_bnx, q_brt, q_bro, q_bex, q_va, q_ow, q_boo, add_int, sub_int, lt_int, le_int, gt_int, ge_int, neg_int, List.map_cons, List.map_nil, List.length_cons, List.length_nil, List.nil_append, List.cons_append, List.replicate, List.getElem?_cons_zero, List.getElem?_cons_succ, env_set0, env_setS, Option.bind_some, Option.map_some, if_true, Bool.false_eq_true, if_false, Nat.reduceAdd, Nat.reduceSub, sizeLine_eq, Nat.reduceLeDiff, Nat.zero_le, j0, e2, e3, e4]
    rw [lcF_rng (n := 3) (f := fun _ => .bl true) rfl (by decide) fun j hj => by
      simp only [bodyF, startE, seqS, stS, stO, rtS, roS, roV, asS, ifS, xpS, bin, un, unN, lstF, lsF, consF, nilF, tupF, kc, gv, gb, tst, andT, orT, notT, andV, orV, notV, ifV, callF, callN, iterF, rngF, walked, slF, noP, soP, setN, setT, setCons, setNil, wipeE, yes, forS, prS, Rz.bind_ok, q_ofO, q_ofN, q_bad, q_ex, q_exS, q_exX, q_exB, q_okB, q_nx, q_rt, q_ro, q_bk, q_ct, q_sx, q_anx, q_act, q_abk, q_art, q_bnx, q_brt, q_bro, q_bex, q_va, q_ow, q_boo, add_int, sub_int, lt_int, le_int, gt_int, ge_int, neg_int, List.map_cons, List.map_nil, List.length_cons, List.length_nil, List.nil_append, List.cons_append, List.replicate, List.getElem?_cons_zero, List.getElem?_cons_succ, env_set0, env_setS, Option.bind_some, Option.map_some, if_true, Bool.false_eq_true, if_false, Nat.reduceAdd, Nat.reduceSub, sizeLine_eq, Nat.reduceLeDiff, Nat.zero_le, j1, j2, en_ix _ j hj, decide_eq_true (hl j hj)]]
    rw [range3]
    simp only [bodyF, startE, seqS, stS, stO, rtS, roS, roV, asS, ifS, xpS, bin, un, unN, lstF, lsF, consF, nilF, tupF, kc, gv, gb, tst, andT, orT, notT, andV, orV, notV, ifV, callF, callN, iterF, rngF, walked, slF, noP, soP, setN, setT, setCons, setNil, wipeE, yes, forS, prS, Rz.bind_ok, q_ofO, q_ofN, q_bad, q_ex, q_exS, q_exX, q_exB, q_okB, q_nx, q_rt, q_ro, q_bk, q_ct, q_sx, q_anx, q_act, q_abk, q_art, q_bnx, q_brt, q_bro, q_bex, q_va, q_ow, q_boo, add_int, sub_int, lt_int, le_int, gt_int, ge_int, neg_int, List.map_cons, List.map_nil, List.length_cons, List.length_nil, List.nil_append, List.cons_append, List.replicate, List.getElem?_cons_zero, List.getElem?_cons_succ, env_set0, env_setS, Option.bind_some, Option.map_some, if_true, Bool.false_eq_true, if_false, Nat.reduceAdd, Nat.reduceSub, sizeLine_eq, Nat.reduceLeDiff, Nat.zero_le, al, Bool.not_true]
  have xp : ∀ (d : Dt), xpS (fun _ => .ok d) = fun ε => .ok (.nx ε) := fun _ => rfl
  simp only [F_meets, g_meets, bodyF, startE, seqS, stS, stO, rtS, roS, roV, asS, ifS, xpS, bin, un, unN, lstF, lsF, consF, nilF, tupF, kc, gv, gb, tst, andT, orT, notT, andV, orV, notV, ifV, callF, callN, iterF, rngF, walked, slF, noP, soP, setN, setT, setCons, setNil, wipeE, yes, forS, prS, Rz.bind_ok, q_ofO, q_ofN, q_bad, q_ex, q_exS, q_exX, q_exB, q_okB, q_nx, q_rt, q_ro, q_bk, q_ct, q_sx, q_anx, q_act, q_abk, q_art, q_bnx, q_brt, q_bro, q_bex, q_va, q_ow, q_boo, add_int, sub_int, lt_int, le_int, gt_int, ge_int, neg_int, List.map_cons, List.map_nil, List.length_cons, List.length_nil, List.nil_append, List.cons_append, List.replicate, List.getElem?_cons_zero, List.getElem?_cons_succ, env_set0, env_setS, Option.bind_some, Option.map_some, if_true, Bool.false_eq_true, if_false, Nat.reduceAdd, Nat.reduceSub, sizeLine_eq, Nat.reduceLeDiff, Nat.zero_le, nr, ns, j0, j1, j2, e2]
  rw [show Dt.tup [en l, en h] = rayD l h from rfl, hb]
  rfl
end DL
end
section
set_option Elab.async false
set_option linter.all false
set_option maxRecDepth 100000
set_option maxHeartbeats 4000000
set_option autoImplicit false
namespace DL
variable [TbC]
open PySem
theorem ray0 (s w : P3) : ixD (rayD s w) (.int 0) = some (en s) := rfl
theorem ray1 (s w : P3) : ixD (rayD s w) (.int 1) = some (en w) := rfl
def alg (s w x : P3) : Option Fr := if dtP (mnP x s) w < 0 then none else some (rat (dtP (mnP x s) w) (dtP w w))
theorem F_along_eq {s w x : P3} (b1 : BdN 500 s) (b2 : BdN 2000 w) (b3 : BdN 500 x) (hw : w ≠ (0, 0, 0)) : F_along [rayD s w, en x] = .ok (.va (hiD (alg s w x))) := by
  have p := dt_pos hw
  have d1 := F_dot_eq (b3.mn b1) b2 (by decide) (by decide) (by decide)
  have d2 := F_dot_eq b2 b2 (by decide) (by decide) (by decide)
  have r := F_ratio_eq (t := dtP (mnP x s) w) (u := dtP w w) (by omega) (b2.dt b2) (by decide)
  by_cases c : dtP (mnP x s) w < 0
  · simp only [F_along, g_along, bodyF, startE, seqS, stS, stO, rtS, roS, roV, asS, ifS, xpS, bin, un, unN, lstF, lsF, consF, nilF, tupF, kc, gv, gb, tst, andT, orT, notT, andV, orV, notV, ifV, callF, callN, iterF, rngF, walked, slF, noP, soP, setN, setT, setCons, setNil, wipeE, yes, forS, prS, Rz.bind_ok, q_ofO, q_ofN, q_bad, q_ex, q_exS, q_exX, q_exB, q_okB, q_nx, q_rt, q_ro, q_bk, q_ct, q_sx, q_anx, q_act, q_abk, q_art, q_bnx, q_brt, q_bro, q_bex, q_va, q_ow, q_boo, add_int, sub_int, lt_int, le_int, gt_int, ge_int, neg_int, List.map_cons, List.map_nil, List.length_cons, List.length_nil, List.nil_append, List.cons_append, List.replicate, List.getElem?_cons_zero, List.getElem?_cons_succ, env_set0, env_setS, Option.bind_some, Option.map_some, if_true, Bool.false_eq_true, if_false, Nat.reduceAdd, Nat.reduceSub, sizeLine_eq, Nat.reduceLeDiff, Nat.zero_le, ray0, ray1, F_minus_eq, d1, decide_eq_true c, alg, if_pos c, hiD]
  · simp only [F_along, g_along, bodyF, startE, seqS, stS, stO, rtS, roS, roV, asS, ifS, xpS, bin, un, unN, lstF, lsF, consF, nilF, tupF, kc, gv, gb, tst, andT, orT, notT, andV, orV, notV, ifV, callF, callN, iterF, rngF, walked, slF, noP, soP, setN, setT, setCons, setNil, wipeE, yes, forS, prS, Rz.bind_ok, q_ofO, q_ofN, q_bad, q_ex, q_exS, q_exX, q_exB, q_okB, q_nx, q_rt, q_ro, q_bk, q_ct, q_sx, q_anx, q_act, q_abk, q_art, q_bnx, q_brt, q_bro, q_bex, q_va, q_ow, q_boo, add_int, sub_int, lt_int, le_int, gt_int, ge_int, neg_int, List.map_cons, List.map_nil, List.length_cons, List.length_nil, List.nil_append, List.cons_append, List.replicate, List.getElem?_cons_zero, List.getElem?_cons_succ, env_set0, env_setS, Option.bind_some, Option.map_some, if_true, Bool.false_eq_true, if_false, Nat.reduceAdd, Nat.reduceSub, sizeLine_eq, Nat.reduceLeDiff, Nat.zero_le, ray0, ray1, F_minus_eq, d1, decide_eq_false c, alg, if_neg c, hiD, d2, r]
theorem alg_gt {s w x : P3} (b1 : BdN 500 s) (b2 : BdN 2000 w) (b3 : BdN 500 x) (hw : w ≠ (0, 0, 0)) : ∀ a, alg s w x = some a → Gt a := fun a e => by
  have p := dt_pos hw
  unfold alg at e
  split at e
  · cases e
  · cases e
    exact gt_rat (by omega) (((b3.mn b1).dt b2).mono (by decide)) ((b2.dt b2).mono (by decide))
def onL (x y : Option Fr) : Option Fr := match x, y with
  | none, none => none
  | some a, some b => lesO (some a) (some b)
  | _, _ => some (0, 1)
theorem F_on_line_eq {s w p q : P3} (b1 : BdN 500 s) (b2 : BdN 2000 w) (b3 : BdN 500 p) (b4 : BdN 500 q) (hw : w ≠ (0, 0, 0)) : F_on_line [rayD s w, en p, en q] = .ok (.va (hiD (onL (alg s w p) (alg s w q)))) := by
  have a1 := F_along_eq b1 b2 b3 hw
  have a2 := F_along_eq b1 b2 b4 hw
  have g1 := alg_gt b1 b2 b3 hw
  have g2 := alg_gt b1 b2 b4 hw
  generalize alg s w p = x at a1 g1
  generalize alg s w q = y at a2 g2
  have n0 : isND .non .non = some (.bl true) := rfl
  have n1 : ∀ x : Fr, isND (fr x) .non = some (.bl false) := fun _ => rfl
  have l := F_lesser_eq g1 g2
  cases x with
  | none =>
    cases y with
    | none => simp only [F_on_line, g_on_line, bodyF, startE, seqS, stS, stO, rtS, roS, roV, asS, ifS, xpS, bin, un, unN, lstF, lsF, consF, nilF, tupF, kc, gv, gb, tst, andT, orT, notT, andV, orV, notV, ifV, callF, callN, iterF, rngF, walked, slF, noP, soP, setN, setT, setCons, setNil, wipeE, yes, forS, prS, Rz.bind_ok, q_ofO, q_ofN, q_bad, q_ex, q_exS, q_exX, q_exB, q_okB, q_nx, q_rt, q_ro, q_bk, q_ct, q_sx, q_anx, q_act, q_abk, q_art, q_bnx, q_brt, q_bro, q_bex, q_va, q_ow, q_boo, add_int, sub_int, lt_int, le_int, gt_int, ge_int, neg_int, List.map_cons, List.map_nil, List.length_cons, List.length_nil, List.nil_append, List.cons_append, List.replicate, List.getElem?_cons_zero, List.getElem?_cons_succ, env_set0, env_setS, Option.bind_some, Option.map_some, if_true, Bool.false_eq_true, if_false, Nat.reduceAdd, Nat.reduceSub, sizeLine_eq, Nat.reduceLeDiff, Nat.zero_le, a1, a2, hiD, n0, onL]
    | some b => simp only [F_on_line, g_on_line, bodyF, startE, seqS, stS, stO, rtS, roS, roV, asS, ifS, xpS, bin, un, unN, lstF, lsF, consF, nilF, tupF, kc, gv, gb, tst, andT, orT, notT, andV, orV, notV, ifV, callF, callN, iterF, rngF, walked, slF, noP, soP, setN, setT, setCons, setNil, wipeE, yes, forS, prS, Rz.bind_ok, q_ofO, q_ofN, q_bad, q_ex, q_exS, q_exX, q_exB, q_okB, q_nx, q_rt, q_ro, q_bk, q_ct, q_sx, q_anx, q_act, q_abk, q_art, q_bnx, q_brt, q_bro, q_bex, q_va, q_ow, q_boo, add_int, sub_int, lt_int, le_int, gt_int, ge_int, neg_int, List.map_cons, List.map_nil, List.length_cons, List.length_nil, List.nil_append, List.cons_append, List.replicate, List.getElem?_cons_zero, List.getElem?_cons_succ, env_set0, env_setS, Option.bind_some, Option.map_some, if_true, Bool.false_eq_true, if_false, Nat.reduceAdd, Nat.reduceSub, sizeLine_eq, Nat.reduceLeDiff, Nat.zero_le, a1, a2, hiD, n0, n1, onL]; rfl
  | some a =>
    cases y with
    | none => simp only [F_on_line, g_on_line, bodyF, startE, seqS, stS, stO, rtS, roS, roV, asS, ifS, xpS, bin, un, unN, lstF, lsF, consF, nilF, tupF, kc, gv, gb, tst, andT, orT, notT, andV, orV, notV, ifV, callF, callN, iterF, rngF, walked, slF, noP, soP, setN, setT, setCons, setNil, wipeE, yes, forS, prS, Rz.bind_ok, q_ofO, q_ofN, q_bad, q_ex, q_exS, q_exX, q_exB, q_okB, q_nx, q_rt, q_ro, q_bk, q_ct, q_sx, q_anx, q_act, q_abk, q_art, q_bnx, q_brt, q_bro, q_bex, q_va, q_ow, q_boo, add_int, sub_int, lt_int, le_int, gt_int, ge_int, neg_int, List.map_cons, List.map_nil, List.length_cons, List.length_nil, List.nil_append, List.cons_append, List.replicate, List.getElem?_cons_zero, List.getElem?_cons_succ, env_set0, env_setS, Option.bind_some, Option.map_some, if_true, Bool.false_eq_true, if_false, Nat.reduceAdd, Nat.reduceSub, sizeLine_eq, Nat.reduceLeDiff, Nat.zero_le, a1, a2, hiD, n0, n1, onL]; rfl
    | some b =>
      have l' : F_lesser [fr a, fr b] = .ok (.va (hiD (lesO (some a) (some b)))) := l
      simp only [F_on_line, g_on_line, bodyF, startE, seqS, stS, stO, rtS, roS, roV, asS, ifS, xpS, bin, un, unN, lstF, lsF, consF, nilF, tupF, kc, gv, gb, tst, andT, orT, notT, andV, orV, notV, ifV, callF, callN, iterF, rngF, walked, slF, noP, soP, setN, setT, setCons, setNil, wipeE, yes, forS, prS, Rz.bind_ok, q_ofO, q_ofN, q_bad, q_ex, q_exS, q_exX, q_exB, q_okB, q_nx, q_rt, q_ro, q_bk, q_ct, q_sx, q_anx, q_act, q_abk, q_art, q_bnx, q_brt, q_bro, q_bex, q_va, q_ow, q_boo, add_int, sub_int, lt_int, le_int, gt_int, ge_int, neg_int, List.map_cons, List.map_nil, List.length_cons, List.length_nil, List.nil_append, List.cons_append, List.replicate, List.getElem?_cons_zero, List.getElem?_cons_succ, env_set0, env_setS, Option.bind_some, Option.map_some, if_true, Bool.false_eq_true, if_false, Nat.reduceAdd, Nat.reduceSub, sizeLine_eq, Nat.reduceLeDiff, Nat.zero_le, a1, a2, hiD, n1, onL, l']
def segR (s w p q : P3) : Option Fr :=
  if crP w (mnP q p) = (0, 0, 0) then (if crP (mnP p s) w ≠ (0, 0, 0) then none else onL (alg s w p) (alg s w q))
  else if dtP (mnP p s) (crP w (mnP q p)) ≠ 0 then none
  else if dtP (crP (mnP p s) (mnP q p)) (crP w (mnP q p)) < 0 ∨ dtP (crP (mnP p s) w) (crP w (mnP q p)) < 0 ∨ dtP (crP (mnP p s) w) (crP w (mnP q p)) > dtP (crP w (mnP q p)) (crP w (mnP q p)) then none
  else some (rat (dtP (crP (mnP p s) (mnP q p)) (crP w (mnP q p))) (dtP (crP w (mnP q p)) (crP w (mnP q p))))
theorem eqz (p : P3) : eqD (en p) (.tup [.int 0, .int 0, .int 0]) = some (.bl (decide (p = (0, 0, 0)))) := by
  rw [eqD_of (n := 1) rfl rfl (by decide), show Dt.tup [.int 0, .int 0, .int 0] = en (0, 0, 0) from rfl, eqq_en]
theorem nez (p : P3) : neD (en p) (.tup [.int 0, .int 0, .int 0]) = some (.bl (!decide (p = (0, 0, 0)))) := by
  rw [neD_of (n := 1) rfl rfl (by decide), show Dt.tup [.int 0, .int 0, .int 0] = en (0, 0, 0) from rfl, eqq_en]
theorem F_meets_segment_eq {s w p q : P3} (b1 : BdN 500 s) (b2 : BdN 2000 w) (b3 : BdN 500 p) (b4 : BdN 500 q) (hw : w ≠ (0, 0, 0)) : F_meets_segment [rayD s w, en p, en q] = .ok (.va (hiD (segR s w p q))) := by
  have ol := F_on_line_eq b1 b2 b3 b4 hw
  have bs := b4.mn b3
  have bg := b3.mn b1
  have bu := b2.cr bs
  have c1 := F_cross_eq b2 bs (by decide) (by decide) (by decide)
  have c2 := F_cross_eq bg b2 (by decide) (by decide) (by decide)
  have c3 := F_cross_eq bg bs (by decide) (by decide) (by decide)
  have d1 := F_dot_eq bg bu (by decide) (by decide) (by decide)
  have d2 := F_dot_eq bu bu (by decide) (by decide) (by decide)
  have d3 := F_dot_eq (bg.cr bs) bu (by decide) (by decide) (by decide)
  have d4 := F_dot_eq (bg.cr b2) bu (by decide) (by decide) (by decide)
  have wk : walked (rayD s w) = some [en s, en w] := rfl
  have sT : ∀ (x0 x1 x2 x3 x4 x5 x6 x7 x8 x9 x10 : Lc), setT 2 (setCons (setN 3) (setCons (setN 4) setNil)) (rayD s w) [x0, x1, x2, x3, x4, x5, x6, x7, x8, x9, x10] = some [x0, x1, x2, .d (en s), .d (en w), x5, x6, x7, x8, x9, x10] := fun _ _ _ _ _ _ _ _ _ _ _ => rfl
  refine b_rt ?_
  unfold g_meets_segment
  refine (s_as (ε' := [.d (rayD s w), .d (en p), .d (en q), .d (en s), .d (en w), .u, .u, .u, .u, .u, .u]) rfl (sT _ _ _ _ _ _ _ _ _ _ _)).trans ?_
  refine (s_st (d := en (mnP q p)) (c_1 rfl rfl (F_minus_eq _ _) rfl)).trans ?_
  refine (s_st (d := en (mnP p s)) (c_1 rfl rfl (F_minus_eq _ _) rfl)).trans ?_
  refine (s_st (d := en (crP w (mnP q p))) (c_1 rfl rfl c1 rfl)).trans ?_
  unfold segR
  by_cases hu : crP w (mnP q p) = (0, 0, 0)
  · rw [if_pos hu]
    by_cases hg : crP (mnP p s) w = (0, 0, 0)
    · rw [if_neg (fun z => z hg)]
      simp only [bodyF, startE, seqS, stS, stO, rtS, roS, roV, asS, ifS, xpS, bin, un, unN, lstF, lsF, consF, nilF, tupF, kc, gv, gb, tst, andT, orT, notT, andV, orV, notV, ifV, callF, callN, iterF, rngF, walked, slF, noP, soP, setN, setT, setCons, setNil, wipeE, yes, forS, prS, Rz.bind_ok, q_ofO, q_ofN, q_bad, q_ex, q_exS, q_exX, q_exB, q_okB, q_nx, q_rt, q_ro, q_bk, q_ct, q_sx, q_anx, q_act, q_abk, q_art, q_bnx, q_brt, q_bro, q_bex, q_va, q_ow, q_boo, add_int, sub_int, lt_int, le_int, gt_int, ge_int, neg_int, List.map_cons, List.map_nil, List.length_cons, List.length_nil, List.nil_append, List.cons_append, List.replicate, List.getElem?_cons_zero, List.getElem?_cons_succ, env_set0, env_setS, Option.bind_some, Option.map_some, if_true, Bool.false_eq_true, if_false, Nat.reduceAdd, Nat.reduceSub, sizeLine_eq, Nat.reduceLeDiff, Nat.zero_le, eqz, nez, decide_eq_true hu, c2, decide_eq_true hg, Bool.not_true, ol]
    · rw [if_pos hg]
      simp only [bodyF, startE, seqS, stS, stO, rtS, roS, roV, asS, ifS, xpS, bin, un, unN, lstF, lsF, consF, nilF, tupF, kc, gv, gb, tst, andT, orT, notT, andV, orV, notV, ifV, callF, callN, iterF, rngF, walked, slF, noP, soP, setN, setT, setCons, setNil, wipeE, yes, forS, prS, Rz.bind_ok, q_ofO, q_ofN, q_bad, q_ex, q_exS, q_exX, q_exB, q_okB, q_nx, q_rt, q_ro, q_bk, q_ct, q_sx, q_anx, q_act, q_abk, q_art, q_bnx, q_brt, q_bro, q_bex, q_va, q_ow, q_boo, add_int, sub_int, lt_int, le_int, gt_int, ge_int, neg_int, List.map_cons, List.map_nil, List.length_cons, List.length_nil, List.nil_append, List.cons_append, List.replicate, List.getElem?_cons_zero, List.getElem?_cons_succ, env_set0, env_setS, Option.bind_some, Option.map_some, if_true, Bool.false_eq_true, if_false, Nat.reduceAdd, Nat.reduceSub, sizeLine_eq, Nat.reduceLeDiff, Nat.zero_le, eqz, nez, decide_eq_true hu, c2, decide_eq_false hg, Bool.not_false, hiD]
  · rw [if_neg hu]
    have pu := dt_pos hu
    have r := F_ratio_eq (t := dtP (crP (mnP p s) (mnP q p)) (crP w (mnP q p))) (u := dtP (crP w (mnP q p)) (crP w (mnP q p))) (by omega) (bu.dt bu) (by decide)
    by_cases hd : dtP (mnP p s) (crP w (mnP q p)) = 0
    · rw [if_neg (fun z => z hd)]
      have e0 : neD (.int (dtP (mnP p s) (crP w (mnP q p)))) (.int 0) = some (.bl false) := by rw [neD_int, decide_eq_true hd]; rfl
      by_cases h1 : dtP (crP (mnP p s) (mnP q p)) (crP w (mnP q p)) < 0
      · rw [if_pos (.inl h1)]
        simp only [bodyF, startE, seqS, stS, stO, rtS, roS, roV, asS, ifS, xpS, bin, un, unN, lstF, lsF, consF, nilF, tupF, kc, gv, gb, tst, andT, orT, notT, andV, orV, notV, ifV, callF, callN, iterF, rngF, walked, slF, noP, soP, setN, setT, setCons, setNil, wipeE, yes, forS, prS, Rz.bind_ok, q_ofO, q_ofN, q_bad, q_ex, q_exS, q_exX, q_exB, q_okB, q_nx, q_rt, q_ro, q_bk, q_ct, q_sx, q_anx, q_act, q_abk, q_art, q_bnx, q_brt, q_bro, q_bex, q_va, q_ow, q_boo, add_int, sub_int, lt_int, le_int, gt_int, ge_int, neg_int, List.map_cons, List.map_nil, List.length_cons, List.length_nil, List.nil_append, List.cons_append, List.replicate, List.getElem?_cons_zero, List.getElem?_cons_succ, env_set0, env_setS, Option.bind_some, Option.map_some, if_true, Bool.false_eq_true, if_false, Nat.reduceAdd, Nat.reduceSub, sizeLine_eq, Nat.reduceLeDiff, Nat.zero_le, eqz, decide_eq_false hu, d1, e0, d2, c3, d3, c2, d4, decide_eq_true h1, hiD]
      · by_cases h2 : dtP (crP (mnP p s) w) (crP w (mnP q p)) < 0
        · rw [if_pos (.inr (.inl h2))]
          simp only [bodyF, startE, seqS, stS, stO, rtS, roS, roV, asS, ifS, xpS, bin, un, unN, lstF, lsF, consF, nilF, tupF, kc, gv, gb, tst, andT, orT, notT, andV, orV, notV, ifV, callF, callN, iterF, rngF, walked, slF, noP, soP, setN, setT, setCons, setNil, wipeE, yes, forS, prS, Rz.bind_ok, q_ofO, q_ofN, q_bad, q_ex, q_exS, q_exX, q_exB, q_okB, q_nx, q_rt, q_ro, q_bk, q_ct, q_sx, q_anx, q_act, q_abk, q_art, q_bnx, q_brt, q_bro, q_bex, q_va, q_ow, q_boo, add_int, sub_int, lt_int, le_int, gt_int, ge_int, neg_int, List.map_cons, List.map_nil, List.length_cons, List.length_nil, List.nil_append, List.cons_append, List.replicate, List.getElem?_cons_zero, List.getElem?_cons_succ, env_set0, env_setS, Option.bind_some, Option.map_some, if_true, Bool.false_eq_true, if_false, Nat.reduceAdd, Nat.reduceSub, sizeLine_eq, Nat.reduceLeDiff, Nat.zero_le, eqz, decide_eq_false hu, d1, e0, d2, c3, d3, c2, d4, decide_eq_false h1, decide_eq_true h2, hiD]
        · by_cases h3 : dtP (crP (mnP p s) w) (crP w (mnP q p)) > dtP (crP w (mnP q p)) (crP w (mnP q p))
          · rw [if_pos (.inr (.inr h3))]
            simp only [bodyF, startE, seqS, stS, stO, rtS, roS, roV, asS, ifS, xpS, bin, un, unN, lstF, lsF, consF, nilF, tupF, kc, gv, gb, tst, andT, orT, notT, andV, orV, notV, ifV, callF, callN, iterF, rngF, walked, slF, noP, soP, setN, setT, setCons, setNil, wipeE, yes, forS, prS, Rz.bind_ok, q_ofO, q_ofN, q_bad, q_ex, q_exS, q_exX, q_exB, q_okB, q_nx, q_rt, q_ro, q_bk, q_ct, q_sx, q_anx, q_act, q_abk, q_art, q_bnx, q_brt, q_bro, q_bex, q_va, q_ow, q_boo, add_int, sub_int, lt_int, le_int, gt_int, ge_int, neg_int, List.map_cons, List.map_nil, List.length_cons, List.length_nil, List.nil_append, List.cons_append, List.replicate, List.getElem?_cons_zero, List.getElem?_cons_succ, env_set0, env_setS, Option.bind_some, Option.map_some, if_true, Bool.false_eq_true, if_false, Nat.reduceAdd, Nat.reduceSub, sizeLine_eq, Nat.reduceLeDiff, Nat.zero_le, eqz, decide_eq_false hu, d1, e0, d2, c3, d3, c2, d4, decide_eq_false h1, decide_eq_false h2, decide_eq_true (show dtP (crP w (mnP q p)) (crP w (mnP q p)) < dtP (crP (mnP p s) w) (crP w (mnP q p)) from h3), hiD]
          · rw [if_neg (fun z => z.elim h1 fun z => z.elim h2 h3)]
            simp only [bodyF, startE, seqS, stS, stO, rtS, roS, roV, asS, ifS, xpS, bin, un, unN, lstF, lsF, consF, nilF, tupF, kc, gv, gb, tst, andT, orT, notT, andV, orV, notV, ifV, callF, callN, iterF, rngF, walked, slF, noP, soP, setN, setT, setCons, setNil, wipeE, yes, forS, prS, Rz.bind_ok, q_ofO, q_ofN, q_bad, q_ex, q_exS, q_exX, q_exB, q_okB, q_nx, q_rt, q_ro, q_bk, q_ct, q_sx, q_anx, q_act, q_abk, q_art, q_bnx, q_brt, q_bro, q_bex, q_va, q_ow, q_boo, add_int, sub_int, lt_int, le_int, gt_int, ge_int, neg_int, List.map_cons, List.map_nil, List.length_cons, List.length_nil, List.nil_append, List.cons_append, List.replicate, List.getElem?_cons_zero, List.getElem?_cons_succ, env_set0, env_setS, Option.bind_some, Option.map_some, if_true, Bool.false_eq_true, if_false, Nat.reduceAdd, Nat.reduceSub, sizeLine_eq, Nat.reduceLeDiff, Nat.zero_le, eqz, decide_eq_false hu, d1, e0, d2, c3, d3, c2, d4, decide_eq_false h1, decide_eq_false h2, decide_eq_false (show ¬ dtP (crP w (mnP q p)) (crP w (mnP q p)) < dtP (crP (mnP p s) w) (crP w (mnP q p)) from h3), hiD, r]
    · rw [if_pos hd]
      have e0 : neD (.int (dtP (mnP p s) (crP w (mnP q p)))) (.int 0) = some (.bl true) := by rw [neD_int, decide_eq_false hd]; rfl
      simp only [bodyF, startE, seqS, stS, stO, rtS, roS, roV, asS, ifS, xpS, bin, un, unN, lstF, lsF, consF, nilF, tupF, kc, gv, gb, tst, andT, orT, notT, andV, orV, notV, ifV, callF, callN, iterF, rngF, walked, slF, noP, soP, setN, setT, setCons, setNil, wipeE, yes, forS, prS, Rz.bind_ok, q_ofO, q_ofN, q_bad, q_ex, q_exS, q_exX, q_exB, q_okB, q_nx, q_rt, q_ro, q_bk, q_ct, q_sx, q_anx, q_act, q_abk, q_art, q_bnx, q_brt, q_bro, q_bex, q_va, q_ow, q_boo, add_int, sub_int, lt_int, le_int, gt_int, ge_int, neg_int, List.map_cons, List.map_nil, List.length_cons, List.length_nil, List.nil_append, List.cons_append, List.replicate, List.getElem?_cons_zero, List.getElem?_cons_succ, env_set0, env_setS, Option.bind_some, Option.map_some, if_true, Bool.false_eq_true, if_false, Nat.reduceAdd, Nat.reduceSub, sizeLine_eq, Nat.reduceLeDiff, Nat.zero_le, eqz, decide_eq_false hu, d1, e0, hiD]
end DL
end
section
set_option Elab.async false
set_option linter.all false
set_option maxRecDepth 100000
set_option maxHeartbeats 4000000
set_option autoImplicit false
namespace DL
variable [TbC]
open PySem
theorem mul_cancel {a b c : Int} (h : 0 < a) (e : a * b = a * c) : b = c := Int.eq_of_mul_eq_mul_left (by omega) e
/-- what stands in the line of the way -/
theorem par_way {g w : P3} (h : crP g w = (0, 0, 0)) (k : Nat) : dtP w w * co k g = dtP g w * co k w := by
  obtain ⟨a, b, c⟩ := g
  obtain ⟨d, e, f⟩ := w
  simp only [crP, Prod.mk.injEq] at h
  obtain ⟨h1, h2, h3⟩ := h
  match k with
  | 0 => simp only [dtP, co]; grind
  | 1 => simp only [dtP, co]; grind
  | k + 2 => simp only [dtP, co]; grind
theorem cr_at {s w p q : P3} {t : Fr} {α β : Int} (h : ∀ k, (α + β) * co k (atP s w t) = t.2 * (α * co k p + β * co k q)) (k : Nat) : (α + β) * (t.1 * co k w) = t.2 * ((α + β) * co k (mnP p s) + β * co k (mnP q p)) := by
  have := seg_vec h k
  rw [co_mn, co_mn] at this
  rw [co_mn, co_mn]
  grind
/-- what follows of a place on the segment, the way not in its line -/
theorem seg_out {s w p q : P3} {t : Fr} {α β : Int} (ht : 0 < t.2) (hs : 0 < α + β) (h : ∀ k, (α + β) * co k (atP s w t) = t.2 * (α * co k p + β * co k q)) :
    (∀ k, t.1 * co k (crP w (mnP q p)) = t.2 * co k (crP (mnP p s) (mnP q p))) ∧ (∀ k, (α + β) * co k (crP (mnP p s) w) = β * co k (crP w (mnP q p))) := by
  have h0 := cr_at h 0
  have h1 := cr_at h 1
  have h2 := cr_at h 2
  generalize mnP p s = g at *
  generalize mnP q p = v at *
  obtain ⟨a, b, c⟩ := g
  obtain ⟨d, e, f⟩ := w
  obtain ⟨x, y, z⟩ := v
  simp only [co] at h0 h1 h2
  constructor
  · intro k
    apply mul_cancel hs
    match k with
    | 0 => simp only [co, crP]; grind
    | 1 => simp only [co, crP]; grind
    | k + 2 => simp only [co, crP]; grind
  · intro k
    apply mul_cancel ht
    match k with
    | 0 => simp only [co, crP]; grind
    | 1 => simp only [co, crP]; grind
    | k + 2 => simp only [co, crP]; grind
theorem dt_zero_of (g w v : P3) {a b : Int} (hb : 0 < b) (h : ∀ k, a * co k (crP w v) = b * co k (crP g v)) : dtP g (crP w v) = 0 := by
  have h0 := h 0
  have h1 := h 1
  have h2 := h 2
  apply mul_cancel hb
  obtain ⟨a1, b1, c1⟩ := g
  obtain ⟨d, e, f⟩ := w
  obtain ⟨x, y, z⟩ := v
  simp only [co, crP] at h0 h1 h2
  simp only [dtP, crP]
  grind
theorem dt_scale {u v x : P3} {a b : Int} (h : ∀ k, a * co k u = b * co k v) : a * dtP u x = b * dtP v x := by
  have h0 := h 0
  have h1 := h 1
  have h2 := h 2
  rw [dt_co, dt_co]
  grind
theorem way_ne {w : P3} (hw : w ≠ (0, 0, 0)) : 0 < dtP w w := dt_pos hw
theorem segR_spec {s w p q : P3} (b1 : BdN 500 s) (b2 : BdN 2000 w) (b3 : BdN 500 p) (b4 : BdN 500 q) (hw : w ≠ (0, 0, 0)) : Fst (fun t => Seg (atP s w t) t.2 p q) (segR s w p q) := by
  have ww := dt_pos hw
  unfold segR
  by_cases hu : crP w (mnP q p) = (0, 0, 0)
  · rw [if_pos hu]
    by_cases hg : crP (mnP p s) w = (0, 0, 0)
    · rw [if_neg (fun z => z hg)]
      have hg2 : crP (mnP q s) w = (0, 0, 0) := by
        obtain ⟨s0, s1, s2⟩ := s
        obtain ⟨w0, w1, w2⟩ := w
        obtain ⟨p0, p1, p2⟩ := p
        obtain ⟨q0, q1, q2⟩ := q
        simp only [crP, mnP, Prod.mk.injEq] at *
        grind
      have P := par_way hg
      have Q := par_way hg2
      have gp := alg_gt b1 b2 b3 hw
      have gq := alg_gt b1 b2 b4 hw
      -- a time on the segment, told by shares
      have out : ∀ t : Fr, 0 < t.2 → Seg (atP s w t) t.2 p q → ∃ α β : Int, 0 ≤ α ∧ 0 ≤ β ∧ 0 < α + β ∧ (α + β) * (t.1 * dtP w w) = t.2 * (α * dtP (mnP p s) w + β * dtP (mnP q s) w) := fun t ht ⟨α, β, h1, h2, h3, h⟩ => by
        refine ⟨α, β, h1, h2, h3, ?_⟩
        have e0 := seg_vec h 0
        have e1 := seg_vec h 1
        have e2 := seg_vec h 2
        rw [dt_co w w, dt_co (mnP p s) w, dt_co (mnP q s) w]
        grind
      -- the times of the ends
      have hit : ∀ (x : P3) (f : Int), (∀ k, dtP w w * co k (mnP x s) = f * co k w) → ∀ k, co k (atP s w (rat f (dtP w w))) = (rat f (dtP w w)).2 * co k x := fun x f hx k => by
        obtain ⟨g1, g2, g3, g4⟩ := rat_g (t := f) (u := dtP w w) (by omega)
        generalize rat f (dtP w w) = r at g3 g4 ⊢
        generalize rtg f (dtP w w) = d at g1 g2 g3 g4
        have e := hx k
        rw [co_at]
        rw [co_mn] at e
        have : d * (co k s * r.2 + co k w * r.1) = d * (r.2 * co k x) := by
          rw [g3, g4] at e
          grind
        exact Int.eq_of_mul_eq_mul_left g1 this
      generalize hfp : dtP (mnP p s) w = fp at *
      generalize hfq : dtP (mnP q s) w = fq at *
      generalize hW : dtP w w = W at *
      unfold alg at gp gq ⊢
      try rw [hfp] at gp
      try rw [hfp]
      try rw [hW] at gp
      try rw [hfq] at gq
      try rw [hfq]
      try rw [hW] at gq
      try rw [hW]
      have zero : (fp < 0 ∧ 0 ≤ fq) ∨ (fq < 0 ∧ 0 ≤ fp) → Fst (fun t => Seg (atP s w t) t.2 p q) (some (0, 1)) := fun hz => by
        refine ⟨fun x e => ?_, fun x e t h1 h2 _ => by cases e; unfold gle; simp; exact h2, fun e => nomatch e⟩
        cases e
        refine ⟨gt_01, Int.le_refl _, ?_⟩
        have at0 : ∀ k, co k (atP s w (0, 1)) = co k s := fun k => by rw [co_at]; simp
        have key : ∀ k, fq * co k (mnP p s) = fp * co k (mnP q s) := fun k => by
          have e1 := P k
          have e2 := Q k
          apply mul_cancel ww
          grind
        rcases hz with ⟨z1, z2⟩ | ⟨z1, z2⟩
        · refine ⟨fq, -fp, z2, by omega, by omega, fun k => ?_⟩
          have := key k
          rw [co_mn, co_mn] at this
          rw [at0]
          grind
        · refine ⟨-fq, fp, by omega, z2, by omega, fun k => ?_⟩
          have := key k
          rw [co_mn, co_mn] at this
          rw [at0]
          grind
      by_cases c1 : fp < 0
      · rw [if_pos c1]
        by_cases c2 : fq < 0
        · rw [if_pos c2]
          refine ⟨fun _ e => (nomatch e), fun _ e => (nomatch e), fun _ t h1 h2 z => ?_⟩
          obtain ⟨α, β, a1, a2, a3, e⟩ := out t h1 z
          have l1 : α * fp + β * fq < 0 := by
            have m1 : α * fp ≤ 0 := Int.mul_nonpos_of_nonneg_of_nonpos a1 (by omega)
            have m2 : β * fq ≤ 0 := Int.mul_nonpos_of_nonneg_of_nonpos a2 (by omega)
            rcases Int.lt_or_le 0 α with q | q
            · have : α * fp < 0 := Int.mul_neg_of_pos_of_neg q c1
              omega
            · have : β * fq < 0 := Int.mul_neg_of_pos_of_neg (by omega) c2
              omega
          have l2 : t.2 * (α * fp + β * fq) < 0 := Int.mul_neg_of_pos_of_neg h1 l1
          have l3 : 0 ≤ (α + β) * (t.1 * W) := Int.mul_nonneg (by omega) (Int.mul_nonneg h2 (by omega))
          omega
        · rw [if_neg c2]
          exact zero (.inl ⟨c1, by omega⟩)
      · rw [if_neg c1]
        by_cases c2 : fq < 0
        · rw [if_pos c2]
          exact zero (.inr ⟨c2, by omega⟩)
        · rw [if_neg c2]
          rw [if_neg c1] at gp
          rw [if_neg c2] at gq
          have one : ∀ (f : Int), 0 ≤ f → 0 ≤ (rat f W).1 := fun f hf => by
            have := (gle_rat (t := f) (u := W) (by omega) (0, 1)).2
            rw [if_pos ww] at this
            have := this.mpr (by simp; exact hf)
            unfold gle at this
            simp at this
            exact this
          have leA : ∀ (f : Int) (t : Fr), gle (rat f W) t ↔ f * t.2 ≤ t.1 * W := fun f t => by
            have := (gle_rat (t := f) (u := W) (by omega) t).1
            rw [if_pos ww] at this
            exact this
          have segp : Seg (atP s w (rat fp W)) (rat fp W).2 p q := ⟨1, 0, by decide, by decide, by decide, fun k => by rw [hit p fp P k]; simp⟩
          have segq : Seg (atP s w (rat fq W)) (rat fq W).2 p q := ⟨0, 1, by decide, by decide, by decide, fun k => by rw [hit q fq Q k]; simp⟩
          have low : ∀ t : Fr, 0 < t.2 → Seg (atP s w t) t.2 p q → fp * t.2 ≤ t.1 * W ∨ fq * t.2 ≤ t.1 * W := fun t h1 z => by
            obtain ⟨α, β, a1, a2, a3, e⟩ := out t h1 z
            by_cases q1 : fp * t.2 ≤ t.1 * W
            · exact .inl q1
            · refine .inr ?_
              rcases Int.lt_or_le (t.1 * W) (fq * t.2) with q2 | q2
              · have m1 : α * (t.1 * W) ≤ α * (fp * t.2) := Int.mul_le_mul_of_nonneg_left (by omega) a1
                have m2 : β * (t.1 * W) ≤ β * (fq * t.2) := Int.mul_le_mul_of_nonneg_left (by omega) a2
                have sum : (α + β) * (t.1 * W) = α * (t.1 * W) + β * (t.1 * W) := Int.add_mul ..
                have e' : t.2 * (α * fp + β * fq) = α * (fp * t.2) + β * (fq * t.2) := by grind
                rcases Int.lt_or_le 0 α with q | q
                · have : α * (t.1 * W) < α * (fp * t.2) := Int.mul_lt_mul_of_pos_left (by omega) q
                  omega
                · have : β * (t.1 * W) < β * (fq * t.2) := Int.mul_lt_mul_of_pos_left q2 (by omega)
                  omega
              · exact q2
          show Fst _ (lesO (some (rat fp W)) (some (rat fq W)))
          unfold lesO
          have gp' := gp _ rfl
          have gq' := gq _ rfl
          by_cases c : gle (rat fp W) (rat fq W)
          · simp only [if_pos c]
            refine ⟨fun x e => by cases e; exact ⟨gp', one fp (by omega), segp⟩, fun x e t h1 h2 z => ?_, fun e => nomatch e⟩
            cases e
            rcases low t h1 z with l | l
            · exact (leA fp t).mpr l
            · exact gle_trans gp'.pos gq'.pos h1 c ((leA fq t).mpr l)
          · simp only [if_neg c]
            refine ⟨fun x e => by cases e; exact ⟨gq', one fq (by omega), segq⟩, fun x e t h1 h2 z => ?_, fun e => nomatch e⟩
            cases e
            rcases low t h1 z with l | l
            · exact gle_trans gq'.pos gp'.pos h1 (gle_of_not c) ((leA fp t).mpr l)
            · exact (leA fq t).mpr l
    · rw [if_pos hg]
      refine ⟨fun _ e => (nomatch e), fun _ e => (nomatch e), fun _ t h1 h2 z => hg ?_⟩
      obtain ⟨α, β, a1, a2, a3, h⟩ := z
      have := (seg_out h1 a3 h).2
      rw [hu] at this
      refine ext3 fun k => ?_
      have e := this k
      rw [co_zero, Int.mul_zero] at e
      rw [co_zero]
      exact mul_cancel a3 (by rw [e, Int.mul_zero])
  · rw [if_neg hu]
    have pu := dt_pos hu
    have all : ∀ t : Fr, 0 < t.2 → Seg (atP s w t) t.2 p q → dtP (mnP p s) (crP w (mnP q p)) = 0 ∧ t.1 * dtP (crP w (mnP q p)) (crP w (mnP q p)) = t.2 * dtP (crP (mnP p s) (mnP q p)) (crP w (mnP q p)) ∧ 0 ≤ dtP (crP (mnP p s) w) (crP w (mnP q p)) ∧ dtP (crP (mnP p s) w) (crP w (mnP q p)) ≤ dtP (crP w (mnP q p)) (crP w (mnP q p)) := fun t h1 ⟨α, β, a1, a2, a3, h⟩ => by
      obtain ⟨k1, k2⟩ := seg_out h1 a3 h
      have e1 := dt_scale (x := crP w (mnP q p)) k1
      have e2 := dt_scale (x := crP w (mnP q p)) k2
      refine ⟨dt_zero_of _ _ _ h1 k1, e1, ?_, ?_⟩
      · have : 0 ≤ β * dtP (crP w (mnP q p)) (crP w (mnP q p)) := Int.mul_nonneg a2 (by omega)
        rw [← e2] at this
        rcases Int.lt_or_le (dtP (crP (mnP p s) w) (crP w (mnP q p))) 0 with z | z
        · have := Int.mul_neg_of_pos_of_neg a3 z
          omega
        · exact z
      · have m : β * dtP (crP w (mnP q p)) (crP w (mnP q p)) ≤ (α + β) * dtP (crP w (mnP q p)) (crP w (mnP q p)) := Int.mul_le_mul_of_nonneg_right (by omega) (by omega)
        rw [← e2] at m
        exact Int.le_of_mul_le_mul_left m a3
    by_cases hd : dtP (mnP p s) (crP w (mnP q p)) = 0
    · rw [if_neg (fun z => z hd)]
      have sp := fun k => split3 (mnP p s) w (mnP q p) k
      generalize hU : dtP (crP w (mnP q p)) (crP w (mnP q p)) = U at *
      generalize hT : dtP (crP (mnP p s) (mnP q p)) (crP w (mnP q p)) = T at *
      generalize hV : dtP (crP (mnP p s) w) (crP w (mnP q p)) = V at *
      by_cases hb : T < 0 ∨ V < 0 ∨ V > U
      · rw [if_pos hb]
        refine ⟨fun _ e => (nomatch e), fun _ e => (nomatch e), fun _ t h1 h2 z => ?_⟩
        obtain ⟨_, q2, q3, q4⟩ := all t h1 z
        rcases hb with b | b | b
        · have m1 : t.2 * T < 0 := Int.mul_neg_of_pos_of_neg h1 b
          have m2 : 0 ≤ t.1 * U := Int.mul_nonneg h2 (by omega)
          omega
        · omega
        · omega
      · rw [if_neg hb]
        have hT0 : 0 ≤ T := by omega
        have hV0 : 0 ≤ V := by omega
        have hVU : V ≤ U := by omega
        have hU0 : U ≠ 0 := by omega
        obtain ⟨g1, g2, g3, g4⟩ := rat_g (t := T) hU0
        have gg : Gt (rat T U) := by
          refine gt_rat hU0 ?_ ?_
          · rw [← hT]; exact (((b3.mn b1).cr (b4.mn b3)).dt (b2.cr (b4.mn b3))).mono (by decide)
          · rw [← hU]; exact ((b2.cr (b4.mn b3)).dt (b2.cr (b4.mn b3))).mono (by decide)
        refine ⟨fun x e => ?_, fun x e t h1 h2 z => ?_, fun e => nomatch e⟩
        · cases e
          refine ⟨gg, ?_, U - V, V, by omega, hV0, by omega, fun k => ?_⟩
          · have := (gle_rat (t := T) hU0 (0, 1)).2
            rw [if_pos pu] at this
            have := this.mpr (by simp; exact hT0)
            unfold gle at this
            simp at this
            exact this
          · have e := sp k
            rw [hd, Int.zero_mul, Int.add_zero] at e
            generalize rat T U = r at g3 g4 gg ⊢
            generalize rtg T U = d at g1 g2 g3 g4
            rw [co_at]
            rw [co_mn, co_mn] at e
            have : d * ((U - V + V) * (co k s * r.2 + co k w * r.1)) = d * (r.2 * ((U - V) * co k p + V * co k q)) := by
              grind
            exact Int.eq_of_mul_eq_mul_left g1 this
        · cases e
          have := (gle_rat (t := T) hU0 t).1
          rw [if_pos pu] at this
          refine this.mpr ?_
          obtain ⟨_, q2, _⟩ := all t h1 z
          rw [q2, Int.mul_comm]
          exact Int.le_refl _
    · rw [if_pos hd]
      exact ⟨fun _ e => (nomatch e), fun _ e => (nomatch e), fun _ t h1 h2 z => hd (all t h1 z).1⟩
end DL
end
section
set_option Elab.async false
set_option linter.all false
set_option maxRecDepth 100000
set_option maxHeartbeats 4000000
set_option autoImplicit false
namespace DL
variable [TbC]
open PySem
/-! ### triangles: the plain law -/
def Tri (X : P3) (m : Int) (a b c : P3) : Prop := ∃ α β γ : Int, 0 ≤ α ∧ 0 ≤ β ∧ 0 ≤ γ ∧ 0 < α + β + γ ∧ ∀ k, (α + β + γ) * co k X = m * (α * co k a + β * co k b + γ * co k c)
def upP (a b c : P3) : P3 := crP (mnP b a) (mnP c a)
def scP (m : Int) (p : P3) : P3 := (p.1 * m, p.2.1 * m, p.2.2 * m)
theorem co_sc (m : Int) (p : P3) (k : Nat) : co k (scP m p) = co k p * m := by
  match k with
  | 0 => rfl
  | 1 => rfl
  | k + 2 => rfl
theorem tri_ab {X : P3} {m : Int} {a b c : P3} (h : Seg X m a b) : Tri X m a b c := by
  obtain ⟨α, β, h1, h2, h3, h⟩ := h
  exact ⟨α, β, 0, h1, h2, Int.le_refl _, by omega, fun k => by have := h k; grind⟩
theorem tri_bc {X : P3} {m : Int} {a b c : P3} (h : Seg X m b c) : Tri X m a b c := by
  obtain ⟨α, β, h1, h2, h3, h⟩ := h
  exact ⟨0, α, β, Int.le_refl _, h1, h2, by omega, fun k => by have := h k; grind⟩
theorem tri_ca {X : P3} {m : Int} {a b c : P3} (h : Seg X m c a) : Tri X m a b c := by
  obtain ⟨α, β, h1, h2, h3, h⟩ := h
  exact ⟨β, 0, α, h2, Int.le_refl _, h1, by omega, fun k => by have := h k; grind⟩
/-- three corners in one line -/
theorem tri_flat {X : P3} {m : Int} {a b c : P3} (hu : upP a b c = (0, 0, 0)) (h : Tri X m a b c) : (Seg X m a b ∨ Seg X m b c) ∨ Seg X m c a := by
  obtain ⟨α, β, γ, h1, h2, h3, h4, h⟩ := h
  by_cases hr : mnP b a = (0, 0, 0)
  · have e : ∀ k, co k b = co k a := fun k => by
      have := co_mn b a k
      rw [hr, co_zero] at this
      omega
    exact .inr ⟨γ, α + β, h3, by omega, by omega, fun k => by have := h k; rw [e k] at this; grind⟩
  · have R := dt_pos hr
    have par : ∀ k, dtP (mnP b a) (mnP b a) * (co k c - co k a) = dtP (mnP c a) (mnP b a) * (co k b - co k a) := fun k => by
      have : crP (mnP c a) (mnP b a) = (0, 0, 0) := by
        unfold upP at hu
        generalize mnP b a = x at hu
        generalize mnP c a = y at hu ⊢
        obtain ⟨x0, x1, x2⟩ := x
        obtain ⟨y0, y1, y2⟩ := y
        simp only [crP, Prod.mk.injEq] at *
        grind
      have := par_way this k
      rw [co_mn, co_mn] at this
      exact this
    generalize dtP (mnP b a) (mnP b a) = r at R par
    generalize dtP (mnP c a) (mnP b a) = P at par
    generalize hS : α + β + γ = S at h4 h
    -- along a b
    have ab : 0 ≤ β * r + γ * P → β * r + γ * P ≤ S * r → Seg X m a b := fun q1 q2 => by
      have hSr : 0 < S * r := Int.mul_pos h4 R
      refine ⟨S * r - (β * r + γ * P), β * r + γ * P, by omega, q1, by omega, fun k => ?_⟩
      have e := h k
      have e2 := par k
      have hA : α = S - β - γ := by omega
      subst hA
      grind
    have ca : ∀ σ : Int, (σ = 1 ∨ σ = -1) → 0 < σ * P → 0 ≤ σ * (β * r + γ * P) → σ * (β * r + γ * P) ≤ S * (σ * P) → Seg X m c a := fun σ hσ hP q1 q2 => by
      have hSP : 0 < S * (σ * P) := Int.mul_pos h4 hP
      refine ⟨σ * (β * r + γ * P), S * (σ * P) - σ * (β * r + γ * P), q1, by omega, by omega, fun k => ?_⟩
      have e := h k
      have e2 := par k
      have hA : α = S - β - γ := by omega
      subst hA
      grind
    have br : 0 ≤ β * r := Int.mul_nonneg h2 (by omega)
    have brS : β * r ≤ S * r := Int.mul_le_mul_of_nonneg_right (by omega) (by omega)
    rcases Int.lt_or_le P 0 with hP | hP
    · have gP : γ * P ≤ 0 := Int.mul_nonpos_of_nonneg_of_nonpos h3 (by omega)
      rcases Int.lt_or_le (β * r + γ * P) 0 with q | q
      · refine .inr (ca (-1) (.inr rfl) (by omega) (by omega) ?_)
        have : γ * (-P) ≤ S * (-P) := Int.mul_le_mul_of_nonneg_right (by omega) (by omega)
        have e1 : γ * (-P) = -(γ * P) := Int.mul_neg ..
        have e2 : S * (-1 * P) = S * (-P) := by rw [Int.neg_one_mul]
        omega
      · exact .inl (.inl (ab q (by omega)))
    · have gP : 0 ≤ γ * P := Int.mul_nonneg h3 hP
      rcases Int.lt_or_le r P with q | q
      · refine .inr (ca 1 (.inl rfl) (by omega) (by omega) ?_)
        have m1 : β * r ≤ β * P := Int.mul_le_mul_of_nonneg_left (by omega) h2
        have m2 : (β + γ) * P ≤ S * P := Int.mul_le_mul_of_nonneg_right (by omega) hP
        have e1 : (β + γ) * P = β * P + γ * P := Int.add_mul ..
        have e2 : S * (1 * P) = S * P := by rw [Int.one_mul]
        omega
      · refine .inl (.inl (ab (by omega) ?_))
        have m1 : γ * P ≤ γ * r := Int.mul_le_mul_of_nonneg_left q h3
        have m2 : (β + γ) * r ≤ S * r := Int.mul_le_mul_of_nonneg_right (by omega) (by omega)
        have e1 : (β + γ) * r = β * r + γ * r := Int.add_mul ..
        omega
/-! shares of a place in the corners' plane -/
def shL (X : P3) (m : Int) (a b c : P3) : Int := dtP (crP (mnP X (scP m a)) (mnP c a)) (upP a b c)
def shM (X : P3) (m : Int) (a b c : P3) : Int := dtP (crP (mnP b a) (mnP X (scP m a))) (upP a b c)
def shN (X : P3) (m : Int) (a b c : P3) : Int := m * dtP (upP a b c) (upP a b c) - shL X m a b c - shM X m a b c
def inPl (X : P3) (m : Int) (a b c : P3) : Prop := dtP (mnP X (scP m a)) (upP a b c) = 0
theorem tri_in {X : P3} {m : Int} {a b c : P3} (hm : 0 < m) (h : Tri X m a b c) : inPl X m a b c ∧ 0 ≤ shL X m a b c ∧ 0 ≤ shM X m a b c ∧ 0 ≤ shN X m a b c := by
  obtain ⟨α, β, γ, h1, h2, h3, h4, h⟩ := h
  have e0 := h 0
  have e1 := h 1
  have e2 := h 2
  have hA : ∃ S, α + β + γ = S := ⟨_, rfl⟩
  obtain ⟨S, hS⟩ := hA
  rw [hS] at e0 e1 e2 h4
  have sq : 0 ≤ dtP (upP a b c) (upP a b c) := by
    by_cases z : upP a b c = (0, 0, 0)
    · rw [z]; exact Int.le_refl _
    · have := dt_pos z; omega
  have hg : ∀ k, S * co k (mnP X (scP m a)) = m * (β * co k (mnP b a) + γ * co k (mnP c a)) := fun k => by
    have e := h k
    rw [hS] at e
    rw [co_mn, co_mn, co_mn, co_sc]
    have hA : α = S - β - γ := by omega
    subst hA
    clear e0 e1 e2 h hS sq
    grind
  have g0 := hg 0
  have g1 := hg 1
  have g2 := hg 2
  have vec : ∀ g r l : P3, S * g.1 = m * (β * r.1 + γ * l.1) → S * g.2.1 = m * (β * r.2.1 + γ * l.2.1) → S * g.2.2 = m * (β * r.2.2 + γ * l.2.2) →
      S * dtP g (crP r l) = 0 ∧ (∀ k, S * co k (crP g l) = (m * β) * co k (crP r l)) ∧ ∀ k, S * co k (crP r g) = (m * γ) * co k (crP r l) := fun g r l => by
    obtain ⟨g0, g1, g2⟩ := g
    obtain ⟨r0, r1, r2⟩ := r
    obtain ⟨l0, l1, l2⟩ := l
    intro q0 q1 q2
    simp only at q0 q1 q2
    refine ⟨?_, fun k => ?_, fun k => ?_⟩
    · have : S * dtP (g0, g1, g2) (crP (r0, r1, r2) (l0, l1, l2)) = (S * g0) * (r1 * l2 - r2 * l1) + (S * g1) * (r2 * l0 - r0 * l2) + (S * g2) * (r0 * l1 - r1 * l0) := by
        simp only [dtP, crP]
        clear q0 q1 q2
        grind
      rw [this, q0, q1, q2]
      clear q0 q1 q2 this
      grind
    · match k with
      | 0 =>
        have : S * (g1 * l2 - g2 * l1) = (S * g1) * l2 - (S * g2) * l1 := by grind
        show S * (g1 * l2 - g2 * l1) = m * β * (r1 * l2 - r2 * l1)
        rw [this, q1, q2]; grind
      | 1 =>
        have : S * (g2 * l0 - g0 * l2) = (S * g2) * l0 - (S * g0) * l2 := by grind
        show S * (g2 * l0 - g0 * l2) = m * β * (r2 * l0 - r0 * l2)
        rw [this, q2, q0]; grind
      | k + 2 =>
        have : S * (g0 * l1 - g1 * l0) = (S * g0) * l1 - (S * g1) * l0 := by grind
        show S * (g0 * l1 - g1 * l0) = m * β * (r0 * l1 - r1 * l0)
        rw [this, q0, q1]; grind
    · match k with
      | 0 =>
        have : S * (r1 * g2 - r2 * g1) = r1 * (S * g2) - r2 * (S * g1) := by grind
        show S * (r1 * g2 - r2 * g1) = m * γ * (r1 * l2 - r2 * l1)
        rw [this, q1, q2]; grind
      | 1 =>
        have : S * (r2 * g0 - r0 * g2) = r2 * (S * g0) - r0 * (S * g2) := by grind
        show S * (r2 * g0 - r0 * g2) = m * γ * (r2 * l0 - r0 * l2)
        rw [this, q2, q0]; grind
      | k + 2 =>
        have : S * (r0 * g1 - r1 * g0) = r0 * (S * g1) - r1 * (S * g0) := by grind
        show S * (r0 * g1 - r1 * g0) = m * γ * (r0 * l1 - r1 * l0)
        rw [this, q0, q1]; grind
  obtain ⟨kP, vL, vM⟩ := vec _ _ _ g0 g1 g2
  have kL : S * shL X m a b c = m * (β * dtP (upP a b c) (upP a b c)) := by
    have := dt_scale (x := upP a b c) vL
    rw [Int.mul_assoc] at this
    exact this
  have kM : S * shM X m a b c = m * (γ * dtP (upP a b c) (upP a b c)) := by
    have := dt_scale (x := upP a b c) vM
    rw [Int.mul_assoc] at this
    exact this
  have kN : S * shN X m a b c = m * (α * dtP (upP a b c) (upP a b c)) := by
    unfold shN
    rw [Int.mul_sub, Int.mul_sub, kL, kM]
    have hA : α = S - β - γ := by omega
    subst hA
    generalize dtP (upP a b c) (upP a b c) = U
    clear e0 e1 e2 h hS sq hg g0 g1 g2 vec kP vL vM kL kM
    grind
  have pos : ∀ x y : Int, 0 ≤ y → S * x = m * (y * dtP (upP a b c) (upP a b c)) → 0 ≤ x := fun x y hy e => by
    have := Int.mul_nonneg (show 0 ≤ m by omega) (Int.mul_nonneg hy sq)
    rw [← e] at this
    rcases Int.lt_or_le x 0 with z | z
    · have := Int.mul_neg_of_pos_of_neg h4 z
      omega
    · exact z
  refine ⟨?_, pos _ _ h2 kL, pos _ _ h3 kM, pos _ _ h1 kN⟩
  exact mul_cancel h4 (by rw [Int.mul_zero]; exact kP)
/-- a place in the plane, by its shares -/
theorem sh_co {X : P3} {m : Int} {a b c : P3} (h : inPl X m a b c) (k : Nat) : (m * dtP (upP a b c) (upP a b c)) * co k X = m * (shN X m a b c * co k a + shL X m a b c * co k b + shM X m a b c * co k c) := by
  have e := split3 (mnP X (scP m a)) (mnP b a) (mnP c a) k
  have e1 : dtP (mnP X (scP m a)) (crP (mnP b a) (mnP c a)) = 0 := h
  rw [e1, Int.zero_mul, Int.add_zero, co_mn, co_mn, co_mn, co_sc] at e
  have e2 : dtP (crP (mnP X (scP m a)) (mnP b a)) (crP (mnP b a) (mnP c a)) = - shM X m a b c := by
    unfold shM upP
    generalize mnP X (scP m a) = g
    generalize mnP b a = v
    generalize mnP c a = z
    obtain ⟨g0, g1, g2⟩ := g
    obtain ⟨v0, v1, v2⟩ := v
    obtain ⟨z0, z1, z2⟩ := z
    simp only [dtP, crP]
    grind
  have e3 : dtP (crP (mnP X (scP m a)) (mnP c a)) (crP (mnP b a) (mnP c a)) = shL X m a b c := rfl
  rw [e2, e3] at e
  have e4 : dtP (crP (mnP b a) (mnP c a)) (crP (mnP b a) (mnP c a)) = dtP (upP a b c) (upP a b c) := rfl
  rw [e4] at e
  unfold shN
  grind
theorem in_tri {X : P3} {m : Int} {a b c : P3} (hm : 0 < m) (hu : upP a b c ≠ (0, 0, 0)) (h : inPl X m a b c) (hL : 0 ≤ shL X m a b c) (hM : 0 ≤ shM X m a b c) (hN : 0 ≤ shN X m a b c) : Tri X m a b c := by
  have hs : shN X m a b c + shL X m a b c + shM X m a b c = m * dtP (upP a b c) (upP a b c) := by unfold shN; omega
  refine ⟨shN X m a b c, shL X m a b c, shM X m a b c, hN, hL, hM, ?_, fun k => ?_⟩
  · rw [hs]; exact Int.mul_pos hm (dt_pos hu)
  · rw [hs]; exact sh_co h k
/-- a share that is none: the place is on the edge -/
theorem on_edge {X : P3} {m : Int} {a b c : P3} (hm : 0 < m) (hu : upP a b c ≠ (0, 0, 0)) (h : inPl X m a b c) (hL : 0 ≤ shL X m a b c) (hM : 0 ≤ shM X m a b c) (hN : 0 ≤ shN X m a b c) (z : shN X m a b c = 0 ∨ shL X m a b c = 0 ∨ shM X m a b c = 0) : (Seg X m a b ∨ Seg X m b c) ∨ Seg X m c a := by
  have hs : shN X m a b c + shL X m a b c + shM X m a b c = m * dtP (upP a b c) (upP a b c) := by unfold shN; omega
  have hp : 0 < m * dtP (upP a b c) (upP a b c) := Int.mul_pos hm (dt_pos hu)
  have e := fun k => sh_co h k
  rw [← hs] at e hp
  generalize shN X m a b c = ν at *
  generalize shL X m a b c = μ at *
  generalize shM X m a b c = κ at *
  rcases z with z | z | z
  · exact .inl (.inr ⟨μ, κ, hL, hM, by omega, fun k => by have := e k; rw [z] at this; grind⟩)
  · exact .inr ⟨κ, ν, hM, hN, by omega, fun k => by have := e k; rw [z] at this; grind⟩
  · exact .inl (.inl ⟨ν, μ, hN, hL, by omega, fun k => by have := e k; rw [z] at this; grind⟩)
/-- of functions that run evenly: the last that comes up to nought -/
theorem last_up (f0 f1 : Nat → Int) {m x : Int} (hm : 0 < m) (hx : 0 ≤ x) : ∀ n, (∀ i, i < n → 0 ≤ m * f0 i + x * f1 i) → (∃ i, i < n ∧ f0 i < 0) → ∃ i, i < n ∧ f0 i < 0 ∧ 0 < f1 i ∧ ∀ j, j < n → 0 ≤ f1 i * f0 j - f0 i * f1 j := by
  have up : ∀ i, 0 ≤ m * f0 i + x * f1 i → f0 i < 0 → 0 < f1 i := fun i h1 h2 => by
    rcases Int.lt_or_le 0 (f1 i) with z | z
    · exact z
    · have m1 : m * f0 i < 0 := Int.mul_neg_of_pos_of_neg hm h2
      have m2 : x * f1 i ≤ 0 := Int.mul_nonpos_of_nonneg_of_nonpos hx z
      omega
  -- against one that stands not below nought at the start
  have stay : ∀ i j, 0 ≤ m * f0 i + x * f1 i → f0 i < 0 → 0 ≤ m * f0 j + x * f1 j → 0 ≤ f0 j → 0 ≤ f1 i * f0 j - f0 i * f1 j := fun i j h1 h2 h3 h4 => by
    have h5 := up i h1 h2
    rcases Int.lt_or_le (f1 j) 0 with z | z
    · refine Int.nonneg_of_mul_nonneg_right (a := m) ?_ hm
      have m1 : 0 ≤ (m * f0 j + x * f1 j) * f1 i := Int.mul_nonneg h3 (by omega)
      have m2 : 0 ≤ (m * f0 i + x * f1 i) * (-f1 j) := Int.mul_nonneg h1 (by omega)
      have e : m * (f1 i * f0 j - f0 i * f1 j) = (m * f0 j + x * f1 j) * f1 i + (m * f0 i + x * f1 i) * (-f1 j) := by grind
      omega
    · have m1 : 0 ≤ f1 i * f0 j := Int.mul_nonneg (by omega) h4
      have m2 : f0 i * f1 j ≤ 0 := Int.mul_nonpos_of_nonpos_of_nonneg (by omega) z
      omega
  intro n
  induction n with
  | zero => exact fun _ ⟨i, h, _⟩ => absurd h (Nat.not_lt_zero _)
  | succ n ih =>
    intro hall hex
    by_cases hn : ∃ i, i < n ∧ f0 i < 0
    · obtain ⟨i, i1, i2, i3, i4⟩ := ih (fun i hi => hall i (by omega)) hn
      by_cases c : 0 ≤ f1 i * f0 n - f0 i * f1 n
      · exact ⟨i, by omega, i2, i3, fun j hj => by
          rcases Nat.lt_or_eq_of_le (Nat.le_of_lt_succ hj) with z | z
          · exact i4 j z
          · rw [z]; exact c⟩
      · -- the newest comes later
        have hn0 : f0 n < 0 := by
          rcases Int.lt_or_le (f0 n) 0 with z | z
          · exact z
          · exact absurd (stay i n (hall i (by omega)) i2 (hall n (by omega)) z) c
        have hn1 := up n (hall n (by omega)) hn0
        refine ⟨n, by omega, hn0, hn1, fun j hj => ?_⟩
        rcases Nat.lt_or_eq_of_le (Nat.le_of_lt_succ hj) with z | z
        · rcases Int.lt_or_le (f0 j) 0 with q | q
          · have hj1 := up j (hall j (by omega)) q
            have k1 := i4 j z
            -- f1 i f0 j ≥ f0 i f1 j, f1 i f0 n < f0 i f1 n
            refine Int.nonneg_of_mul_nonneg_right (a := f1 i) ?_ i3
            have m1 : 0 ≤ (f1 i * f0 j - f0 i * f1 j) * f1 n := Int.mul_nonneg k1 (by omega)
            have m2 : 0 ≤ (-(f1 i * f0 n - f0 i * f1 n)) * f1 j := Int.mul_nonneg (by omega) (by omega)
            have e : f1 i * (f1 n * f0 j - f0 n * f1 j) = (f1 i * f0 j - f0 i * f1 j) * f1 n + (-(f1 i * f0 n - f0 i * f1 n)) * f1 j := by grind
            omega
          · exact stay n j (hall n (by omega)) hn0 (hall j (by omega)) q
        · rw [z, Int.mul_comm (f1 n)]; omega
    · obtain ⟨i, hi, hneg⟩ := hex
      have hin : i = n := by
        rcases Nat.lt_or_eq_of_le (Nat.le_of_lt_succ hi) with z | z
        · exact absurd ⟨i, z, hneg⟩ hn
        · exact z
      subst hin
      refine ⟨i, hi, hneg, up i (hall i hi) hneg, fun j hj => ?_⟩
      rcases Nat.lt_or_eq_of_le (Nat.le_of_lt_succ hj) with z | z
      · refine stay i j (hall i hi) hneg (hall j hj) ?_
        rcases Int.lt_or_le (f0 j) 0 with q | q
        · exact absurd ⟨j, z, q⟩ hn
        · exact q
      · rw [z, Int.mul_comm (f1 i)]; omega
end DL
end
section
set_option Elab.async false
set_option linter.all false
set_option maxRecDepth 100000
set_option maxHeartbeats 4000000
set_option autoImplicit false
namespace DL
variable [TbC]
open PySem
/-! ### triangles: what the functions compute -/
def triD (a b c : P3) : Dt := .tup [en a, en b, en c]
def flatR (s w a b c : P3) : Option Fr := lesO (lesO (segR s w a b) (segR s w b c)) (segR s w c a)
theorem F_meets_flat_eq {s w a b c : P3} (b1 : BdN 500 s) (b2 : BdN 2000 w) (b3 : BdN 500 a) (b4 : BdN 500 b) (b5 : BdN 500 c) (hw : w ≠ (0, 0, 0)) : F_meets_flat [rayD s w, triD a b c] = .ok (.va (hiD (flatR s w a b c))) := by
  have e1 := F_meets_segment_eq b1 b2 b3 b4 hw
  have e2 := F_meets_segment_eq b1 b2 b4 b5 hw
  have e3 := F_meets_segment_eq b1 b2 b5 b3 hw
  have s1 := segR_spec b1 b2 b3 b4 hw
  have s2 := segR_spec b1 b2 b4 b5 hw
  have s3 := segR_spec b1 b2 b5 b3 hw
  have l1 := F_lesser_eq (fun a e => (s1.g a e).1) (fun a e => (s2.g a e).1)
  have l2 := F_lesser_eq (fun a e => ((s1.or s2).g a e).1) (fun a e => (s3.g a e).1)
  have sT : ∀ (x0 x1 x2 x3 x4 x5 : Lc), setT 3 (setCons (setN 2) (setCons (setN 3) (setCons (setN 4) setNil))) (triD a b c) [x0, x1, x2, x3, x4, x5] = some [x0, x1, .d (en a), .d (en b), .d (en c), x5] := fun _ _ _ _ _ _ => rfl
  refine b_rt ?_
  unfold g_meets_flat
  refine (s_as (ε' := [.d (rayD s w), .d (triD a b c), .d (en a), .d (en b), .d (en c), .u]) rfl (sT _ _ _ _ _ _)).trans ?_
  simp only [bodyF, startE, seqS, stS, stO, rtS, roS, roV, asS, ifS, xpS, bin, un, unN, lstF, lsF, consF, nilF, tupF, kc, gv, gb, tst, andT, orT, notT, andV, orV, notV, ifV, callF, callN, iterF, rngF, walked, slF, noP, soP, setN, setT, setCons, setNil, wipeE, yes, forS, prS, Rz.bind_ok, q_ofO, q_ofN, q_bad, q_ex, q_exS, q_exX, q_exB, q_okB, q_nx, q_rt, q_ro, q_bk, q_ct, q_sx, q_anx, q_act, q_abk, q_art, q_bnx, q_brt, q_bro, q_bex, q_va, q_ow, q_boo, add_int, sub_int, lt_int, le_int, gt_int, ge_int, neg_int, List.map_cons, List.map_nil, List.length_cons, List.length_nil, List.nil_append, List.cons_append, List.replicate, List.getElem?_cons_zero, List.getElem?_cons_succ, env_set0, env_setS, Option.bind_some, Option.map_some, if_true, Bool.false_eq_true, if_false, Nat.reduceAdd, Nat.reduceSub, sizeLine_eq, Nat.reduceLeDiff, Nat.zero_le, e1, e2, e3, l1, l2, flatR]
theorem flat_spec {s w a b c : P3} (b1 : BdN 500 s) (b2 : BdN 2000 w) (b3 : BdN 500 a) (b4 : BdN 500 b) (b5 : BdN 500 c) (hw : w ≠ (0, 0, 0)) : Fst (fun t => (Seg (atP s w t) t.2 a b ∨ Seg (atP s w t) t.2 b c) ∨ Seg (atP s w t) t.2 c a) (flatR s w a b c) :=
  ((segR_spec b1 b2 b3 b4 hw).or (segR_spec b1 b2 b4 b5 hw)).or (segR_spec b1 b2 b5 b3 hw)
def sgn (x : Int) : Int := (if 0 < x then 1 else 0) - (if x < 0 then 1 else 0)
theorem F_sign_eq (x : Int) : F_sign [.int x] = .ok (.va (.int (sgn x))) := by
  have i1 : ∀ b : Bool, intD (.bl b) = some (.int (if b then 1 else 0)) := fun _ => rfl
  simp only [F_sign, g_sign, bodyF, startE, seqS, stS, stO, rtS, roS, roV, asS, ifS, xpS, bin, un, unN, lstF, lsF, consF, nilF, tupF, kc, gv, gb, tst, andT, orT, notT, andV, orV, notV, ifV, callF, callN, iterF, rngF, walked, slF, noP, soP, setN, setT, setCons, setNil, wipeE, yes, forS, prS, Rz.bind_ok, q_ofO, q_ofN, q_bad, q_ex, q_exS, q_exX, q_exB, q_okB, q_nx, q_rt, q_ro, q_bk, q_ct, q_sx, q_anx, q_act, q_abk, q_art, q_bnx, q_brt, q_bro, q_bex, q_va, q_ow, q_boo, add_int, sub_int, lt_int, le_int, gt_int, ge_int, neg_int, List.map_cons, List.map_nil, List.length_cons, List.length_nil, List.nil_append, List.cons_append, List.replicate, List.getElem?_cons_zero, List.getElem?_cons_succ, env_set0, env_setS, Option.bind_some, Option.map_some, if_true, Bool.false_eq_true, if_false, Nat.reduceAdd, Nat.reduceSub, sizeLine_eq, Nat.reduceLeDiff, Nat.zero_le, i1]
  unfold sgn
  by_cases h : 0 < x <;> by_cases k : x < 0 <;> simp [h, k]
def trI (a b c u : P3) : Int := dtP (crP (mnP b a) (mnP c a)) u
theorem F_turn_eq {n : Nat} {a b c u : P3} (b1 : BdN n a) (b2 : BdN n b) (b3 : BdN n c) (b4 : BdN 1100 u) (hn : n ≤ 100000) : F_turn [en a, en b, en c, en u] = .ok (.va (.int (sgn (trI a b c u)))) := by
  have c1 := F_cross_eq (b2.mn b1) (b3.mn b1) (by omega) (by omega) (by omega)
  have d1 := F_dot_eq ((b2.mn b1).cr (b3.mn b1)) b4 (by omega) (by omega) (by omega)
  simp only [F_turn, g_turn, bodyF, startE, seqS, stS, stO, rtS, roS, roV, asS, ifS, xpS, bin, un, unN, lstF, lsF, consF, nilF, tupF, kc, gv, gb, tst, andT, orT, notT, andV, orV, notV, ifV, callF, callN, iterF, rngF, walked, slF, noP, soP, setN, setT, setCons, setNil, wipeE, yes, forS, prS, Rz.bind_ok, q_ofO, q_ofN, q_bad, q_ex, q_exS, q_exX, q_exB, q_okB, q_nx, q_rt, q_ro, q_bk, q_ct, q_sx, q_anx, q_act, q_abk, q_art, q_bnx, q_brt, q_bro, q_bex, q_va, q_ow, q_boo, add_int, sub_int, lt_int, le_int, gt_int, ge_int, neg_int, List.map_cons, List.map_nil, List.length_cons, List.length_nil, List.nil_append, List.cons_append, List.replicate, List.getElem?_cons_zero, List.getElem?_cons_succ, env_set0, env_setS, Option.bind_some, Option.map_some, if_true, Bool.false_eq_true, if_false, Nat.reduceAdd, Nat.reduceSub, sizeLine_eq, Nat.reduceLeDiff, Nat.zero_le, F_minus_eq, c1, d1, F_sign_eq]
  rfl
def wiB (a b c u X : P3) (m : Int) : Bool :=
  !((sgn (trI (scP m a) (scP m b) X u) == 1 || sgn (trI (scP m b) (scP m c) X u) == 1 || sgn (trI (scP m c) (scP m a) X u) == 1) && (sgn (trI (scP m a) (scP m b) X u) == -1 || sgn (trI (scP m b) (scP m c) X u) == -1 || sgn (trI (scP m c) (scP m a) X u) == -1))
theorem BdN.sc {n k : Nat} {p : P3} {m : Int} (h : BdN n p) (hm : Bd k m) : BdN (n + k) (scP m p) := ⟨h.1.mul hm, h.2.1.mul hm, h.2.2.mul hm⟩
theorem F_is_within_eq {a b c u X : P3} {m : Int} (b3 : BdN 500 a) (b4 : BdN 500 b) (b5 : BdN 500 c) (bu : BdN 1100 u) (bX : BdN 5000 X) (bm : Bd 4500 m) : F_is_within [triD a b c, en u, .tup [en X, .int m]] = .ok (.va (.bl (wiB a b c u X m))) := by
  have t1 := F_turn_eq (b3.sc bm) (b4.sc bm) bX bu (by decide)
  have t2 := F_turn_eq (b4.sc bm) (b5.sc bm) bX bu (by decide)
  have t3 := F_turn_eq (b5.sc bm) (b3.sc bm) bX bu (by decide)
  have sT : ∀ (x0 x1 x2 x3 x4 x5 x6 x7 x8 x9 : Lc), setT 2 (setCons (setN 3) (setCons (setN 4) setNil)) (.tup [en X, .int m]) [x0, x1, x2, x3, x4, x5, x6, x7, x8, x9] = some [x0, x1, x2, .d (en X), .d (.int m), x5, x6, x7, x8, x9] := fun _ _ _ _ _ _ _ _ _ _ => rfl
  have sT2 : ∀ (x0 x1 x2 x3 x4 x5 x6 x7 x8 x9 : Lc) (p q r : P3), setT 3 (setCons (setN 5) (setCons (setN 6) (setCons (setN 7) setNil))) (.lst [en p, en q, en r]) [x0, x1, x2, x3, x4, x5, x6, x7, x8, x9] = some [x0, x1, x2, x3, x4, .d (en p), .d (en q), .d (en r), x8, x9] := fun _ _ _ _ _ _ _ _ _ _ _ _ _ => rfl
  have sc : ∀ p : P3, BdN 500 p → mulD (.int p.1) (.int m) = some (.int (p.1 * m)) ∧ mulD (.int p.2.1) (.int m) = some (.int (p.2.1 * m)) ∧ mulD (.int p.2.2) (.int m) = some (.int (p.2.2 * m)) := fun p h =>
    ⟨mul_bd h.1 bm (by decide) (by decide) (by decide), mul_bd h.2.1 bm (by decide) (by decide) (by decide), mul_bd h.2.2 bm (by decide) (by decide) (by decide)⟩
  have lc : lcF (iterF (gb 0)) [8] (setN 8) yes (tupF (consF (bin mulD (bin ixD (gb 8) (kc (.int 0))) (gb 4)) (consF (bin mulD (bin ixD (gb 8) (kc (.int 1))) (gb 4)) (consF (bin mulD (bin ixD (gb 8) (kc (.int 2))) (gb 4)) nilF)))) [.d (triD a b c), .d (en u), .d (.tup [en X, .int m]), .d (en X), .d (.int m), .u, .u, .u, .u, .u] = .ok [en (scP m a), en (scP m b), en (scP m c)] := by
    refine (lcF_map (l := [a, b, c]) (en := en) (f := fun p => en (scP m p)) rfl (by show 3 < 16777216; decide) fun p hp => ?_).trans rfl
    have bp : BdN 500 p := by
      rcases List.mem_cons.mp hp with rfl | hp
      · exact b3
      rcases List.mem_cons.mp hp with rfl | hp
      · exact b4
      rcases List.mem_cons.mp hp with rfl | hp
      · exact b5
      · cases hp
    obtain ⟨m0, m1, m2⟩ := sc p bp
    simp only [bodyF, startE, seqS, stS, stO, rtS, roS, roV, asS, ifS, xpS, bin, un, unN, lstF, lsF, consF, nilF, tupF, kc, gv, gb, tst, andT, orT, notT, andV, orV, notV, ifV, callF, callN, iterF, rngF, walked, slF, noP, soP, setN, setT, setCons, setNil, wipeE, yes, forS, prS, Rz.bind_ok, q_ofO, q_ofN, q_bad, q_ex, q_exS, q_exX, q_exB, q_okB, q_nx, q_rt, q_ro, q_bk, q_ct, q_sx, q_anx, q_act, q_abk, q_art, q_bnx, q_brt, q_bro, q_bex, q_va, q_ow, q_boo, add_int, sub_int, lt_int, le_int, gt_int, ge_int, neg_int, List.map_cons, List.map_nil, List.length_cons, List.length_nil, List.nil_append, List.cons_append, List.replicate, List.getElem?_cons_zero, List.getElem?_cons_succ, env_set0, env_setS, Option.bind_some, Option.map_some, if_true, Bool.false_eq_true, if_false, Nat.reduceAdd, Nat.reduceSub, sizeLine_eq, Nat.reduceLeDiff, Nat.zero_le, List.foldl, en0, en1, en2, m0, m1, m2]
    rfl
  have i1 : ∀ x y z : Int, inD (.int 1) (.lst [.int x, .int y, .int z]) = some (.bl (x == 1 || (y == 1 || (z == 1 || false)))) := fun _ _ _ => rfl
  have i2 : ∀ x y z : Int, inD (.int (-1)) (.lst [.int x, .int y, .int z]) = some (.bl (x == -1 || (y == -1 || (z == -1 || false)))) := fun _ _ _ => rfl
  refine b_rt ?_
  unfold g_is_within
  refine (s_as (ε' := [.d (triD a b c), .d (en u), .d (.tup [en X, .int m]), .d (en X), .d (.int m), .u, .u, .u, .u, .u]) rfl (sT _ _ _ _ _ _ _ _ _ _)).trans ?_
  refine (s_as (ε' := [.d (triD a b c), .d (en u), .d (.tup [en X, .int m]), .d (en X), .d (.int m), .d (en (scP m a)), .d (en (scP m b)), .d (en (scP m c)), .u, .u]) (e_lst lc) (sT2 _ _ _ _ _ _ _ _ _ _ _ _ _)).trans ?_
  simp only [bodyF, startE, seqS, stS, stO, rtS, roS, roV, asS, ifS, xpS, bin, un, unN, lstF, lsF, consF, nilF, tupF, kc, gv, gb, tst, andT, orT, notT, andV, orV, notV, ifV, callF, callN, iterF, rngF, walked, slF, noP, soP, setN, setT, setCons, setNil, wipeE, yes, forS, prS, Rz.bind_ok, q_ofO, q_ofN, q_bad, q_ex, q_exS, q_exX, q_exB, q_okB, q_nx, q_rt, q_ro, q_bk, q_ct, q_sx, q_anx, q_act, q_abk, q_art, q_bnx, q_brt, q_bro, q_bex, q_va, q_ow, q_boo, add_int, sub_int, lt_int, le_int, gt_int, ge_int, neg_int, List.map_cons, List.map_nil, List.length_cons, List.length_nil, List.nil_append, List.cons_append, List.replicate, List.getElem?_cons_zero, List.getElem?_cons_succ, env_set0, env_setS, Option.bind_some, Option.map_some, if_true, Bool.false_eq_true, if_false, Nat.reduceAdd, Nat.reduceSub, sizeLine_eq, Nat.reduceLeDiff, Nat.zero_le, lsF, t1, t2, t3]
  generalize hx : sgn (trI (scP m a) (scP m b) X u) = x
  generalize hy : sgn (trI (scP m b) (scP m c) X u) = y
  generalize hz : sgn (trI (scP m c) (scP m a) X u) = z
  have fin : wiB a b c u X m = !((x == 1 || (y == 1 || (z == 1 || false))) && (x == -1 || (y == -1 || (z == -1 || false)))) := by
    unfold wiB
    rw [hx, hy, hz]
    simp only [Bool.or_false, Bool.or_assoc]
  rw [fin]
  cases hq : (x == 1 || (y == 1 || (z == 1 || false))) with
  | false => simp only [bodyF, startE, seqS, stS, stO, rtS, roS, roV, asS, ifS, xpS, bin, un, unN, lstF, lsF, consF, nilF, tupF, kc, gv, gb, tst, andT, orT, notT, andV, orV, notV, ifV, callF, callN, iterF, rngF, walked, slF, noP, soP, setN, setT, setCons, setNil, wipeE, yes, forS, prS, Rz.bind_ok, q_ofO, q_ofN, q_bad, q_ex, q_exS, q_exX, q_exB, q_okB, q_nx, q_rt, q_ro, q_bk, q_ct, q_sx, q_anx, q_act, q_abk, q_art, q_bnx, q_brt, q_bro, q_bex, q_va, q_ow, q_boo, add_int, sub_int, lt_int, le_int, gt_int, ge_int, neg_int, List.map_cons, List.map_nil, List.length_cons, List.length_nil, List.nil_append, List.cons_append, List.replicate, List.getElem?_cons_zero, List.getElem?_cons_succ, env_set0, env_setS, Option.bind_some, Option.map_some, if_true, Bool.false_eq_true, if_false, Nat.reduceAdd, Nat.reduceSub, sizeLine_eq, Nat.reduceLeDiff, Nat.zero_le, i1, hq, Bool.false_and, Bool.not_false]
  | true => simp only [bodyF, startE, seqS, stS, stO, rtS, roS, roV, asS, ifS, xpS, bin, un, unN, lstF, lsF, consF, nilF, tupF, kc, gv, gb, tst, andT, orT, notT, andV, orV, notV, ifV, callF, callN, iterF, rngF, walked, slF, noP, soP, setN, setT, setCons, setNil, wipeE, yes, forS, prS, Rz.bind_ok, q_ofO, q_ofN, q_bad, q_ex, q_exS, q_exX, q_exB, q_okB, q_nx, q_rt, q_ro, q_bk, q_ct, q_sx, q_anx, q_act, q_abk, q_art, q_bnx, q_brt, q_bro, q_bex, q_va, q_ow, q_boo, add_int, sub_int, lt_int, le_int, gt_int, ge_int, neg_int, List.map_cons, List.map_nil, List.length_cons, List.length_nil, List.nil_append, List.cons_append, List.replicate, List.getElem?_cons_zero, List.getElem?_cons_succ, env_set0, env_setS, Option.bind_some, Option.map_some, if_true, Bool.false_eq_true, if_false, Nat.reduceAdd, Nat.reduceSub, sizeLine_eq, Nat.reduceLeDiff, Nat.zero_le, i1, i2, hq, Bool.true_and]
/-! ### meets_triangle -/
def triR (s w a b c : P3) : Option Fr :=
  if upP a b c = (0, 0, 0) then flatR s w a b c
  else if dtP (upP a b c) w = 0 then (if dtP (upP a b c) (mnP a s) ≠ 0 then none else if wiB a b c (upP a b c) s 1 = true then some (0, 1) else flatR s w a b c)
  else if ¬ gle (0, 1) (rat (dtP (upP a b c) (mnP a s)) (dtP (upP a b c) w)) then none
  else if wiB a b c (upP a b c) (atP s w (rat (dtP (upP a b c) (mnP a s)) (dtP (upP a b c) w))) (rat (dtP (upP a b c) (mnP a s)) (dtP (upP a b c) w)).2 = true then some (rat (dtP (upP a b c) (mnP a s)) (dtP (upP a b c) w)) else none
theorem co_bd {n : Nat} {p : P3} (h : BdN n p) (k : Nat) : Bd n (co k p) := by
  match k with
  | 0 => exact h.1
  | 1 => exact h.2.1
  | k + 2 => exact h.2.2
theorem F_meets_triangle_eq {s w a b c : P3} (b1 : BdN 500 s) (b2 : BdN 2000 w) (b3 : BdN 500 a) (b4 : BdN 500 b) (b5 : BdN 500 c) (hw : w ≠ (0, 0, 0)) : F_meets_triangle [rayD s w, triD a b c] = .ok (.va (hiD (triR s w a b c))) := by
  have fl := F_meets_flat_eq b1 b2 b3 b4 b5 hw
  have bu : BdN 1003 (upP a b c) := (b4.mn b3).cr (b5.mn b3)
  have c1 := F_cross_eq (b4.mn b3) (b5.mn b3) (by decide) (by decide) (by decide)
  have d1 := F_dot_eq bu b2 (by decide) (by decide) (by decide)
  have d2 := F_dot_eq bu (b3.mn b1) (by decide) (by decide) (by decide)
  have sT : ∀ (x0 x1 x2 x3 x4 x5 x6 x7 x8 x9 x10 x11 x12 : Lc), setT 2 (setCons (setN 2) (setCons (setN 3) setNil)) (rayD s w) [x0, x1, x2, x3, x4, x5, x6, x7, x8, x9, x10, x11, x12] = some [x0, x1, .d (en s), .d (en w), x4, x5, x6, x7, x8, x9, x10, x11, x12] := fun _ _ _ _ _ _ _ _ _ _ _ _ _ => rfl
  have sT2 : ∀ (x0 x1 x2 x3 x4 x5 x6 x7 x8 x9 x10 x11 x12 : Lc), setT 3 (setCons (setN 4) (setCons (setN 5) (setCons (setN 6) setNil))) (triD a b c) [x0, x1, x2, x3, x4, x5, x6, x7, x8, x9, x10, x11, x12] = some [x0, x1, x2, x3, .d (en a), .d (en b), .d (en c), x7, x8, x9, x10, x11, x12] := fun _ _ _ _ _ _ _ _ _ _ _ _ _ => rfl
  refine b_rt ?_
  unfold g_meets_triangle
  refine (s_as (ε' := [.d (rayD s w), .d (triD a b c), .d (en s), .d (en w), .u, .u, .u, .u, .u, .u, .u, .u, .u]) rfl (sT _ _ _ _ _ _ _ _ _ _ _ _ _)).trans ?_
  refine (s_as (ε' := [.d (rayD s w), .d (triD a b c), .d (en s), .d (en w), .d (en a), .d (en b), .d (en c), .u, .u, .u, .u, .u, .u]) rfl (sT2 _ _ _ _ _ _ _ _ _ _ _ _ _)).trans ?_
  have cc : F_cross [en (mnP b a), en (mnP c a)] = .ok (.va (en (upP a b c))) := c1
  refine (s_st (d := en (upP a b c)) (by simp only [bodyF, startE, seqS, stS, stO, rtS, roS, roV, asS, ifS, xpS, bin, un, unN, lstF, lsF, consF, nilF, tupF, kc, gv, gb, tst, andT, orT, notT, andV, orV, notV, ifV, callF, callN, iterF, rngF, walked, slF, noP, soP, setN, setT, setCons, setNil, wipeE, yes, forS, prS, Rz.bind_ok, q_ofO, q_ofN, q_bad, q_ex, q_exS, q_exX, q_exB, q_okB, q_nx, q_rt, q_ro, q_bk, q_ct, q_sx, q_anx, q_act, q_abk, q_art, q_bnx, q_brt, q_bro, q_bex, q_va, q_ow, q_boo, add_int, sub_int, lt_int, le_int, gt_int, ge_int, neg_int, List.map_cons, List.map_nil, List.length_cons, List.length_nil, List.nil_append, List.cons_append, List.replicate, List.getElem?_cons_zero, List.getElem?_cons_succ, env_set0, env_setS, Option.bind_some, Option.map_some, if_true, Bool.false_eq_true, if_false, Nat.reduceAdd, Nat.reduceSub, sizeLine_eq, Nat.reduceLeDiff, Nat.zero_le, F_minus_eq, cc])).trans ?_
  unfold triR
  by_cases hu : upP a b c = (0, 0, 0)
  · rw [if_pos hu]
    simp only [bodyF, startE, seqS, stS, stO, rtS, roS, roV, asS, ifS, xpS, bin, un, unN, lstF, lsF, consF, nilF, tupF, kc, gv, gb, tst, andT, orT, notT, andV, orV, notV, ifV, callF, callN, iterF, rngF, walked, slF, noP, soP, setN, setT, setCons, setNil, wipeE, yes, forS, prS, Rz.bind_ok, q_ofO, q_ofN, q_bad, q_ex, q_exS, q_exX, q_exB, q_okB, q_nx, q_rt, q_ro, q_bk, q_ct, q_sx, q_anx, q_act, q_abk, q_art, q_bnx, q_brt, q_bro, q_bex, q_va, q_ow, q_boo, add_int, sub_int, lt_int, le_int, gt_int, ge_int, neg_int, List.map_cons, List.map_nil, List.length_cons, List.length_nil, List.nil_append, List.cons_append, List.replicate, List.getElem?_cons_zero, List.getElem?_cons_succ, env_set0, env_setS, Option.bind_some, Option.map_some, if_true, Bool.false_eq_true, if_false, Nat.reduceAdd, Nat.reduceSub, sizeLine_eq, Nat.reduceLeDiff, Nat.zero_le, eqz, decide_eq_true hu, fl]
  · rw [if_neg hu]
    refine (s_ifF (by simp only [bodyF, startE, seqS, stS, stO, rtS, roS, roV, asS, ifS, xpS, bin, un, unN, lstF, lsF, consF, nilF, tupF, kc, gv, gb, tst, andT, orT, notT, andV, orV, notV, ifV, callF, callN, iterF, rngF, walked, slF, noP, soP, setN, setT, setCons, setNil, wipeE, yes, forS, prS, Rz.bind_ok, q_ofO, q_ofN, q_bad, q_ex, q_exS, q_exX, q_exB, q_okB, q_nx, q_rt, q_ro, q_bk, q_ct, q_sx, q_anx, q_act, q_abk, q_art, q_bnx, q_brt, q_bro, q_bex, q_va, q_ow, q_boo, add_int, sub_int, lt_int, le_int, gt_int, ge_int, neg_int, List.map_cons, List.map_nil, List.length_cons, List.length_nil, List.nil_append, List.cons_append, List.replicate, List.getElem?_cons_zero, List.getElem?_cons_succ, env_set0, env_setS, Option.bind_some, Option.map_some, if_true, Bool.false_eq_true, if_false, Nat.reduceAdd, Nat.reduceSub, sizeLine_eq, Nat.reduceLeDiff, Nat.zero_le, eqz, decide_eq_false hu])).trans ?_
    refine (s_st (d := .int (dtP (upP a b c) w)) (c_1 (n := 2) rfl rfl d1 rfl)).trans ?_
    refine (s_st (d := .int (dtP (upP a b c) (mnP a s))) (by simp only [bodyF, startE, seqS, stS, stO, rtS, roS, roV, asS, ifS, xpS, bin, un, unN, lstF, lsF, consF, nilF, tupF, kc, gv, gb, tst, andT, orT, notT, andV, orV, notV, ifV, callF, callN, iterF, rngF, walked, slF, noP, soP, setN, setT, setCons, setNil, wipeE, yes, forS, prS, Rz.bind_ok, q_ofO, q_ofN, q_bad, q_ex, q_exS, q_exX, q_exB, q_okB, q_nx, q_rt, q_ro, q_bk, q_ct, q_sx, q_anx, q_act, q_abk, q_art, q_bnx, q_brt, q_bro, q_bex, q_va, q_ow, q_boo, add_int, sub_int, lt_int, le_int, gt_int, ge_int, neg_int, List.map_cons, List.map_nil, List.length_cons, List.length_nil, List.nil_append, List.cons_append, List.replicate, List.getElem?_cons_zero, List.getElem?_cons_succ, env_set0, env_setS, Option.bind_some, Option.map_some, if_true, Bool.false_eq_true, if_false, Nat.reduceAdd, Nat.reduceSub, sizeLine_eq, Nat.reduceLeDiff, Nat.zero_le, F_minus_eq, d2])).trans ?_
    by_cases h0 : dtP (upP a b c) w = 0
    · rw [if_pos h0]
      refine (s_ifT (by simp only [bodyF, startE, seqS, stS, stO, rtS, roS, roV, asS, ifS, xpS, bin, un, unN, lstF, lsF, consF, nilF, tupF, kc, gv, gb, tst, andT, orT, notT, andV, orV, notV, ifV, callF, callN, iterF, rngF, walked, slF, noP, soP, setN, setT, setCons, setNil, wipeE, yes, forS, prS, Rz.bind_ok, q_ofO, q_ofN, q_bad, q_ex, q_exS, q_exX, q_exB, q_okB, q_nx, q_rt, q_ro, q_bk, q_ct, q_sx, q_anx, q_act, q_abk, q_art, q_bnx, q_brt, q_bro, q_bex, q_va, q_ow, q_boo, add_int, sub_int, lt_int, le_int, gt_int, ge_int, neg_int, List.map_cons, List.map_nil, List.length_cons, List.length_nil, List.nil_append, List.cons_append, List.replicate, List.getElem?_cons_zero, List.getElem?_cons_succ, env_set0, env_setS, Option.bind_some, Option.map_some, if_true, Bool.false_eq_true, if_false, Nat.reduceAdd, Nat.reduceSub, sizeLine_eq, Nat.reduceLeDiff, Nat.zero_le, eqD_int, decide_eq_true h0])).trans ?_
      by_cases ht : dtP (upP a b c) (mnP a s) = 0
      · rw [if_neg (fun z => z ht)]
        have e0 : neD (.int (dtP (upP a b c) (mnP a s))) (.int 0) = some (.bl false) := by rw [neD_int, decide_eq_true ht]; rfl
        have wi := F_is_within_eq (X := s) (m := 1) b3 b4 b5 (bu.mono (by decide)) (b1.mono (by decide)) (Bd.mono (n := 1) (show (1 : Int).natAbs < 2 ^ 1 by decide) (by decide))
        by_cases hwi : wiB a b c (upP a b c) s 1 = true
        · rw [if_pos hwi]
          rw [hwi] at wi
          simp only [bodyF, startE, seqS, stS, stO, rtS, roS, roV, asS, ifS, xpS, bin, un, unN, lstF, lsF, consF, nilF, tupF, kc, gv, gb, tst, andT, orT, notT, andV, orV, notV, ifV, callF, callN, iterF, rngF, walked, slF, noP, soP, setN, setT, setCons, setNil, wipeE, yes, forS, prS, Rz.bind_ok, q_ofO, q_ofN, q_bad, q_ex, q_exS, q_exX, q_exB, q_okB, q_nx, q_rt, q_ro, q_bk, q_ct, q_sx, q_anx, q_act, q_abk, q_art, q_bnx, q_brt, q_bro, q_bex, q_va, q_ow, q_boo, add_int, sub_int, lt_int, le_int, gt_int, ge_int, neg_int, List.map_cons, List.map_nil, List.length_cons, List.length_nil, List.nil_append, List.cons_append, List.replicate, List.getElem?_cons_zero, List.getElem?_cons_succ, env_set0, env_setS, Option.bind_some, Option.map_some, if_true, Bool.false_eq_true, if_false, Nat.reduceAdd, Nat.reduceSub, sizeLine_eq, Nat.reduceLeDiff, Nat.zero_le, e0, wi]
          rfl
        · rw [if_neg hwi]
          rw [Bool.not_eq_true] at hwi
          rw [hwi] at wi
          simp only [bodyF, startE, seqS, stS, stO, rtS, roS, roV, asS, ifS, xpS, bin, un, unN, lstF, lsF, consF, nilF, tupF, kc, gv, gb, tst, andT, orT, notT, andV, orV, notV, ifV, callF, callN, iterF, rngF, walked, slF, noP, soP, setN, setT, setCons, setNil, wipeE, yes, forS, prS, Rz.bind_ok, q_ofO, q_ofN, q_bad, q_ex, q_exS, q_exX, q_exB, q_okB, q_nx, q_rt, q_ro, q_bk, q_ct, q_sx, q_anx, q_act, q_abk, q_art, q_bnx, q_brt, q_bro, q_bex, q_va, q_ow, q_boo, add_int, sub_int, lt_int, le_int, gt_int, ge_int, neg_int, List.map_cons, List.map_nil, List.length_cons, List.length_nil, List.nil_append, List.cons_append, List.replicate, List.getElem?_cons_zero, List.getElem?_cons_succ, env_set0, env_setS, Option.bind_some, Option.map_some, if_true, Bool.false_eq_true, if_false, Nat.reduceAdd, Nat.reduceSub, sizeLine_eq, Nat.reduceLeDiff, Nat.zero_le, e0, wi, fl]
      · rw [if_pos ht]
        have e0 : neD (.int (dtP (upP a b c) (mnP a s))) (.int 0) = some (.bl true) := by rw [neD_int, decide_eq_false ht]; rfl
        simp only [bodyF, startE, seqS, stS, stO, rtS, roS, roV, asS, ifS, xpS, bin, un, unN, lstF, lsF, consF, nilF, tupF, kc, gv, gb, tst, andT, orT, notT, andV, orV, notV, ifV, callF, callN, iterF, rngF, walked, slF, noP, soP, setN, setT, setCons, setNil, wipeE, yes, forS, prS, Rz.bind_ok, q_ofO, q_ofN, q_bad, q_ex, q_exS, q_exX, q_exB, q_okB, q_nx, q_rt, q_ro, q_bk, q_ct, q_sx, q_anx, q_act, q_abk, q_art, q_bnx, q_brt, q_bro, q_bex, q_va, q_ow, q_boo, add_int, sub_int, lt_int, le_int, gt_int, ge_int, neg_int, List.map_cons, List.map_nil, List.length_cons, List.length_nil, List.nil_append, List.cons_append, List.replicate, List.getElem?_cons_zero, List.getElem?_cons_succ, env_set0, env_setS, Option.bind_some, Option.map_some, if_true, Bool.false_eq_true, if_false, Nat.reduceAdd, Nat.reduceSub, sizeLine_eq, Nat.reduceLeDiff, Nat.zero_le, e0, hiD]
    · rw [if_neg h0]
      refine (s_ifF (by simp only [bodyF, startE, seqS, stS, stO, rtS, roS, roV, asS, ifS, xpS, bin, un, unN, lstF, lsF, consF, nilF, tupF, kc, gv, gb, tst, andT, orT, notT, andV, orV, notV, ifV, callF, callN, iterF, rngF, walked, slF, noP, soP, setN, setT, setCons, setNil, wipeE, yes, forS, prS, Rz.bind_ok, q_ofO, q_ofN, q_bad, q_ex, q_exS, q_exX, q_exB, q_okB, q_nx, q_rt, q_ro, q_bk, q_ct, q_sx, q_anx, q_act, q_abk, q_art, q_bnx, q_brt, q_bro, q_bex, q_va, q_ow, q_boo, add_int, sub_int, lt_int, le_int, gt_int, ge_int, neg_int, List.map_cons, List.map_nil, List.length_cons, List.length_nil, List.nil_append, List.cons_append, List.replicate, List.getElem?_cons_zero, List.getElem?_cons_succ, env_set0, env_setS, Option.bind_some, Option.map_some, if_true, Bool.false_eq_true, if_false, Nat.reduceAdd, Nat.reduceSub, sizeLine_eq, Nat.reduceLeDiff, Nat.zero_le, eqD_int, decide_eq_false h0])).trans ?_
      have bt : Bd 1506 (dtP (upP a b c) (mnP a s)) := bu.dt (b3.mn b1)
      have bn : Bd 3005 (dtP (upP a b c) w) := bu.dt b2
      have r := F_ratio_eq (t := dtP (upP a b c) (mnP a s)) (u := dtP (upP a b c) w) h0 bn (by decide)
      have rb1 : Bd 1506 (rat (dtP (upP a b c) (mnP a s)) (dtP (upP a b c) w)).1 := by
        obtain ⟨g1, g2, g3, g4⟩ := rat_g (t := dtP (upP a b c) (mnP a s)) h0
        have e1 : (dtP (upP a b c) (mnP a s)).natAbs = (rtg (dtP (upP a b c) (mnP a s)) (dtP (upP a b c) w)).natAbs * (rat (dtP (upP a b c) (mnP a s)) (dtP (upP a b c) w)).1.natAbs := by rw [← Int.natAbs_mul, ← g3]
        unfold Bd at bt ⊢
        exact Nat.lt_of_le_of_lt (by rw [e1]; exact Nat.le_mul_of_pos_left _ (by omega)) bt
      have rb2 : Bd 3005 (rat (dtP (upP a b c) (mnP a s)) (dtP (upP a b c) w)).2 := by
        obtain ⟨g1, g2, g3, g4⟩ := rat_g (t := dtP (upP a b c) (mnP a s)) h0
        have e1 : (dtP (upP a b c) w).natAbs = (rtg (dtP (upP a b c) (mnP a s)) (dtP (upP a b c) w)).natAbs * (rat (dtP (upP a b c) (mnP a s)) (dtP (upP a b c) w)).2.natAbs := by rw [← Int.natAbs_mul, ← g4]
        unfold Bd at bn ⊢
        exact Nat.lt_of_le_of_lt (by rw [e1]; exact Nat.le_mul_of_pos_left _ (by omega)) bn
      refine (s_st (d := fr (rat (dtP (upP a b c) (mnP a s)) (dtP (upP a b c) w))) (c_1 (n := 2) rfl rfl r rfl)).trans ?_
      generalize rat (dtP (upP a b c) (mnP a s)) (dtP (upP a b c) w) = x at rb1 rb2 ⊢
      have l := F_is_less_eq (x := x) (y := (0, 1)) (n := 8900) (rb1.mono (by decide)) (rb2.mono (by decide)) gt_01.b1 gt_01.b2 (by decide) (by decide)
      have l' : F_is_less [fr x, .tup [.int 0, .int 1]] = .ok (.va (.bl (!decide (gle (0, 1) x)))) := l
      by_cases hg : gle (0, 1) x
      · rw [if_neg (fun z => z hg)]
        refine (s_ifF (by simp only [bodyF, startE, seqS, stS, stO, rtS, roS, roV, asS, ifS, xpS, bin, un, unN, lstF, lsF, consF, nilF, tupF, kc, gv, gb, tst, andT, orT, notT, andV, orV, notV, ifV, callF, callN, iterF, rngF, walked, slF, noP, soP, setN, setT, setCons, setNil, wipeE, yes, forS, prS, Rz.bind_ok, q_ofO, q_ofN, q_bad, q_ex, q_exS, q_exX, q_exB, q_okB, q_nx, q_rt, q_ro, q_bk, q_ct, q_sx, q_anx, q_act, q_abk, q_art, q_bnx, q_brt, q_bro, q_bex, q_va, q_ow, q_boo, add_int, sub_int, lt_int, le_int, gt_int, ge_int, neg_int, List.map_cons, List.map_nil, List.length_cons, List.length_nil, List.nil_append, List.cons_append, List.replicate, List.getElem?_cons_zero, List.getElem?_cons_succ, env_set0, env_setS, Option.bind_some, Option.map_some, if_true, Bool.false_eq_true, if_false, Nat.reduceAdd, Nat.reduceSub, sizeLine_eq, Nat.reduceLeDiff, Nat.zero_le, l', decide_eq_true hg, Bool.not_true])).trans ?_
        have f0 : ixD (fr x) (.int 0) = some (.int x.1) := rfl
        have f1 : ixD (fr x) (.int 1) = some (.int x.2) := rfl
        have lc : lcF (rngF (kc (.int 3))) [12] (setN 12) yes (bin addD (bin mulD (bin ixD (gb 2) (gb 12)) (bin ixD (gb 10) (kc (.int 1)))) (bin mulD (bin ixD (gb 3) (gb 12)) (bin ixD (gb 10) (kc (.int 0))))) [.d (rayD s w), .d (triD a b c), .d (en s), .d (en w), .d (en a), .d (en b), .d (en c), .d (en (upP a b c)), .d (.int (dtP (upP a b c) w)), .d (.int (dtP (upP a b c) (mnP a s))), .d (fr x), .u, .u] = .ok [.int (atP s w x).1, .int (atP s w x).2.1, .int (atP s w x).2.2] := by
          refine (lcF_rng (n := 3) (f := fun j => .int (co j s * x.2 + co j w * x.1)) rfl (by decide) fun j hj => ?_).trans rfl
          have m1 := mul_bd (co_bd b1 j) rb2 (by decide) (by decide) (by decide)
          have m2 := mul_bd (co_bd b2 j) rb1 (by decide) (by decide) (by decide)
          simp only [bodyF, startE, seqS, stS, stO, rtS, roS, roV, asS, ifS, xpS, bin, un, unN, lstF, lsF, consF, nilF, tupF, kc, gv, gb, tst, andT, orT, notT, andV, orV, notV, ifV, callF, callN, iterF, rngF, walked, slF, noP, soP, setN, setT, setCons, setNil, wipeE, yes, forS, prS, Rz.bind_ok, q_ofO, q_ofN, q_bad, q_ex, q_exS, q_exX, q_exB, q_okB, q_nx, q_rt, q_ro, q_bk, q_ct, q_sx, q_anx, q_act, q_abk, q_art, q_bnx, q_brt, q_bro, q_bex, q_va, q_ow, q_boo, add_int, sub_int, lt_int, le_int, gt_int, ge_int, neg_int, List.map_cons, List.map_nil, List.length_cons, List.length_nil, List.nil_append, List.cons_append, List.replicate, List.getElem?_cons_zero, List.getElem?_cons_succ, env_set0, env_setS, Option.bind_some, Option.map_some, if_true, Bool.false_eq_true, if_false, Nat.reduceAdd, Nat.reduceSub, sizeLine_eq, Nat.reduceLeDiff, Nat.zero_le, List.foldl, en_ix _ j hj, f0, f1, m1, m2]
        refine (s_st (d := en (atP s w x)) (e_un (e_lst lc) rfl)).trans ?_
        have bX : BdN 5000 (atP s w x) := by
          have z : ∀ k, Bd 5000 (co k (atP s w x)) := fun k => by
            rw [co_at]
            exact ((((co_bd b1 k).mul rb2).mono (m := 3506) (by decide)).add ((co_bd b2 k).mul rb1)).mono (by decide)
          exact ⟨z 0, z 1, z 2⟩
        have wi := F_is_within_eq (X := atP s w x) (m := x.2) b3 b4 b5 (bu.mono (by decide)) bX (rb2.mono (by decide))
        by_cases hwi : wiB a b c (upP a b c) (atP s w x) x.2 = true
        · rw [if_pos hwi]
          rw [hwi] at wi
          simp only [bodyF, startE, seqS, stS, stO, rtS, roS, roV, asS, ifS, xpS, bin, un, unN, lstF, lsF, consF, nilF, tupF, kc, gv, gb, tst, andT, orT, notT, andV, orV, notV, ifV, callF, callN, iterF, rngF, walked, slF, noP, soP, setN, setT, setCons, setNil, wipeE, yes, forS, prS, Rz.bind_ok, q_ofO, q_ofN, q_bad, q_ex, q_exS, q_exX, q_exB, q_okB, q_nx, q_rt, q_ro, q_bk, q_ct, q_sx, q_anx, q_act, q_abk, q_art, q_bnx, q_brt, q_bro, q_bex, q_va, q_ow, q_boo, add_int, sub_int, lt_int, le_int, gt_int, ge_int, neg_int, List.map_cons, List.map_nil, List.length_cons, List.length_nil, List.nil_append, List.cons_append, List.replicate, List.getElem?_cons_zero, List.getElem?_cons_succ, env_set0, env_setS, Option.bind_some, Option.map_some, if_true, Bool.false_eq_true, if_false, Nat.reduceAdd, Nat.reduceSub, sizeLine_eq, Nat.reduceLeDiff, Nat.zero_le, f1, wi, hiD]
        · rw [if_neg hwi]
          rw [Bool.not_eq_true] at hwi
          rw [hwi] at wi
          simp only [bodyF, startE, seqS, stS, stO, rtS, roS, roV, asS, ifS, xpS, bin, un, unN, lstF, lsF, consF, nilF, tupF, kc, gv, gb, tst, andT, orT, notT, andV, orV, notV, ifV, callF, callN, iterF, rngF, walked, slF, noP, soP, setN, setT, setCons, setNil, wipeE, yes, forS, prS, Rz.bind_ok, q_ofO, q_ofN, q_bad, q_ex, q_exS, q_exX, q_exB, q_okB, q_nx, q_rt, q_ro, q_bk, q_ct, q_sx, q_anx, q_act, q_abk, q_art, q_bnx, q_brt, q_bro, q_bex, q_va, q_ow, q_boo, add_int, sub_int, lt_int, le_int, gt_int, ge_int, neg_int, List.map_cons, List.map_nil, List.length_cons, List.length_nil, List.nil_append, List.cons_append, List.replicate, List.getElem?_cons_zero, List.getElem?_cons_succ, env_set0, env_setS, Option.bind_some, Option.map_some, if_true, Bool.false_eq_true, if_false, Nat.reduceAdd, Nat.reduceSub, sizeLine_eq, Nat.reduceLeDiff, Nat.zero_le, f1, wi, hiD]
      · rw [if_pos hg]
        simp only [bodyF, startE, seqS, stS, stO, rtS, roS, roV, asS, ifS, xpS, bin, un, unN, lstF, lsF, consF, nilF, tupF, kc, gv, gb, tst, andT, orT, notT, andV, orV, notV, ifV, callF, callN, iterF, rngF, walked, slF, noP, soP, setN, setT, setCons, setNil, wipeE, yes, forS, prS, Rz.bind_ok, q_ofO, q_ofN, q_bad, q_ex, q_exS, q_exX, q_exB, q_okB, q_nx, q_rt, q_ro, q_bk, q_ct, q_sx, q_anx, q_act, q_abk, q_art, q_bnx, q_brt, q_bro, q_bex, q_va, q_ow, q_boo, add_int, sub_int, lt_int, le_int, gt_int, ge_int, neg_int, List.map_cons, List.map_nil, List.length_cons, List.length_nil, List.nil_append, List.cons_append, List.replicate, List.getElem?_cons_zero, List.getElem?_cons_succ, env_set0, env_setS, Option.bind_some, Option.map_some, if_true, Bool.false_eq_true, if_false, Nat.reduceAdd, Nat.reduceSub, sizeLine_eq, Nat.reduceLeDiff, Nat.zero_le, l', decide_eq_false hg, Bool.not_false, hiD]
end DL
end
section
set_option Elab.async false
set_option linter.all false
set_option maxRecDepth 100000
set_option maxHeartbeats 4000000
set_option autoImplicit false
namespace DL
variable [TbC]
open PySem
theorem turns {a b c u X : P3} {m : Int} : trI (scP m a) (scP m b) X u = m * dtP (crP (mnP b a) (mnP X (scP m a))) u ∧ trI (scP m c) (scP m a) X u = m * dtP (crP (mnP X (scP m a)) (mnP c a)) u ∧
    trI (scP m b) (scP m c) X u = m * (m * dtP (crP (mnP b a) (mnP c a)) u - dtP (crP (mnP X (scP m a)) (mnP c a)) u - dtP (crP (mnP b a) (mnP X (scP m a))) u) := by
  obtain ⟨a0, a1, a2⟩ := a
  obtain ⟨b0, b1, b2⟩ := b
  obtain ⟨c0, c1, c2⟩ := c
  obtain ⟨u0, u1, u2⟩ := u
  obtain ⟨x0, x1, x2⟩ := X
  refine ⟨?_, ?_, ?_⟩
  · simp only [trI, dtP, crP, mnP, scP]; grind
  · simp only [trI, dtP, crP, mnP, scP]; grind
  · simp only [trI, dtP, crP, mnP, scP]; grind
theorem sgn_1 {m x : Int} (hm : 0 < m) : (sgn (m * x) == 1) = decide (0 < x) := by
  unfold sgn
  rcases Int.lt_trichotomy x 0 with h | h | h
  · have := Int.mul_neg_of_pos_of_neg hm h
    rw [if_neg (by omega), if_pos this, decide_eq_false (by omega)]; rfl
  · subst h; rw [Int.mul_zero]; rfl
  · have := Int.mul_pos hm h
    rw [if_pos this, if_neg (by omega), decide_eq_true h]; rfl
theorem sgn_m {m x : Int} (hm : 0 < m) : (sgn (m * x) == -1) = decide (x < 0) := by
  unfold sgn
  rcases Int.lt_trichotomy x 0 with h | h | h
  · have := Int.mul_neg_of_pos_of_neg hm h
    rw [if_neg (by omega), if_pos this, decide_eq_true h]; rfl
  · subst h; rw [Int.mul_zero]; rfl
  · have := Int.mul_pos hm h
    rw [if_pos this, if_neg (by omega), decide_eq_false (by omega)]; rfl
theorem wiB_iff {a b c X : P3} {m : Int} (hm : 0 < m) (hu : upP a b c ≠ (0, 0, 0)) : wiB a b c (upP a b c) X m = true ↔ 0 ≤ shL X m a b c ∧ 0 ≤ shM X m a b c ∧ 0 ≤ shN X m a b c := by
  obtain ⟨t1, t2, t3⟩ := turns (a := a) (b := b) (c := c) (u := upP a b c) (X := X) (m := m)
  have e3 : m * dtP (crP (mnP b a) (mnP c a)) (upP a b c) - dtP (crP (mnP X (scP m a)) (mnP c a)) (upP a b c) - dtP (crP (mnP b a) (mnP X (scP m a))) (upP a b c) = shN X m a b c := rfl
  have e1 : dtP (crP (mnP b a) (mnP X (scP m a))) (upP a b c) = shM X m a b c := rfl
  have e2 : dtP (crP (mnP X (scP m a)) (mnP c a)) (upP a b c) = shL X m a b c := rfl
  rw [e3] at t3
  rw [e1] at t1
  rw [e2] at t2
  have hs : shN X m a b c + shL X m a b c + shM X m a b c = m * dtP (upP a b c) (upP a b c) := by unfold shN; omega
  have hp : 0 < m * dtP (upP a b c) (upP a b c) := Int.mul_pos hm (dt_pos hu)
  unfold wiB
  rw [t1, t2, t3, sgn_1 hm, sgn_1 hm, sgn_1 hm, sgn_m hm, sgn_m hm, sgn_m hm]
  rw [← hs] at hp
  generalize shN X m a b c = x at *
  generalize shL X m a b c = y at *
  generalize shM X m a b c = z at *
  simp only [Bool.not_eq_true', Bool.and_eq_false_iff, Bool.or_eq_false_iff, decide_eq_false_iff_not]
  omega
theorem tri_same {s w a b c : P3} {t x : Fr} (ht : 0 < t.2) (hx : 0 < x.2) (e : t.1 * x.2 = x.1 * t.2) (h : Tri (atP s w t) t.2 a b c) : Tri (atP s w x) x.2 a b c := by
  obtain ⟨α, β, γ, h1, h2, h3, h4, h⟩ := h
  refine ⟨α, β, γ, h1, h2, h3, h4, fun k => ?_⟩
  have q := h k
  rw [co_at] at q ⊢
  apply mul_cancel ht
  generalize α + β + γ = S at *
  generalize α * co k a + β * co k b + γ * co k c = V at *
  have : t.2 * (S * (co k s * x.2 + co k w * x.1)) = x.2 * (S * (co k s * t.2 + co k w * t.1)) := by grind
  rw [this, q]
  grind
theorem pl_at {s w a b c : P3} {t : Fr} : dtP (mnP (atP s w t) (scP t.2 a)) (upP a b c) = t.1 * dtP (upP a b c) w - t.2 * dtP (upP a b c) (mnP a s) := by
  generalize upP a b c = u
  obtain ⟨a0, a1, a2⟩ := a
  obtain ⟨s0, s1, s2⟩ := s
  obtain ⟨w0, w1, w2⟩ := w
  obtain ⟨u0, u1, u2⟩ := u
  simp only [dtP, mnP, atP, scP]
  grind
theorem shL_at {s w a b c : P3} {t : Fr} : shL (atP s w t) t.2 a b c = t.2 * shL s 1 a b c + t.1 * dtP (crP w (mnP c a)) (upP a b c) := by
  unfold shL
  generalize upP a b c = u
  generalize mnP c a = l
  obtain ⟨a0, a1, a2⟩ := a
  obtain ⟨s0, s1, s2⟩ := s
  obtain ⟨w0, w1, w2⟩ := w
  obtain ⟨u0, u1, u2⟩ := u
  obtain ⟨l0, l1, l2⟩ := l
  simp only [dtP, mnP, atP, scP, crP]
  grind
theorem shM_at {s w a b c : P3} {t : Fr} : shM (atP s w t) t.2 a b c = t.2 * shM s 1 a b c + t.1 * dtP (crP (mnP b a) w) (upP a b c) := by
  unfold shM
  generalize upP a b c = u
  generalize mnP b a = l
  obtain ⟨a0, a1, a2⟩ := a
  obtain ⟨s0, s1, s2⟩ := s
  obtain ⟨w0, w1, w2⟩ := w
  obtain ⟨u0, u1, u2⟩ := u
  obtain ⟨l0, l1, l2⟩ := l
  simp only [dtP, mnP, atP, scP, crP]
  grind
theorem shN_at {s w a b c : P3} {t : Fr} : shN (atP s w t) t.2 a b c = t.2 * shN s 1 a b c + t.1 * (- dtP (crP w (mnP c a)) (upP a b c) - dtP (crP (mnP b a) w) (upP a b c)) := by
  unfold shN
  rw [shL_at, shM_at]
  generalize shL s 1 a b c = x
  generalize shM s 1 a b c = y
  generalize dtP (upP a b c) (upP a b c) = z
  generalize dtP (crP w (mnP c a)) (upP a b c) = v
  generalize dtP (crP (mnP b a) w) (upP a b c) = q
  grind
theorem at_01 (s w : P3) : atP s w (0, 1) = s := ext3 fun k => by rw [co_at]; simp
theorem triR_spec {s w a b c : P3} (b1 : BdN 500 s) (b2 : BdN 2000 w) (b3 : BdN 500 a) (b4 : BdN 500 b) (b5 : BdN 500 c) (hw : w ≠ (0, 0, 0)) : Fst (fun t => Tri (atP s w t) t.2 a b c) (triR s w a b c) := by
  have fs := flat_spec b1 b2 b3 b4 b5 hw
  have sub : ∀ {X : P3} {m : Int}, ((Seg X m a b ∨ Seg X m b c) ∨ Seg X m c a) → Tri X m a b c := fun h => h.elim (fun h => h.elim tri_ab tri_bc) tri_ca
  unfold triR
  by_cases hu : upP a b c = (0, 0, 0)
  · rw [if_pos hu]
    exact fs.cong fun t _ _ => ⟨sub, tri_flat hu⟩
  · rw [if_neg hu]
    have inp : ∀ t : Fr, 0 < t.2 → Tri (atP s w t) t.2 a b c → t.1 * dtP (upP a b c) w = t.2 * dtP (upP a b c) (mnP a s) := fun t ht z => by
      have := (tri_in ht z).1
      unfold inPl at this
      rw [pl_at] at this
      omega
    by_cases h0 : dtP (upP a b c) w = 0
    · rw [if_pos h0]
      by_cases htp : dtP (upP a b c) (mnP a s) = 0
      · rw [if_neg (fun z => z htp)]
        have pl : ∀ t : Fr, inPl (atP s w t) t.2 a b c := fun t => by
          unfold inPl
          rw [pl_at, h0, htp, Int.mul_zero, Int.mul_zero]; rfl
        by_cases hwi : wiB a b c (upP a b c) s 1 = true
        · rw [if_pos hwi]
          refine ⟨fun x e => ?_, fun x e t h1 h2 _ => by cases e; unfold gle; simp; exact h2, fun e => (nomatch e)⟩
          cases e
          refine ⟨gt_01, Int.le_refl _, ?_⟩
          obtain ⟨q1, q2, q3⟩ := (wiB_iff (by decide) hu).mp hwi
          have p := pl (0, 1)
          show Tri (atP s w (0, 1)) 1 a b c
          rw [at_01] at p ⊢
          exact in_tri (by decide) hu p q1 q2 q3
        · rw [if_neg hwi]
          have back : ∀ t : Fr, 0 < t.2 → 0 ≤ t.1 → Tri (atP s w t) t.2 a b c → ∃ x : Fr, 0 < x.2 ∧ 0 ≤ x.1 ∧ gle x t ∧ ((Seg (atP s w x) x.2 a b ∨ Seg (atP s w x) x.2 b c) ∨ Seg (atP s w x) x.2 c a) := fun t h1 h2 z => by
            obtain ⟨_, y1, y2, y3⟩ := tri_in h1 z
            rw [shL_at] at y1
            rw [shM_at] at y2
            rw [shN_at] at y3
            have neg : shL s 1 a b c < 0 ∨ shM s 1 a b c < 0 ∨ shN s 1 a b c < 0 := by
              have : ¬ (0 ≤ shL s 1 a b c ∧ 0 ≤ shM s 1 a b c ∧ 0 ≤ shN s 1 a b c) := fun q => hwi ((wiB_iff (by decide) hu).mpr q)
              omega
            obtain ⟨i, hi, i1, i2, i3⟩ := last_up (fun i => if i = 0 then shL s 1 a b c else if i = 1 then shM s 1 a b c else shN s 1 a b c)
              (fun i => if i = 0 then dtP (crP w (mnP c a)) (upP a b c) else if i = 1 then dtP (crP (mnP b a) w) (upP a b c) else - dtP (crP w (mnP c a)) (upP a b c) - dtP (crP (mnP b a) w) (upP a b c)) h1 h2 3
              (fun i hi => by
                match i, hi with
                | 0, _ => exact y1
                | 1, _ => exact y2
                | 2, _ => exact y3)
              (by
                rcases neg with n | n | n
                · exact ⟨0, by decide, n⟩
                · exact ⟨1, by decide, n⟩
                · exact ⟨2, by decide, n⟩)
            have j0 := i3 0 (by decide)
            have j1 := i3 1 (by decide)
            have j2 := i3 2 (by decide)
            have fin : ∀ f g : Int, f < 0 → 0 < g → 0 ≤ t.2 * f + t.1 * g → 0 ≤ g * shL s 1 a b c - f * dtP (crP w (mnP c a)) (upP a b c) → 0 ≤ g * shM s 1 a b c - f * dtP (crP (mnP b a) w) (upP a b c) → 0 ≤ g * shN s 1 a b c - f * (- dtP (crP w (mnP c a)) (upP a b c) - dtP (crP (mnP b a) w) (upP a b c)) →
                (g * shN s 1 a b c - f * (- dtP (crP w (mnP c a)) (upP a b c) - dtP (crP (mnP b a) w) (upP a b c)) = 0 ∨ g * shL s 1 a b c - f * dtP (crP w (mnP c a)) (upP a b c) = 0 ∨ g * shM s 1 a b c - f * dtP (crP (mnP b a) w) (upP a b c) = 0) →
                ∃ x : Fr, 0 < x.2 ∧ 0 ≤ x.1 ∧ gle x t ∧ ((Seg (atP s w x) x.2 a b ∨ Seg (atP s w x) x.2 b c) ∨ Seg (atP s w x) x.2 c a) := fun f g hf hg h3 k1 k2 k3 k4 => by
              have s1 : shL (atP s w (-f, g)) g a b c = g * shL s 1 a b c - f * dtP (crP w (mnP c a)) (upP a b c) := by
                have := shL_at (s := s) (w := w) (a := a) (b := b) (c := c) (t := (-f, g))
                rw [this, Int.neg_mul]; rfl
              have s2 : shM (atP s w (-f, g)) g a b c = g * shM s 1 a b c - f * dtP (crP (mnP b a) w) (upP a b c) := by
                have := shM_at (s := s) (w := w) (a := a) (b := b) (c := c) (t := (-f, g))
                rw [this, Int.neg_mul]; rfl
              have s3 : shN (atP s w (-f, g)) g a b c = g * shN s 1 a b c - f * (- dtP (crP w (mnP c a)) (upP a b c) - dtP (crP (mnP b a) w) (upP a b c)) := by
                have := shN_at (s := s) (w := w) (a := a) (b := b) (c := c) (t := (-f, g))
                rw [this, Int.neg_mul]; rfl
              refine ⟨(-f, g), hg, by show 0 ≤ -f; omega, ?_, on_edge hg hu (pl (-f, g)) (by rw [s1]; exact k1) (by rw [s2]; exact k2) (by rw [s3]; exact k3) (by rw [s1, s2, s3]; exact k4)⟩
              show -f * t.2 ≤ t.1 * g
              rw [Int.neg_mul, Int.mul_comm f]
              omega
            match i, hi with
            | 0, _ => exact fin _ _ i1 i2 y1 j0 j1 j2 (.inr (.inl (by rw [Int.mul_comm]; exact Int.sub_self _)))
            | 1, _ => exact fin _ _ i1 i2 y2 j0 j1 j2 (.inr (.inr (by rw [Int.mul_comm]; exact Int.sub_self _)))
            | 2, _ => exact fin _ _ i1 i2 y3 j0 j1 j2 (.inl (by rw [Int.mul_comm]; exact Int.sub_self _))
          refine ⟨fun x e => ⟨(fs.g x e).1, (fs.g x e).2.1, sub (fs.g x e).2.2⟩, fun x e t h1 h2 z => ?_, fun e t h1 h2 z => ?_⟩
          · obtain ⟨y, y1, y2, y3, y4⟩ := back t h1 h2 z
            exact gle_trans (fs.g x e).1.pos y1 h1 (fs.least x e y y1 y2 y4) y3
          · obtain ⟨y, y1, y2, y3, y4⟩ := back t h1 h2 z
            exact fs.no e y y1 y2 y4
      · rw [if_pos htp]
        refine ⟨fun _ e => (nomatch e), fun _ e => (nomatch e), fun _ t h1 h2 z => ?_⟩
        have := inp t h1 z
        rw [h0, Int.mul_zero] at this
        rcases Int.mul_eq_zero.mp this.symm with q | q
        · omega
        · exact htp q
    · rw [if_neg h0]
      have bu : BdN 1003 (upP a b c) := (b4.mn b3).cr (b5.mn b3)
      have gx : Gt (rat (dtP (upP a b c) (mnP a s)) (dtP (upP a b c) w)) := gt_rat h0 ((bu.dt (b3.mn b1)).mono (by decide)) ((bu.dt b2).mono (by decide))
      obtain ⟨g1, g2, g3, g4⟩ := rat_g (t := dtP (upP a b c) (mnP a s)) h0
      have eqv : ∀ t : Fr, 0 < t.2 → Tri (atP s w t) t.2 a b c → t.1 * (rat (dtP (upP a b c) (mnP a s)) (dtP (upP a b c) w)).2 = (rat (dtP (upP a b c) (mnP a s)) (dtP (upP a b c) w)).1 * t.2 := fun t ht z => by
        have e := inp t ht z
        generalize rat (dtP (upP a b c) (mnP a s)) (dtP (upP a b c) w) = r at g3 g4 ⊢
        generalize rtg (dtP (upP a b c) (mnP a s)) (dtP (upP a b c) w) = d at g1 g2 g3 g4
        rw [g3, g4] at e
        have : d * (t.1 * r.2) = d * (r.1 * t.2) := by grind
        exact Int.eq_of_mul_eq_mul_left g1 this
      have plx : inPl (atP s w (rat (dtP (upP a b c) (mnP a s)) (dtP (upP a b c) w))) (rat (dtP (upP a b c) (mnP a s)) (dtP (upP a b c) w)).2 a b c := by
        unfold inPl
        rw [pl_at]
        generalize rat (dtP (upP a b c) (mnP a s)) (dtP (upP a b c) w) = r at g3 g4 ⊢
        generalize rtg (dtP (upP a b c) (mnP a s)) (dtP (upP a b c) w) = d at g1 g2 g3 g4
        rw [g3, g4]
        grind
      generalize rat (dtP (upP a b c) (mnP a s)) (dtP (upP a b c) w) = x at gx eqv plx ⊢
      have ge : gle (0, 1) x ↔ 0 ≤ x.1 := by unfold gle; simp
      by_cases hg : gle (0, 1) x
      · rw [if_neg (fun z => z hg)]
        by_cases hwi : wiB a b c (upP a b c) (atP s w x) x.2 = true
        · rw [if_pos hwi]
          refine ⟨fun y e => ?_, fun y e t h1 h2 z => ?_, fun e => (nomatch e)⟩
          · cases e
            obtain ⟨q1, q2, q3⟩ := (wiB_iff gx.pos hu).mp hwi
            exact ⟨gx, ge.mp hg, in_tri gx.pos hu plx q1 q2 q3⟩
          · cases e
            have := eqv t h1 z
            unfold gle
            omega
        · rw [if_neg hwi]
          refine ⟨fun _ e => (nomatch e), fun _ e => (nomatch e), fun _ t h1 h2 z => hwi ?_⟩
          have tx := tri_same h1 gx.pos (eqv t h1 z) z
          exact (wiB_iff gx.pos hu).mpr (tri_in gx.pos tx).2
      · rw [if_pos hg]
        refine ⟨fun _ e => (nomatch e), fun _ e => (nomatch e), fun _ t h1 h2 z => hg (ge.mpr ?_)⟩
        have e := eqv t h1 z
        rcases Int.lt_or_le x.1 0 with q | q
        · have m1 : x.1 * t.2 < 0 := Int.mul_neg_of_neg_of_pos q h1
          have m2 : 0 ≤ t.1 * x.2 := Int.mul_nonneg h2 (Int.le_of_lt gx.pos)
          omega
        · exact q
end DL
end
section
set_option Elab.async false
set_option linter.all false
set_option maxRecDepth 100000
set_option maxHeartbeats 4000000
set_option autoImplicit false
namespace DL
variable [TbC]
open PySem
theorem F_meets_tri_ok {s w a b c : P3} (hw : w ≠ (0, 0, 0)) {d : Dt} (hb : F_meets_triangle [rayD s w, triD a b c] = .ok (.va d)) : F_meets [rayD s w, .tup [.str "triangle", en a, en b, en c]] = .ok (.va d) := by
  have j0 : ∀ x y z u : Dt, ixD (.tup [x, y, z, u]) (.int 0) = some x := fun _ _ _ _ => rfl
  have r1 : ixD (rayD s w) (.int 1) = some (en w) := rfl
  have e1 : eqD (en w) (.tup [.int 0, .int 0, .int 0]) = some (.bl false) := by rw [eqz, decide_eq_false hw]
  have e2 : eqD (.str "triangle") (.str "box") = some (.bl false) := by
    rw [eqD_of (n := 0) (by decide +kernel) (by decide +kernel) (by decide), eqq_str]
    rfl
  have e3 : neD (.str "triangle") (.str "triangle") = some (.bl false) := by
    rw [neD_of (n := 0) (by decide +kernel) (by decide +kernel) (by decide), eqq_str]
    rfl
  have e4 : lenD (.tup [.str "triangle", en a, en b, en c]) = some (.int 4) := rfl
  have e5 : neD (.int 4) (.int 4) = some (.bl false) := by rw [neD_int]; rfl
  have nr : F_need_ray [rayD s w] = .ok (.va .non) := by
    simp only [F_need_ray, g_need_ray, bodyF, startE, seqS, stS, stO, rtS, roS, roV, asS, ifS, xpS, bin, un, unN, lstF, lsF, consF, nilF, tupF, kc, gv, gb, tst, andT, orT, notT, andV, orV, notV, ifV, callF, callN, iterF, rngF, walked, slF, noP, soP, setN, setT, setCons, setNil, wipeE, yes, forS, prS, Rz.bind_ok, q_ofO, q_ofN, q_bad, q_ex, q_exS, q_exX, q_exB, q_okB, q_nx, q_rt, q_ro, q_bk, q_ct, q_sx, q_anx, q_act, q_abk, q_art, q_bnx, q_brt, q_bro, q_bex, q_va, q_ow, q_boo, add_int, sub_int, lt_int, le_int, gt_int, ge_int, neg_int, List.map_cons, List.map_nil, List.length_cons, List.length_nil, List.nil_append, List.cons_append, List.replicate, List.getElem?_cons_zero, List.getElem?_cons_succ, env_set0, env_setS, Option.bind_some, Option.map_some, if_true, Bool.false_eq_true, if_false, Nat.reduceAdd, Nat.reduceSub, sizeLine_eq, Nat.reduceLeDiff, Nat.zero_le, r1, e1]
  have ns : F_need_shape [.tup [.str "triangle", en a, en b, en c]] = .ok (.va .non) := by
    simp only [F_need_shape, g_need_shape, bodyF, startE, seqS, stS, stO, rtS, roS, roV, asS, ifS, xpS, bin, un, unN, lstF, lsF, consF, nilF, tupF, kc, gv, gb, tst, andT, orT, notT, andV, orV, notV, ifV, callF, callN, iterF, rngF, walked, slF, noP, soP, setN, setT, setCons, setNil, wipeE, yes, forS, prS, Rz.bind_ok, q_ofO, q_ofN, q_bad, q_ex, q_exS, q_exX, q_exB, q_okB, q_nx, q_rt, q_ro, q_bk, q_ct, q_sx, q_anx, q_act, q_abk, q_art, q_bnx, q_brt, q_bro, q_bex, q_va, q_ow, q_boo, add_int, sub_int, lt_int, le_int, gt_int, ge_int, neg_int, List.map_cons, List.map_nil, List.length_cons, List.length_nil, List.nil_append, List.cons_append, List.replicate, List.getElem?_cons_zero, List.getElem?_cons_succ, env_set0, env_setS, Option.bind_some, Option.map_some, if_true, Bool.false_eq_true, if_false, Nat.reduceAdd, Nat.reduceSub, sizeLine_eq, Nat.reduceLeDiff, Nat.zero_le, j0, e2, e3, e4, e5]
  have sl : slD (.tup [.str "triangle", en a, en b, en c]) (some 1) none = some (triD a b c) := rfl
  simp only [F_meets, g_meets, bodyF, startE, seqS, stS, stO, rtS, roS, roV, asS, ifS, xpS, bin, un, unN, lstF, lsF, consF, nilF, tupF, kc, gv, gb, tst, andT, orT, notT, andV, orV, notV, ifV, callF, callN, iterF, rngF, walked, slF, noP, soP, setN, setT, setCons, setNil, wipeE, yes, forS, prS, Rz.bind_ok, q_ofO, q_ofN, q_bad, q_ex, q_exS, q_exX, q_exB, q_okB, q_nx, q_rt, q_ro, q_bk, q_ct, q_sx, q_anx, q_act, q_abk, q_art, q_bnx, q_brt, q_bro, q_bex, q_va, q_ow, q_boo, add_int, sub_int, lt_int, le_int, gt_int, ge_int, neg_int, List.map_cons, List.map_nil, List.length_cons, List.length_nil, List.nil_append, List.cons_append, List.replicate, List.getElem?_cons_zero, List.getElem?_cons_succ, env_set0, env_setS, Option.bind_some, Option.map_some, if_true, Bool.false_eq_true, if_false, Nat.reduceAdd, Nat.reduceSub, sizeLine_eq, Nat.reduceLeDiff, Nat.zero_le, nr, ns, j0, e2, sl, hb]
end DL
end
section
set_option Elab.async false
set_option linter.all false
set_option maxRecDepth 100000
set_option maxHeartbeats 4000000
set_option autoImplicit false
namespace DL
variable [TbC]
open PySem
def loP (ps : List P3) : P3 := (minL (ps.map (co 0)), minL (ps.map (co 1)), minL (ps.map (co 2)))
def hiP (ps : List P3) : P3 := (maxL (ps.map (co 0)), maxL (ps.map (co 1)), maxL (ps.map (co 2)))
theorem minD_ints {ns : List Int} (h : ns ≠ []) : minD (.lst (ns.map .int)) = some (.int (minL ns)) := by
  show (asI (ns.map .int)).bind _ = _
  rw [ints_map, Option.bind_some, if_neg h]
theorem maxD_ints {ns : List Int} (h : ns ≠ []) : maxD (.lst (ns.map .int)) = some (.int (maxL ns)) := by
  show (asI (ns.map .int)).bind _ = _
  rw [ints_map, Option.bind_some, if_neg h]
theorem F_box_around_eq {ps : List P3} (h0 : ps ≠ []) (hl : ps.length < 16777216) : F_box_around [.lst (ps.map en)] = .ok (.va (.tup [en (loP ps), en (hiP ps)])) := by
  have hne : ∀ k, ps.map (co k) ≠ [] := fun k => by
    cases ps with
    | nil => exact absurd rfl h0
    | cons a l => rw [List.map_cons]; exact List.cons_ne_nil _ _
  have inner : ∀ (ε : Ev) (k : Nat), k < 3 → ε[0]? = some (.d (.lst (ps.map en))) → (ε[3]? = some (.d (.int k))) → 4 ≤ ε.length → lcF (iterF (gb 0)) [2] (setN 2) yes (bin ixD (gb 2) (gb 3)) ε = .ok ((ps.map (co k)).map .int) := fun ε k hk e0 e3 hε => by
    rw [List.map_map]
    refine lcF_map (l := ps) (en := en) ?_ hl fun p hp => ?_
    · unfold iterF
      rw [q_gb e0]
      rfl
    · have g2 : gb 2 (List.set (wipeE ε [2]) 2 (.d (en p))) = .ok (en p) := q_gb (by
        show (List.set (List.set ε 2 Lc.u) 2 _)[2]? = _
        rw [List.getElem?_set_self (by rw [List.length_set]; omega)])
      have g3 : gb 3 (List.set (wipeE ε [2]) 2 (.d (en p))) = .ok (.int k) := q_gb (by
        show (List.set (List.set ε 2 Lc.u) 2 _)[3]? = _
        rw [List.getElem?_set_ne (by decide), List.getElem?_set_ne (by decide), e3])
      unfold bin
      rw [g2, Rz.bind_ok, g3, Rz.bind_ok, en_ix p k hk]
      rfl
  have lo : ∀ ε : Ev, ε[0]? = some (.d (.lst (ps.map en))) → 4 ≤ ε.length → lcF (rngF (kc (.int 3))) [3] (setN 3) yes (un minD (lstF (lcF (iterF (gb 0)) [2] (setN 2) yes (bin ixD (gb 2) (gb 3))))) ε = .ok [.int (minL (ps.map (co 0))), .int (minL (ps.map (co 1))), .int (minL (ps.map (co 2)))] := fun ε e0 hε => by
    rw [← range3 fun k => Dt.int (minL (ps.map (co k)))]
    refine lcF_rng (n := 3) rfl (by decide) fun k hk => ?_
    unfold un lstF
    rw [inner _ k hk (by
        show (List.set (List.set ε 3 Lc.u) 3 _)[0]? = _
        rw [List.getElem?_set_ne (by decide), List.getElem?_set_ne (by decide), e0]) (by
        show (List.set (List.set ε 3 Lc.u) 3 _)[3]? = _
        rw [List.getElem?_set_self (by rw [List.length_set]; omega)]) (by
        show 4 ≤ (List.set (List.set ε 3 Lc.u) 3 _).length
        rw [List.length_set, List.length_set]; omega)]
    rw [Rz.bind_ok, Rz.bind_ok, minD_ints (hne k)]
    rfl
  have hi : ∀ ε : Ev, ε[0]? = some (.d (.lst (ps.map en))) → 4 ≤ ε.length → lcF (rngF (kc (.int 3))) [3] (setN 3) yes (un maxD (lstF (lcF (iterF (gb 0)) [2] (setN 2) yes (bin ixD (gb 2) (gb 3))))) ε = .ok [.int (maxL (ps.map (co 0))), .int (maxL (ps.map (co 1))), .int (maxL (ps.map (co 2)))] := fun ε e0 hε => by
    rw [← range3 fun k => Dt.int (maxL (ps.map (co k)))]
    refine lcF_rng (n := 3) rfl (by decide) fun k hk => ?_
    unfold un lstF
    rw [inner _ k hk (by
        show (List.set (List.set ε 3 Lc.u) 3 _)[0]? = _
        rw [List.getElem?_set_ne (by decide), List.getElem?_set_ne (by decide), e0]) (by
        show (List.set (List.set ε 3 Lc.u) 3 _)[3]? = _
        rw [List.getElem?_set_self (by rw [List.length_set]; omega)]) (by
        show 4 ≤ (List.set (List.set ε 3 Lc.u) 3 _).length
        rw [List.length_set, List.length_set]; omega)]
    rw [Rz.bind_ok, Rz.bind_ok, maxD_ints (hne k)]
    rfl
  simp only [F_box_around, g_box_around, bodyF, startE, seqS, stS, un, lstF, List.map_cons, List.map_nil, List.cons_append, List.nil_append, List.length_cons, List.length_nil, Nat.reduceAdd, Nat.reduceSub, List.replicate]
  rw [lo [.d (.lst (ps.map en)), .u, .u, .u] rfl (Nat.le_refl 4)]
  simp only [Rz.bind_ok, tupD_lst, q_ofO, q_exS, q_okB, q_nx, env_set0, env_setS, rtS, tupF, consF, nilF, un, lstF]
  rw [hi [.d (.lst (ps.map en)), _, .u, .u] rfl (Nat.le_refl 4)]
  simp only [Rz.bind_ok, tupD_lst, q_ofO, q_exS, q_okB, gv, List.getElem?_cons_zero, List.getElem?_cons_succ, q_brt]
  rfl
theorem F_bounds_eq {s : Str} {ps : List P3} (h0 : ps ≠ []) (hl : ps.length < 16777216) : F_bounds [.tup (.str s :: ps.map en)] = .ok (.va (.tup [en (loP ps), en (hiP ps)])) := by
  have h1 : slD (.tup (.str s :: ps.map en)) (some 1) none = some (.tup (ps.map en)) := by
    have e1 : HT.sIx (Dt.str s :: ps.map en).length 0 (some 1) = 1 := by
      simp only [List.length_cons, List.length_map]
      cases ps with
      | nil => exact absurd rfl h0
      | cons a l => simp only [List.length_cons]; unfold HT.sIx; simp
    have e2 : HT.sIx (Dt.str s :: ps.map en).length (Dt.str s :: ps.map en).length none = (Dt.str s :: ps.map en).length := rfl
    show (if HT.sIx (Dt.str s :: ps.map en).length 0 (some 1) = 0 ∧ HT.sIx (Dt.str s :: ps.map en).length (Dt.str s :: ps.map en).length none = (Dt.str s :: ps.map en).length then none else some (Dt.tup (cutG (Dt.str s :: ps.map en) (some 1) none))) = _
    rw [if_neg (by rw [e1]; omega)]
    unfold cutG
    rw [e1, e2, List.drop_one, List.tail_cons, List.length_cons, Nat.add_sub_cancel, List.take_length]
  simp only [F_bounds, g_bounds, bodyF, startE, seqS, stS, stO, rtS, roS, roV, asS, ifS, xpS, bin, un, unN, lstF, lsF, consF, nilF, tupF, kc, gv, gb, tst, andT, orT, notT, andV, orV, notV, ifV, callF, callN, iterF, rngF, walked, slF, noP, soP, setN, setT, setCons, setNil, wipeE, yes, forS, prS, Rz.bind_ok, q_ofO, q_ofN, q_bad, q_ex, q_exS, q_exX, q_exB, q_okB, q_nx, q_rt, q_ro, q_bk, q_ct, q_sx, q_anx, q_act, q_abk, q_art, q_bnx, q_brt, q_bro, q_bex, q_va, q_ow, q_boo, add_int, sub_int, lt_int, le_int, gt_int, ge_int, neg_int, List.map_cons, List.map_nil, List.length_cons, List.length_nil, List.nil_append, List.cons_append, List.replicate, List.getElem?_cons_zero, List.getElem?_cons_succ, env_set0, env_setS, Option.bind_some, Option.map_some, if_true, Bool.false_eq_true, if_false, Nat.reduceAdd, Nat.reduceSub, sizeLine_eq, Nat.reduceLeDiff, Nat.zero_le, h1]
  have h2 : listD (.tup (ps.map en)) = some (ps.map en) := rfl
  simp only [bodyF, startE, seqS, stS, stO, rtS, roS, roV, asS, ifS, xpS, bin, un, unN, lstF, lsF, consF, nilF, tupF, kc, gv, gb, tst, andT, orT, notT, andV, orV, notV, ifV, callF, callN, iterF, rngF, walked, slF, noP, soP, setN, setT, setCons, setNil, wipeE, yes, forS, prS, Rz.bind_ok, q_ofO, q_ofN, q_bad, q_ex, q_exS, q_exX, q_exB, q_okB, q_nx, q_rt, q_ro, q_bk, q_ct, q_sx, q_anx, q_act, q_abk, q_art, q_bnx, q_brt, q_bro, q_bex, q_va, q_ow, q_boo, add_int, sub_int, lt_int, le_int, gt_int, ge_int, neg_int, List.map_cons, List.map_nil, List.length_cons, List.length_nil, List.nil_append, List.cons_append, List.replicate, List.getElem?_cons_zero, List.getElem?_cons_succ, env_set0, env_setS, Option.bind_some, Option.map_some, if_true, Bool.false_eq_true, if_false, Nat.reduceAdd, Nat.reduceSub, sizeLine_eq, Nat.reduceLeDiff, Nat.zero_le, h2, F_box_around_eq h0 hl]
end DL
end
section
set_option Elab.async false
set_option linter.all false
set_option maxRecDepth 100000
set_option maxHeartbeats 4000000
set_option autoImplicit false
namespace DL
variable [TbC]
open PySem
/-! ### a box's sides -/
def bxP (l h : P3) (σ : Nat) : P3 := if σ = 0 then l else h
def corP (l h : P3) (k σ o1 o2 : Nat) : P3 :=
  if k = 0 then ((bxP l h σ).1, (bxP l h o1).2.1, (bxP l h o2).2.2)
  else if k = 1 then ((bxP l h o2).1, (bxP l h σ).2.1, (bxP l h o1).2.2)
  else ((bxP l h o1).1, (bxP l h o2).2.1, (bxP l h σ).2.2)
/-- a place in a rectangle is in one of its halves -/
theorem rect {m li hi lj hj x y : Int} (hm : 0 < m) (h1 : li ≤ hi) (h2 : lj ≤ hj) (x1 : li * m ≤ x) (x2 : x ≤ hi * m) (y1 : lj * m ≤ y) (y2 : y ≤ hj * m) :
    (∃ α β γ : Int, 0 ≤ α ∧ 0 ≤ β ∧ 0 ≤ γ ∧ 0 < α + β + γ ∧ (α + β + γ) * x = m * (α * li + β * hi + γ * hi) ∧ (α + β + γ) * y = m * (α * lj + β * lj + γ * hj)) ∨
    (∃ α β γ : Int, 0 ≤ α ∧ 0 ≤ β ∧ 0 ≤ γ ∧ 0 < α + β + γ ∧ (α + β + γ) * x = m * (α * li + β * hi + γ * li) ∧ (α + β + γ) * y = m * (α * lj + β * hj + γ * hj)) := by
  obtain ⟨u, hu⟩ : ∃ u, u = x - li * m := ⟨_, rfl⟩
  obtain ⟨v, hv⟩ : ∃ v, v = y - lj * m := ⟨_, rfl⟩
  obtain ⟨d, hd⟩ : ∃ d, d = hi - li := ⟨_, rfl⟩
  obtain ⟨e, he⟩ : ∃ e, e = hj - lj := ⟨_, rfl⟩
  have ex : x = u + li * m := by omega
  have ey : y = v + lj * m := by omega
  have ed : hi = li + d := by omega
  have ee : hj = lj + e := by omega
  subst ex ey ed ee
  have u0 : 0 ≤ u := by omega
  have v0 : 0 ≤ v := by omega
  have d0 : 0 ≤ d := by omega
  have e0 : 0 ≤ e := by omega
  have ud : u ≤ m * d := by have : (li + d) * m = li * m + m * d := by grind
                            omega
  have ve : v ≤ m * e := by have : (lj + e) * m = lj * m + m * e := by grind
                            omega
  clear hu hv hd he x1 x2 y1 y2 h1 h2
  by_cases zd : d = 0
  · subst zd
    have zu : u = 0 := by rw [Int.mul_zero] at ud; omega
    subst zu
    by_cases ze : e = 0
    · subst ze
      have zv : v = 0 := by rw [Int.mul_zero] at ve; omega
      subst zv
      exact .inl ⟨1, 0, 0, by decide, by decide, by decide, by decide, by grind, by grind⟩
    · have p : 0 < m * e := Int.mul_pos hm (by omega)
      exact .inl ⟨m * e - v, 0, v, by omega, by decide, v0, by omega, by grind, by grind⟩
  · by_cases ze : e = 0
    · subst ze
      have zv : v = 0 := by rw [Int.mul_zero] at ve; omega
      subst zv
      have p : 0 < m * d := Int.mul_pos hm (by omega)
      exact .inl ⟨m * d - u, u, 0, by omega, u0, by decide, by omega, by grind, by grind⟩
    · have p : 0 < m * d * e := Int.mul_pos (Int.mul_pos hm (by omega)) (by omega)
      have a1 : u * e ≤ m * d * e := Int.mul_le_mul_of_nonneg_right ud e0
      have a2 : v * d ≤ m * e * d := Int.mul_le_mul_of_nonneg_right ve d0
      have a3 : m * e * d = m * d * e := by grind
      have a4 : 0 ≤ v * d := Int.mul_nonneg v0 d0
      have a5 : 0 ≤ u * e := Int.mul_nonneg u0 e0
      rcases Int.lt_or_le (u * e) (v * d) with c | c
      · exact .inr ⟨m * d * e - v * d, u * e, v * d - u * e, by omega, a5, by omega, by omega, by grind, by grind⟩
      · exact .inl ⟨m * d * e - u * e, u * e - v * d, v * d, by omega, by omega, a4, by omega, by grind, by grind⟩
/-- a place on a side is in one of the side's triangles -/
theorem on_side {l h X : P3} {m : Int} (hm : 0 < m) (hl : ∀ j, j < 3 → co j l ≤ co j h) {k σ : Nat} (hk : k < 3) (hp : co k X = co k (bxP l h σ) * m) (hin : ∀ j, j < 3 → co j l * m ≤ co j X ∧ co j X ≤ co j h * m) :
    Tri X m (corP l h k σ 0 0) (corP l h k σ 1 0) (corP l h k σ 1 1) ∨ Tri X m (corP l h k σ 0 0) (corP l h k σ 1 1) (corP l h k σ 0 1) := by
  have i0 := hin 0 (by decide)
  have i1 := hin 1 (by decide)
  have i2 := hin 2 (by decide)
  have l0 := hl 0 (by decide)
  have l1 := hl 1 (by decide)
  have l2 := hl 2 (by decide)
  obtain ⟨x0, x1, x2⟩ := X
  have three : ∀ {P : Nat → Prop}, P 0 → P 1 → P 2 → (∀ k, P (k + 2) ↔ P 2) → ∀ k, P k := fun {P} p0 p1 p2 p3 k => by
    match k with
    | 0 => exact p0
    | 1 => exact p1
    | k + 2 => exact (p3 k).mpr p2
  match k, hk with
  | 0, _ =>
    rcases rect hm l1 l2 i1.1 i1.2 i2.1 i2.2 with ⟨α, β, γ, a1, a2, a3, a4, a5, a6⟩ | ⟨α, β, γ, a1, a2, a3, a4, a5, a6⟩
    · refine .inl ⟨α, β, γ, a1, a2, a3, a4, three ?_ a5 a6 fun k => Iff.rfl⟩
      simp only [co, corP, bxP] at hp ⊢
      rw [hp]; grind
    · refine .inr ⟨α, β, γ, a1, a2, a3, a4, three ?_ a5 a6 fun k => Iff.rfl⟩
      simp only [co, corP, bxP] at hp ⊢
      rw [hp]; grind
  | 1, _ =>
    rcases rect hm l2 l0 i2.1 i2.2 i0.1 i0.2 with ⟨α, β, γ, a1, a2, a3, a4, a5, a6⟩ | ⟨α, β, γ, a1, a2, a3, a4, a5, a6⟩
    · refine .inl ⟨α, β, γ, a1, a2, a3, a4, three a6 ?_ a5 fun k => Iff.rfl⟩
      simp only [co, corP, bxP] at hp ⊢
      simp only [show ¬ (1 = 0) by decide, if_false, if_true]
      rw [hp]; grind
    · refine .inr ⟨α, β, γ, a1, a2, a3, a4, three a6 ?_ a5 fun k => Iff.rfl⟩
      simp only [co, corP, bxP] at hp ⊢
      simp only [show ¬ (1 = 0) by decide, if_false, if_true]
      rw [hp]; grind
  | 2, _ =>
    rcases rect hm l0 l1 i0.1 i0.2 i1.1 i1.2 with ⟨α, β, γ, a1, a2, a3, a4, a5, a6⟩ | ⟨α, β, γ, a1, a2, a3, a4, a5, a6⟩
    · refine .inl ⟨α, β, γ, a1, a2, a3, a4, three a5 a6 ?_ fun k => Iff.rfl⟩
      simp only [co, corP, bxP] at hp ⊢
      simp only [show ¬ (2 = 0) by decide, show ¬ (2 = 1) by decide, if_false]
      rw [hp]; grind
    · refine .inr ⟨α, β, γ, a1, a2, a3, a4, three a5 a6 ?_ fun k => Iff.rfl⟩
      simp only [co, corP, bxP] at hp ⊢
      simp only [show ¬ (2 = 0) by decide, show ¬ (2 = 1) by decide, if_false]
      rw [hp]; grind
/-- a triangle of corners of the box is in the box -/
theorem tri_box {l h X a b c : P3} {m : Int} (hm : 0 < m) (h3 : Tri X m a b c) {j : Nat} (ha : co j l ≤ co j a ∧ co j a ≤ co j h) (hb : co j l ≤ co j b ∧ co j b ≤ co j h) (hc : co j l ≤ co j c ∧ co j c ≤ co j h) : co j l * m ≤ co j X ∧ co j X ≤ co j h * m := by
  obtain ⟨α, β, γ, a1, a2, a3, a4, e⟩ := h3
  have e := e j
  generalize co j X = x at *
  generalize co j l = L at *
  generalize co j h = H at *
  generalize co j a = A at *
  generalize co j b = B at *
  generalize co j c = C at *
  have m1 := Int.mul_le_mul_of_nonneg_left ha.1 a1
  have m2 := Int.mul_le_mul_of_nonneg_left hb.1 a2
  have m3 := Int.mul_le_mul_of_nonneg_left hc.1 a3
  have n1 := Int.mul_le_mul_of_nonneg_left ha.2 a1
  have n2 := Int.mul_le_mul_of_nonneg_left hb.2 a2
  have n3 := Int.mul_le_mul_of_nonneg_left hc.2 a3
  have s1 : m * (α * L + β * L + γ * L) ≤ m * (α * A + β * B + γ * C) := Int.mul_le_mul_of_nonneg_left (by omega) (by omega)
  have s2 : m * (α * A + β * B + γ * C) ≤ m * (α * H + β * H + γ * H) := Int.mul_le_mul_of_nonneg_left (by omega) (by omega)
  have t1 : m * (α * L + β * L + γ * L) = (α + β + γ) * (L * m) := by grind
  have t2 : m * (α * H + β * H + γ * H) = (α + β + γ) * (H * m) := by grind
  rw [← e] at s1 s2
  rw [t1] at s1
  rw [t2] at s2
  exact ⟨Int.le_of_mul_le_mul_left s1 a4, Int.le_of_mul_le_mul_left s2 a4⟩
theorem cor_in {l h : P3} (hl : ∀ j, j < 3 → co j l ≤ co j h) (k σ o1 o2 : Nat) (j : Nat) (hj : j < 3) : co j l ≤ co j (corP l h k σ o1 o2) ∧ co j (corP l h k σ o1 o2) ≤ co j h := by
  have b : ∀ σ j, j < 3 → co j l ≤ co j (bxP l h σ) ∧ co j (bxP l h σ) ≤ co j h := fun σ j hj => by
    have := hl j hj
    unfold bxP
    split <;> omega
  have e0 : ∀ x : P3, x.1 = co 0 x := fun _ => rfl
  have e1 : ∀ x : P3, x.2.1 = co 1 x := fun _ => rfl
  have e2 : ∀ x : P3, x.2.2 = co 2 x := fun _ => rfl
  unfold corP
  match j, hj with
  | 0, _ =>
    split
    · exact b _ 0 (by decide)
    split
    · exact b _ 0 (by decide)
    · exact b _ 0 (by decide)
  | 1, _ =>
    split
    · exact b _ 1 (by decide)
    split
    · exact b _ 1 (by decide)
    · exact b _ 1 (by decide)
  | 2, _ =>
    split
    · exact b _ 2 (by decide)
    split
    · exact b _ 2 (by decide)
    · exact b _ 2 (by decide)
end DL
end
section
set_option Elab.async false
set_option linter.all false
set_option maxRecDepth 100000
set_option maxHeartbeats 4000000
set_option autoImplicit false
namespace DL
variable [TbC]
open PySem
/-! ### shapes, and when a ray meets them first -/
inductive Sh where
  | bx (l h : P3) | tr (a b c : P3)
def Sh.cor : Sh → List P3
  | .bx l h => [l, h]
  | .tr a b c => [a, b, c]
def Sh.nm : Sh → Str
  | .bx _ _ => "box"
  | .tr _ _ _ => "triangle"
def enS (S : Sh) : Dt := .tup (.str S.nm :: S.cor.map en)
def ShOk (n : Nat) : Sh → Prop
  | .bx l h => BdN n l ∧ BdN n h ∧ ∀ j, j < 3 → co j l ≤ co j h
  | .tr a b c => BdN n a ∧ BdN n b ∧ BdN n c
abbrev Bo := P3 × P3
def enX (b : Bo) : Dt := rayD b.1 b.2
structure BOk (n : Nat) (b : Bo) : Prop where
  lo : BdN n b.1
  hi : BdN n b.2
  o : ∀ j, j < 3 → co j b.1 ≤ co j b.2
def Sub (a b : Bo) : Prop := ∀ j, j < 3 → co j b.1 ≤ co j a.1 ∧ co j a.2 ≤ co j b.2
theorem Sub.refl (a : Bo) : Sub a a := fun _ _ => ⟨Int.le_refl _, Int.le_refl _⟩
theorem Sub.trans {a b c : Bo} (h : Sub a b) (k : Sub b c) : Sub a c := fun j hj => by
  have h1 := h j hj
  have k1 := k j hj
  omega
/-- in a box at the time t -/
def InB (s w : P3) (b : Bo) (t : Fr) : Prop := ∀ j, j < 3 → InK (co j s) (co j w) (co j b.1) (co j b.2) t
def InS (s w : P3) : Sh → Fr → Prop
  | .bx l h, t => InB s w (l, h) t
  | .tr a b c, t => Tri (atP s w t) t.2 a b c
open Classical in
noncomputable def fstO (S : Fr → Prop) : Option Fr := if h : ∃ r, Fst S r then Classical.choose h else none
theorem fstO_eq {S : Fr → Prop} {r : Option Fr} (h : Fst S r) : fstO S = r := by
  have z : ∃ r, Fst S r := ⟨r, h⟩
  unfold fstO
  rw [dif_pos z]
  exact (Classical.choose_spec z).same h
noncomputable def mB (s w : P3) (b : Bo) : Option Fr := fstO (InB s w b)
noncomputable def mS (s w : P3) (S : Sh) : Option Fr := fstO (InS s w S)
theorem bdp_n {n : Nat} {p : P3} (h : BdN n p) (hn : n ≤ 400) : BdP p := bdp_of hn h.1 h.2.1 h.2.2
theorem way_co {w : P3} (h : w ≠ (0, 0, 0)) : ∃ j, j < 3 ∧ co j w ≠ 0 := by
  by_cases h0 : co 0 w = 0
  · by_cases h1 : co 1 w = 0
    · by_cases h2 : co 2 w = 0
      · exact absurd (ext3 fun k => by
          rw [co_zero]
          match k with
          | 0 => exact h0
          | 1 => exact h1
          | k + 2 => exact h2) h
      · exact ⟨2, by decide, h2⟩
    · exact ⟨1, by decide, h1⟩
  · exact ⟨0, by decide, h0⟩
theorem Gd.gt {x : Fr} (h : Gd x) : Gt x := ⟨h.rd, h.b1.mono (by decide), h.b2.mono (by decide)⟩
theorem F_meets_box_hi {s w : P3} {b : Bo} (bs : BdN 400 s) (bw : BdN 400 w) (hb : BOk 400 b) (hw : w ≠ (0, 0, 0)) : F_meets_box [rayD s w, enX b] = .ok (.va (hiD (mB s w b))) ∧ Fst (InB s w b) (mB s w b) := by
  have st := F_stay_in_eq (bdp_n bs (by decide)) (bdp_n bw (by decide)) (bdp_n hb.lo (by decide)) (bdp_n hb.hi (by decide)) hb.o (way_co hw)
  rcases st with ⟨e, no⟩ | ⟨low, high, e, gl, gh, il, ih, le, _, _⟩
  · have F : Fst (InB s w b) none := ⟨fun _ z => (nomatch z), fun _ z => (nomatch z), fun _ t h1 h2 z => no t h1 ⟨h2, z⟩⟩
    have em : mB s w b = none := fstO_eq F
    rw [em]
    exact ⟨F_meets_box_eq e (.inl rfl), F⟩
  · have F : Fst (InB s w b) (some low) := ⟨fun x z => by cases z; exact ⟨gl.gt, il.1, il.2⟩, fun x z t h1 h2 k => by cases z; exact (le t h1 ⟨h2, k⟩).1, fun z => nomatch z⟩
    have em : mB s w b = some low := fstO_eq F
    rw [em]
    exact ⟨F_meets_box_eq e (.inr ⟨_, _, rfl⟩), F⟩
theorem F_meets_hi {s w : P3} {S : Sh} (bs : BdN 400 s) (bw : BdN 400 w) (hS : ShOk 400 S) (hw : w ≠ (0, 0, 0)) : F_meets [rayD s w, enS S] = .ok (.va (hiD (mS s w S))) ∧ Fst (InS s w S) (mS s w S) := by
  cases S with
  | bx l h =>
    have z := F_meets_box_hi (b := (l, h)) bs bw ⟨hS.1, hS.2.1, hS.2.2⟩ hw
    exact ⟨F_meets_box_ok (way_co hw) hS.2.2 z.1, z.2⟩
  | tr a b c =>
    obtain ⟨h1, h2, h3⟩ := hS
    have F := triR_spec (bs.mono (m := 500) (by decide)) (bw.mono (m := 2000) (by decide)) (h1.mono (m := 500) (by decide)) (h2.mono (m := 500) (by decide)) (h3.mono (m := 500) (by decide)) hw
    have em : mS s w (.tr a b c) = triR s w a b c := fstO_eq F
    rw [em]
    exact ⟨F_meets_tri_ok hw (F_meets_triangle_eq (bs.mono (by decide)) (bw.mono (by decide)) (h1.mono (by decide)) (h2.mono (by decide)) (h3.mono (by decide)) hw), F⟩
/-! bounds -/
def around (ps : List P3) : Bo := (loP ps, hiP ps)
def bndS (S : Sh) : Bo := around S.cor
theorem lo_le {ps : List P3} {p : P3} (h : p ∈ ps) (j : Nat) (hj : j < 3) : co j (loP ps) ≤ co j p ∧ co j p ≤ co j (hiP ps) := by
  have key : ∀ k, minL (ps.map (co k)) ≤ co k p ∧ co k p ≤ maxL (ps.map (co k)) := fun k => by
    have ne : ps.map (co k) ≠ [] := fun z => by rw [List.map_eq_nil_iff.mp z] at h; cases h
    have m : co k p ∈ ps.map (co k) := List.mem_map_of_mem h
    exact ⟨(minL_mem ne).2 _ m, (maxL_mem ne).2 _ m⟩
  match j, hj with
  | 0, _ => exact key 0
  | 1, _ => exact key 1
  | 2, _ => exact key 2
theorem co_bdS {n : Nat} {p : P3} (h : BdN n p) (j : Nat) : Bd n (co j p) := by
  match j with
  | 0 => exact h.1
  | 1 => exact h.2.1
  | j + 2 => exact h.2.2
theorem around_ok {n : Nat} {ps : List P3} (h0 : ps ≠ []) (h : ∀ p ∈ ps, BdN n p) : BOk n (around ps) := by
  have mn : ∀ k, Bd n (minL (ps.map (co k))) ∧ Bd n (maxL (ps.map (co k))) := fun k => by
    have ne : ps.map (co k) ≠ [] := fun z => h0 (List.map_eq_nil_iff.mp z)
    obtain ⟨p, hp, e⟩ := List.mem_map.mp (minL_mem ne).1
    obtain ⟨q, hq, e'⟩ := List.mem_map.mp (maxL_mem ne).1
    exact ⟨by rw [← e]; exact co_bdS (h p hp) k, by rw [← e']; exact co_bdS (h q hq) k⟩
  obtain ⟨p, hp⟩ := List.exists_mem_of_ne_nil _ h0
  exact ⟨⟨(mn 0).1, (mn 1).1, (mn 2).1⟩, ⟨(mn 0).2, (mn 1).2, (mn 2).2⟩, fun j hj => by
    have := lo_le hp j hj
    show co j (loP ps) ≤ co j (hiP ps)
    omega⟩
theorem cor_ne (S : Sh) : S.cor ≠ [] := by cases S <;> exact List.cons_ne_nil _ _
theorem cor_ok {n : Nat} {S : Sh} (h : ShOk n S) : ∀ p ∈ S.cor, BdN n p := by
  cases S with
  | bx l u =>
    intro p hp
    simp only [Sh.cor, List.mem_cons, List.not_mem_nil, or_false] at hp
    rcases hp with rfl | rfl
    · exact h.1
    · exact h.2.1
  | tr a b c =>
    intro p hp
    simp only [Sh.cor, List.mem_cons, List.not_mem_nil, or_false] at hp
    rcases hp with rfl | rfl | rfl
    · exact h.1
    · exact h.2.1
    · exact h.2.2
theorem bnd_ok {n : Nat} {S : Sh} (h : ShOk n S) : BOk n (bndS S) := around_ok (cor_ne S) (cor_ok h)
theorem F_bounds_S (S : Sh) : F_bounds [enS S] = .ok (.va (enX (bndS S))) := F_bounds_eq (cor_ne S) (by cases S <;> (show _ < 16777216; simp [Sh.cor]))
/-- a shape is within its bounds -/
theorem in_at {s w : P3} {b : Bo} {t : Fr} : InB s w b t ↔ ∀ j, j < 3 → co j b.1 * t.2 ≤ co j (atP s w t) ∧ co j (atP s w t) ≤ co j b.2 * t.2 := by
  unfold InB InK
  refine ⟨fun h j hj => by rw [co_at]; exact h j hj, fun h j hj => by have := h j hj; rw [co_at] at this; exact this⟩
theorem InB.sub {s w : P3} {a b : Bo} {t : Fr} (h : InB s w a t) (k : Sub a b) (ht : 0 < t.2) : InB s w b t := by
  rw [in_at] at *
  intro j hj
  have h1 := h j hj
  have k1 := k j hj
  have m1 := Int.mul_le_mul_of_nonneg_right k1.1 (Int.le_of_lt ht)
  have m2 := Int.mul_le_mul_of_nonneg_right k1.2 (Int.le_of_lt ht)
  omega
theorem InS.bnd {s w : P3} {S : Sh} {t : Fr} (h : InS s w S t) (ht : 0 < t.2) : InB s w (bndS S) t := by
  cases S with
  | bx l u =>
    refine InB.sub (a := (l, u)) h (fun j hj => ?_) ht
    exact ⟨(lo_le (ps := [l, u]) (p := l) (by simp) j hj).1, (lo_le (ps := [l, u]) (p := u) (by simp) j hj).2⟩
  | tr a b c =>
    rw [in_at]
    intro j hj
    have h3 : Tri (atP s w t) t.2 a b c := h
    exact tri_box (l := (bndS (.tr a b c)).1) (h := (bndS (.tr a b c)).2) ht h3 (lo_le (ps := [a, b, c]) (p := a) (by simp) j hj) (lo_le (ps := [a, b, c]) (p := b) (by simp) j hj) (lo_le (ps := [a, b, c]) (p := c) (by simp) j hj)
/-- a box that holds a shape is met no later -/
theorem box_first {s w : P3} {S : Sh} {b : Bo} (FB : Fst (InB s w b) (mB s w b)) (FS : Fst (InS s w S) (mS s w S)) (k : Sub (bndS S) b) : ∀ u, mS s w S = some u → ∃ t, mB s w b = some t ∧ gle t u := fun u hu => by
  have g := FS.g u hu
  have ib : InB s w b u := (g.2.2.bnd g.1.pos).sub k g.1.pos
  cases hb : mB s w b with
  | none => exact absurd ib (FB.no hb u g.1.pos g.2.1)
  | some t => exact ⟨t, rfl, FB.least t hb u g.1.pos g.2.1 ib⟩
/-! two boxes' box -/
def un2 (a b : Bo) : Bo := around [a.1, a.2, b.1, b.2]
theorem F_box_of_two_eq (a b : Bo) : F_box_of_two [enX a, enX b] = .ok (.va (enX (un2 a b))) := by
  have i0 : ∀ x y : P3, ixD (rayD x y) (.int 0) = some (en x) := fun _ _ => rfl
  have i1 : ∀ x y : P3, ixD (rayD x y) (.int 1) = some (en y) := fun _ _ => rfl
  have z := F_box_around_eq (ps := [a.1, a.2, b.1, b.2]) (List.cons_ne_nil _ _) (by show 4 < _; decide)
  simp only [List.map_cons, List.map_nil] at z
  simp only [F_box_of_two, g_box_of_two, bodyF, startE, seqS, stS, stO, rtS, roS, roV, asS, ifS, xpS, bin, un, unN, lstF, lsF, consF, nilF, tupF, kc, gv, gb, tst, andT, orT, notT, andV, orV, notV, ifV, callF, callN, iterF, rngF, walked, slF, noP, soP, setN, setT, setCons, setNil, wipeE, yes, forS, prS, Rz.bind_ok, q_ofO, q_ofN, q_bad, q_ex, q_exS, q_exX, q_exB, q_okB, q_nx, q_rt, q_ro, q_bk, q_ct, q_sx, q_anx, q_act, q_abk, q_art, q_bnx, q_brt, q_bro, q_bex, q_va, q_ow, q_boo, add_int, sub_int, lt_int, le_int, gt_int, ge_int, neg_int, List.map_cons, List.map_nil, List.length_cons, List.length_nil, List.nil_append, List.cons_append, List.replicate, List.getElem?_cons_zero, List.getElem?_cons_succ, env_set0, env_setS, Option.bind_some, Option.map_some, if_true, Bool.false_eq_true, if_false, Nat.reduceAdd, Nat.reduceSub, sizeLine_eq, Nat.reduceLeDiff, Nat.zero_le, enX, i0, i1, z]
  rfl
theorem un2_l (a b : Bo) : Sub a (un2 a b) := fun j hj => ⟨(lo_le (ps := [a.1, a.2, b.1, b.2]) (p := a.1) (by simp) j hj).1, (lo_le (ps := [a.1, a.2, b.1, b.2]) (p := a.2) (by simp) j hj).2⟩
theorem un2_r (a b : Bo) : Sub b (un2 a b) := fun j hj => ⟨(lo_le (ps := [a.1, a.2, b.1, b.2]) (p := b.1) (by simp) j hj).1, (lo_le (ps := [a.1, a.2, b.1, b.2]) (p := b.2) (by simp) j hj).2⟩
theorem un2_ok {n : Nat} {a b : Bo} (h : BOk n a) (k : BOk n b) : BOk n (un2 a b) := around_ok (List.cons_ne_nil _ _) fun p hp => by
  simp only [List.mem_cons, List.not_mem_nil, or_false] at hp
  rcases hp with rfl | rfl | rfl | rfl
  · exact h.lo
  · exact h.hi
  · exact k.lo
  · exact k.hi
end DL
end
section
set_option Elab.async false
set_option linter.all false
set_option maxRecDepth 100000
set_option maxHeartbeats 4000000
set_option autoImplicit false
namespace DL
variable [TbC]
open PySem
/-! ### instances made -/
def kBr : List Str := ["box", "numbers", "left", "right"]
theorem branch_make {fs : Fs} {ε : Ev} {a b c d : Dt} (h : fs ε = .ok [a, b, c, d]) : makeF "Branch" 5 I_Branch fs ε = .ok (.ins "Branch" kBr [a, b, c, d]) := by
  have key : ∀ x, I_Branch x [a, b, c, d] = .ok (kBr, [a, b, c, d]) := fun x => by
    have e : g_Branch___init__ (.i x "Branch" [] [] :: startE 4 [a, b, c, d]) = .ok (.nx [.i x "Branch" kBr [a, b, c, d], .d a, .d b, .d c, .d d]) := by kernel_rfl
    show initR x "Branch" (g_Branch___init__ (.i x "Branch" [] [] :: startE 4 [a, b, c, d])) = _
    rw [e]
    exact if_pos ⟨rfl, rfl⟩
  unfold makeF
  rw [h, Rz.bind_ok]
  show (if 4 + 1 = 5 then (oneX fun x => I_Branch x [a, b, c, d]).bind fun r => Rz.ok (Dt.ins "Branch" r.1 r.2) else .bad) = _
  rw [if_pos rfl, oneX_eq key]
  rfl
/-! ### branches -/
inductive Br where
  | lf (b : Bo) (ns : List Int) | nd (b : Bo) (l r : Br)
def Br.box : Br → Bo
  | .lf b _ => b
  | .nd b _ _ => b
def Br.ns : Br → List Int
  | .lf _ ns => ns
  | .nd _ l r => l.ns ++ r.ns
def Br.size : Br → Nat
  | .lf _ _ => 1
  | .nd _ l r => l.size + r.size + 1
def enBr : Br → Dt
  | .lf b ns => .ins "Branch" kBr [enX b, .lst (ns.map .int), .non, .non]
  | .nd b l r => .ins "Branch" kBr [enX b, .lst [], enBr l, enBr r]
/-- its boxes hold what is in it -/
def Wf (n : Nat) (bx : Int → Bo) : Br → Prop
  | .lf b ns => BOk n b ∧ ∀ i ∈ ns, Sub (bx i) b
  | .nd b l r => BOk n b ∧ (∀ i ∈ l.ns ++ r.ns, Sub (bx i) b) ∧ Wf n bx l ∧ Wf n bx r
theorem Wf.ok {n : Nat} {bx : Int → Bo} {t : Br} (h : Wf n bx t) : BOk n t.box := by cases t <;> exact h.1
theorem Wf.sub {n : Nat} {bx : Int → Bo} {t : Br} (h : Wf n bx t) : ∀ i ∈ t.ns, Sub (bx i) t.box := by
  cases t with
  | lf b ns => exact h.2
  | nd b l r => exact h.2.1
/-! ### slices, sorting -/
theorem sl_take {xs : List Dt} {h : Nat} (hl : h ≤ xs.length) : slD (.lst xs) none (some (h : Int)) = some (.lst (xs.take h)) := by
  show some (Dt.lst (cutG xs none (some (h : Int)))) = _
  unfold cutG
  rw [HT.sIx_none, HT.sIx_nat, Nat.min_eq_left hl]
  simp
theorem sl_drop {xs : List Dt} {h : Nat} (hl : h ≤ xs.length) : slD (.lst xs) (some (h : Int)) none = some (.lst (xs.drop h)) := by
  show some (Dt.lst (cutG xs (some (h : Int)) none)) = _
  unfold cutG
  rw [HT.sIx_none, HT.sIx_nat, Nat.min_eq_left hl, List.take_of_length_le (by rw [List.length_drop]; omega)]
theorem e_sl {f : Fn} {lo hi : Pf} {ε : Ev} {x d : Dt} {l u : Option Int} (h1 : f ε = .ok x) (h2 : lo ε = .ok l) (h3 : hi ε = .ok u) (h4 : slD x l u = some d) : slF f lo hi ε = .ok d := by
  unfold slF
  rw [h1, Rz.bind_ok, h2, Rz.bind_ok, h3, Rz.bind_ok, h4]
  rfl
theorem e_so {f : Fn} {ε : Ev} {i : Int} (h : f ε = .ok (.int i)) : soP f ε = .ok (some i) := by
  unfold soP
  rw [h]
  rfl
theorem q_sort {it : Nat} {f kb : Fn} {ε : Ev} {ns : List Int} (h : f ε = .ok (.lst (ns.map .int))) (hk : ∀ n ∈ ns, ∃ a b : Int, kb ((lamE ε).set it (.d (.int n))) = .ok (.tup [.int a, .int b])) : ∃ ms : List Int, ms.Perm ns ∧ sortF it f kb ε = .ok (ms.map .int) := by
  refine ⟨ns.mergeSort (lexLe fun n => (keyOf it kb ε n).getD (0, 0)), List.mergeSort_perm _ _, ?_⟩
  unfold sortF
  rw [h, Rz.bind_ok]
  show (match asI (ns.map .int) with | some ns => _ | none => _) = _
  rw [ints_map]
  refine if_pos (List.all_eq_true.mpr fun n hn => ?_)
  obtain ⟨a, b, e⟩ := hk n hn
  unfold keyOf
  rw [e]
  rfl
/-! ### the widest side -/
theorem pys_ints (ns : List Int) : pys (ns.map .int) = some (ns.map PyData.int) := by
  induction ns with
  | nil => rfl
  | cons a l ih => rw [List.map_cons, pys, ih]; rfl
theorem idx3 {a b c m : Int} (h : m ∈ [a, b, c]) : ∃ k : Nat, k < 3 ∧ idxD [.int a, .int b, .int c] (.int m) = some (.int (k : Int)) := by
  have e : idxD [.int a, .int b, .int c] (.int m) = (([a, b, c].map PyData.int).findIdx? fun z => PyData.eqv z (.int m)).map (fun n : Nat => Dt.int (n : Int)) := by
    unfold idxD
    rw [show pys [.int a, .int b, .int c] = some ([a, b, c].map PyData.int) from rfl, Option.bind_some, show py (.int m) = some (.int m) from rfl, Option.bind_some, if_pos ⟨rfl, rfl⟩]
  have eq : ∀ x y : Int, PyData.eqv (.int x) (.int y) = (x == y) := fun _ _ => rfl
  rw [e]
  simp only [List.map_cons, List.map_nil, List.findIdx?_cons, eq]
  by_cases h0 : a = m
  · exact ⟨0, by decide, by simp [h0]⟩
  · by_cases h1 : b = m
    · exact ⟨1, by decide, by simp [h0, h1]⟩
    · have h2 : c = m := by simp only [List.mem_cons, List.not_mem_nil, or_false] at h; omega
      exact ⟨2, by decide, by simp [h0, h1, h2]⟩
theorem e_lmT {k : List Dt → Dt → Option Dt} {f g : Fn} {ε : Ev} {ds : List Dt} {y z : Dt} (h1 : f ε = .ok (.lst ds)) (h2 : g ε = .ok y) (h3 : k ds y = some z) : lmF k f g ε = .ok z := by
  unfold lmF
  rw [h1, Rz.bind_ok]
  show (g ε).bind _ = _
  rw [h2, Rz.bind_ok, h3]
  rfl
theorem F_widest_eq (b : Bo) : ∃ k : Nat, k < 3 ∧ F_widest [enX b] = .ok (.va (.int (k : Int))) := by
  obtain ⟨k, hk, e⟩ := idx3 (a := co 0 b.2 - co 0 b.1) (b := co 1 b.2 - co 1 b.1) (c := co 2 b.2 - co 2 b.1) (m := maxL [co 0 b.2 - co 0 b.1, co 1 b.2 - co 1 b.1, co 2 b.2 - co 2 b.1]) (maxL_mem (List.cons_ne_nil _ _)).1
  refine ⟨k, hk, ?_⟩
  have i0 : ∀ x y : P3, ixD (rayD x y) (.int 0) = some (en x) := fun _ _ => rfl
  have i1 : ∀ x y : P3, ixD (rayD x y) (.int 1) = some (en y) := fun _ _ => rfl
  have lc : lcF (rngF (kc (.int 3))) [2] (setN 2) yes (bin subD (bin ixD (bin ixD (gb 0) (kc (.int 1))) (gb 2)) (bin ixD (bin ixD (gb 0) (kc (.int 0))) (gb 2))) [.d (enX b), .u, .u] = .ok ((List.range 3).map fun j => .int (co j b.2 - co j b.1)) :=
    lcF_rng (n := 3) rfl (by decide) fun j hj => e_bin (e_bin (e_bin rfl rfl (i1 _ _)) rfl (en_ix _ j hj)) (e_bin (e_bin rfl rfl (i0 _ _)) rfl (en_ix _ j hj)) (sub_int _ _)
  have mx : maxD (.lst [.int (co 0 b.2 - co 0 b.1), .int (co 1 b.2 - co 1 b.1), .int (co 2 b.2 - co 2 b.1)]) = some (.int (maxL [co 0 b.2 - co 0 b.1, co 1 b.2 - co 1 b.1, co 2 b.2 - co 2 b.1])) := maxD_ints (ns := [co 0 b.2 - co 0 b.1, co 1 b.2 - co 1 b.1, co 2 b.2 - co 2 b.1]) (List.cons_ne_nil _ _)
  unfold F_widest
  refine b_rt ?_
  unfold g_widest
  refine (s_sto lc).trans ?_
  rw [range3]
  refine (q_sh (xs := [.int (co 0 b.2 - co 0 b.1), .int (co 1 b.2 - co 1 b.1), .int (co 2 b.2 - co 2 b.1)]) rfl).trans ?_
  refine s_rt ?_
  exact e_lmT (q_gb rfl) (e_un rfl mx) e
/-! ### a tree is grown -/
theorem ix_at {bs : List Bo} {i : Int} (h0 : 0 ≤ i) (h1 : i < bs.length) : ixD (.lst (bs.map enX)) (.int i) = some (enX (bs.getD i.toNat ((0, 0, 0), (0, 0, 0)))) := by
  obtain ⟨j, rfl⟩ : ∃ j : Nat, i = j := ⟨i.toNat, by omega⟩
  have hj : j < bs.length := by omega
  refine L2.atI_nat ?_
  rw [List.getElem?_map, List.getElem?_eq_getElem hj]
  simp [List.getD_eq_getElem?_getD, List.getElem?_eq_getElem hj]
abbrev bxA (bs : List Bo) : Int → Bo := fun i => bs.getD i.toNat ((0, 0, 0), (0, 0, 0))
theorem bxA_ok {n : Nat} {bs : List Bo} (h : ∀ b ∈ bs, BOk n b) {i : Int} (h0 : 0 ≤ i) (h1 : i < bs.length) : BOk n (bxA bs i) := by
  have hj : i.toNat < bs.length := by omega
  refine h _ ?_
  show bs.getD i.toNat _ ∈ bs
  rw [List.getD_eq_getElem?_getD, List.getElem?_eq_getElem hj]
  exact List.getElem_mem hj
theorem grown_ok {n : Nat} {bs : List Bo} (hb : ∀ b ∈ bs, BOk n b) : ∀ (f : Nat) (ns : List Int), ns ≠ [] → ns.length ≤ 3 * 2 ^ f → ns.length < 100000 → (∀ i ∈ ns, 0 ≤ i ∧ i < bs.length) →
    ∃ t : Br, FR_grown (f + 1) [.lst (bs.map enX), .lst (ns.map .int)] = .ok (.va (enBr t)) ∧ t.ns.Perm ns ∧ Wf n (bxA bs) t ∧ t.size < 2 * 2 ^ f := by
  intro f
  induction f with
  | zero =>
    intro ns hne hl _ hi
    exact grown_step hb (m := 1) (by decide) (Fr := FR_grown 0) ns hne (by omega) hi (fun h => absurd h (by omega))
  | succ f ih =>
    intro ns hne hl h5 hi
    have := grown_step hb (m := 2 * 2 ^ f) (by have := Nat.two_pow_pos f; omega) (Fr := FR_grown (f + 1)) ns hne h5 hi fun _ ms h0 h1 h2 => ih ms h0 (by
      rw [Nat.pow_succ] at hl
      omega) (by omega) h2
    rw [Nat.pow_succ, show 2 * (2 ^ f * 2) = 2 * (2 * 2 ^ f) by omega]
    exact this
where
  grown_step {n : Nat} {bs : List Bo} (hb : ∀ b ∈ bs, BOk n b) {m : Nat} (hm : 1 ≤ m) {Fr : Fd} (ns : List Int) (hne : ns ≠ []) (h5 : ns.length < 100000) (hi : ∀ i ∈ ns, 0 ≤ i ∧ i < bs.length)
      (ih : 3 < ns.length → ∀ ms : List Int, ms ≠ [] → ms.length ≤ (ns.length + 1) / 2 → (∀ i ∈ ms, 0 ≤ i ∧ i < bs.length) → ∃ t : Br, Fr [.lst (bs.map enX), .lst (ms.map .int)] = .ok (.va (enBr t)) ∧ t.ns.Perm ms ∧ Wf n (bxA bs) t ∧ t.size < m) :
      ∃ t : Br, bodyF 7 (g_grown Fr) [.lst (bs.map enX), .lst (ns.map .int)] = .ok (.va (enBr t)) ∧ t.ns.Perm ns ∧ Wf n (bxA bs) t ∧ t.size < 2 * m := by
    obtain ⟨i0, rest, rfl⟩ := List.exists_cons_of_ne_nil hne
    have k0 := hi i0 List.mem_cons_self
    -- the box about all
    have loop : ∃ (b : Bo) (x3 : Lc), BOk n b ∧ (∀ i ∈ i0 :: rest, Sub (bxA bs i) b) ∧ forGo (setN 3) (stS 2 (callF 2 F_box_of_two (consF (gv 2) (consF (bin ixD (gb 0) (gb 3)) nilF)))) ((i0 :: rest).map .int) [.d (.lst (bs.map enX)), .d (.lst ((i0 :: rest).map .int)), .d (enX (bxA bs i0)), .u, .u, .u, .u]
        = .ok (.nx [.d (.lst (bs.map enX)), .d (.lst ((i0 :: rest).map .int)), .d (enX b), x3, .u, .u, .u]) := by
      refine for_ind (I := fun j ε => ∃ (b : Bo) (x3 : Lc), BOk n b ∧ (∀ i ∈ (i0 :: rest).take j, Sub (bxA bs i) b) ∧ ε = [.d (.lst (bs.map enX)), .d (.lst ((i0 :: rest).map .int)), .d (enX b), x3, .u, .u, .u])
        (O := fun r => ∃ (b : Bo) (x3 : Lc), BOk n b ∧ (∀ i ∈ i0 :: rest, Sub (bxA bs i) b) ∧ r = .ok (.nx [.d (.lst (bs.map enX)), .d (.lst ((i0 :: rest).map .int)), .d (enX b), x3, .u, .u, .u])) ?_ ⟨_, _, bxA_ok hb k0.1 k0.2, (fun i h => by rw [List.take_zero] at h; cases h), rfl⟩ ?_
      · rintro j d ε hd ⟨b, x3, ob, sb, rfl⟩
        rw [List.getElem?_map] at hd
        obtain ⟨i, hij, rfl⟩ := Option.map_eq_some_iff.mp hd
        have ki := hi i (List.mem_of_getElem? hij)
        refine ⟨[.d (.lst (bs.map enX)), .d (.lst ((i0 :: rest).map .int)), .d (enX b), .d (.int i), .u, .u, .u], rfl, .inl ⟨[.d (.lst (bs.map enX)), .d (.lst ((i0 :: rest).map .int)), .d (enX (un2 b (bxA bs i))), .d (.int i), .u, .u, .u], .inl ?_, _, _, un2_ok ob (bxA_ok hb ki.1 ki.2), fun i' h' => ?_, rfl⟩⟩
        · unfold stS
          rw [c_1 (n := 2) (ds := [enX b, enX (bxA bs i)]) (e_cons rfl (e_cons (e_bin rfl rfl (ix_at ki.1 ki.2)) rfl)) rfl (F_box_of_two_eq _ _) rfl]
          rfl
        · rw [List.take_succ, hij] at h'
          rcases List.mem_append.mp h' with h' | h'
          · exact (sb i' h').trans (un2_l _ _)
          · have : i' = i := by simpa using h'
            rw [this]
            exact un2_r _ _
      · rintro ε ⟨b, x3, ob, sb, rfl⟩
        rw [List.length_map, List.take_length] at sb
        exact ⟨b, x3, ob, sb, rfl⟩
    obtain ⟨b, x3, ob, sb, hf⟩ := loop
    have hlen : lenD (.lst ((i0 :: rest).map .int)) = some (.int ((i0 :: rest).length : Int)) := by
      show some (Dt.int ((i0 :: rest).map Dt.int).length) = _
      rw [List.length_map]
    have e1 : bin ixD (gb 0) (bin ixD (gb 1) (kc (.int 0))) [.d (.lst (bs.map enX)), .d (.lst ((i0 :: rest).map .int)), .u, .u, .u, .u, .u] = .ok (enX (bxA bs i0)) :=
      e_bin rfl (e_bin rfl rfl (show ixD (.lst ((i0 :: rest).map .int)) (.int 0) = some (.int i0) from L2.atI_nat (j := 0) rfl)) (ix_at k0.1 k0.2)
    have start : ∀ g : Sg, seqS (stS 2 (bin ixD (gb 0) (bin ixD (gb 1) (kc (.int 0))))) (seqS (forS (iterF (gv 1)) (setN 3) (stS 2 (callF 2 F_box_of_two (consF (gv 2) (consF (bin ixD (gb 0) (gb 3)) nilF))))) g) [.d (.lst (bs.map enX)), .d (.lst ((i0 :: rest).map .int)), .u, .u, .u, .u, .u]
        = g [.d (.lst (bs.map enX)), .d (.lst ((i0 :: rest).map .int)), .d (enX b), x3, .u, .u, .u] := fun g => by
      rw [s_st e1]
      show seqR (forS (iterF (gv 1)) _ _ [.d (.lst (bs.map enX)), .d (.lst ((i0 :: rest).map .int)), .d (enX (bxA bs i0)), .u, .u, .u, .u]) _ = _
      unfold forS
      rw [show iterF (gv 1) [.d (.lst (bs.map enX)), .d (.lst ((i0 :: rest).map .int)), .d (enX (bxA bs i0)), .u, .u, .u, .u] = .ok ((i0 :: rest).map .int) from rfl, q_exS, q_okB, hf, q_nx]
    have few : tst (bin leD (un lenD (gb 1)) (kc (.int 3))) [.d (.lst (bs.map enX)), .d (.lst ((i0 :: rest).map .int)), .d (enX b), x3, .u, .u, .u] = .ok (decide (((i0 :: rest).length : Int) ≤ 3)) := e_tst (e_bin (e_un rfl hlen) rfl (le_int _ _))
    by_cases h3 : ((i0 :: rest).length : Int) ≤ 3
    · rw [decide_eq_true h3] at few
      refine ⟨.lf b (i0 :: rest), b_rt ?_, List.Perm.refl _, ⟨ob, sb⟩, (by show 1 < _; omega)⟩
      show g_grown Fr [.d (.lst (bs.map enX)), .d (.lst ((i0 :: rest).map .int)), .u, .u, .u, .u, .u] = _
      unfold g_grown
      refine (start _).trans ?_
      refine (s_ifT few).trans ?_
      rw [s_rt (branch_make (a := enX b) (b := .lst ((i0 :: rest).map .int)) (c := .non) (d := .non) rfl)]
      rfl
    · rw [decide_eq_false h3] at few
      obtain ⟨k, hk, hw⟩ := F_widest_eq b
      have keys : ∀ i ∈ i0 :: rest, ∃ a c : Int, (tupF (consF (bin addI (bin ixP (bin ixP (bin ixP (gv 0) (gv 3)) (kc (.int 0))) (gv 4)) (bin ixP (bin ixP (bin ixP (gv 0) (gv 3)) (kc (.int 1))) (gv 4))) (consF (gv 3) nilF))) ((lamE [.d (.lst (bs.map enX)), .d (.lst ((i0 :: rest).map .int)), .d (enX b), x3, .d (.int k), .u, .u]).set 3 (.d (.int i))) = .ok (.tup [.int a, .int c]) := fun i h => by
        have ki := hi i h
        have p1 : ixP (.lst (bs.map enX)) (.int i) = some (enX (bxA bs i)) := by
          show (if 0 ≤ i then seqAt (.lst (bs.map enX)) i else none) = _
          rw [if_pos ki.1]
          exact ix_at ki.1 ki.2
        have p2 : ixP (enX (bxA bs i)) (.int 0) = some (en (bxA bs i).1) := rfl
        have p3 : ixP (enX (bxA bs i)) (.int 1) = some (en (bxA bs i).2) := rfl
        have p4 : ∀ p : P3, ixP (en p) (.int (k : Int)) = some (.int (co k p)) := fun p => by
          show (if (0 : Int) ≤ k then seqAt (en p) k else none) = _
          rw [if_pos (by omega)]
          exact en_ix p k hk
        refine ⟨_, _, e_tup (e_cons (e_bin (e_bin (e_bin (e_bin (x := .lst (bs.map enX)) (y := .int i) ?_ ?_ p1) rfl p2) (y := .int k) ?_ (p4 _)) (e_bin (e_bin (e_bin (x := .lst (bs.map enX)) (y := .int i) ?_ ?_ p1) rfl p3) (y := .int k) ?_ (p4 _)) (show addI _ _ = some _ from rfl)) (e_cons (x := .int i) ?_ rfl)) (by show 2 ≤ 16777216; decide)⟩ <;> rfl
      obtain ⟨os, hp, hs⟩ := q_sort (it := 3) (f := gb 1) (ε := [.d (.lst (bs.map enX)), .d (.lst ((i0 :: rest).map .int)), .d (enX b), x3, .d (.int k), .u, .u]) (ns := i0 :: rest) rfl keys
      have lo := hp.length_eq
      have h3' : 3 < (i0 :: rest).length := by omega
      generalize hN : (i0 :: rest) = ns at *
      have olen : lenD (.lst (os.map .int)) = some (.int (os.length : Int)) := by
        show some (Dt.int (os.map Dt.int).length) = _
        rw [List.length_map]
      have half : divD (.int (os.length : Int)) (.int 2) = some (.int ((os.length / 2 : Nat) : Int)) := by rw [div_sm (by decide)]; rfl
      have memo : ∀ {ms : List Int}, (∀ i ∈ ms, i ∈ os) → ∀ i ∈ ms, 0 ≤ i ∧ i < bs.length := fun h i hm => hi i (hp.mem_iff.mp (h i hm))
      obtain ⟨tl, hl1, hl2, hl3, hl4⟩ := ih h3' (os.take (os.length / 2)) (fun z => by have := congrArg List.length z; rw [List.length_take, List.length_nil] at this; omega) (by rw [List.length_take]; omega) (memo fun i h => List.mem_of_mem_take h)
      obtain ⟨tr, hr1, hr2, hr3, hr4⟩ := ih h3' (os.drop (os.length / 2)) (fun z => by have := congrArg List.length z; rw [List.length_drop, List.length_nil] at this; omega) (by rw [List.length_drop]; omega) (memo fun i h => List.mem_of_mem_drop h)
      have perm : (tl.ns ++ tr.ns).Perm ns := ((hl2.append hr2).trans (by rw [List.take_append_drop])).trans hp
      refine ⟨.nd b tl tr, b_rt ?_, perm, ⟨ob, fun i h => sb i (perm.mem_iff.mp h), hl3, hr3⟩, (by show _ + _ + 1 < _; omega)⟩
      show g_grown Fr [.d (.lst (bs.map enX)), .d (.lst (ns.map .int)), .u, .u, .u, .u, .u] = _
      unfold g_grown
      refine (start _).trans ?_
      refine (s_ifF few).trans ?_
      refine (s_st (c_1 (n := 1) (ds := [enX b]) rfl rfl hw rfl)).trans ?_
      refine (s_st (d := .lst (os.map .int)) (e_lst hs)).trans ?_
      refine (s_st (d := .int ((os.length / 2 : Nat) : Int)) (e_bin (e_un rfl olen) rfl half)).trans ?_
      have t1 := sl_take (xs := os.map .int) (h := os.length / 2) (by rw [List.length_map]; omega)
      have t2 := sl_drop (xs := os.map .int) (h := os.length / 2) (by rw [List.length_map]; omega)
      rw [← List.map_take] at t1
      rw [← List.map_drop] at t2
      refine s_rt (branch_make (e_cons rfl (e_cons rfl (e_cons (c_1 (n := 2) (ds := [.lst (bs.map enX), .lst ((os.take (os.length / 2)).map .int)]) (e_cons rfl (e_cons (e_sl rfl rfl (e_so rfl) t1) rfl)) rfl hl1 rfl) (e_cons (c_1 (n := 2) (ds := [.lst (bs.map enX), .lst ((os.drop (os.length / 2)).map .int)]) (e_cons rfl (e_cons (e_sl rfl (e_so rfl) rfl t2) rfl)) rfl hr1 rfl) rfl)))))
end DL
end
section
set_option Elab.async false
set_option linter.all false
set_option maxRecDepth 100000
set_option maxHeartbeats 4000000
set_option autoImplicit false
namespace DL
variable [TbC]
open PySem
/-! ### a scene is made -/
theorem q_fld {i : Nat} {cn f : Str} {g : Fn} {ε : Ev} {d : Dt} {a : Addr} {ks : List Str} {xs : List Dt} (hs : ε[i]? = some (.i a cn ks xs)) (hg : g ε = .ok d) (hl : ks.length < 900 ∧ ks.length = xs.length) : fldS i cn f g ε = .ok (.nx (ε.set i (.i a cn (putK f ks) (putX f d ks xs)))) := by
  unfold fldS
  rw [hg, q_exS, q_okB, hs]
  exact if_pos ⟨rfl, hl.1, hl.2⟩
theorem s_fld {i : Nat} {cn f : Str} {g : Fn} {h : Sg} {ε : Ev} {d : Dt} {a : Addr} {ks : List Str} {xs : List Dt} (hs : ε[i]? = some (.i a cn ks xs)) (hg : g ε = .ok d) (hl : ks.length < 900 ∧ ks.length = xs.length) : seqS (fldS i cn f g) h ε = h (ε.set i (.i a cn (putK f ks) (putX f d ks xs))) := by
  unfold seqS
  rw [q_fld hs hg hl]
  rfl
theorem F_need_shape_ok {n : Nat} {S : Sh} (ok : ShOk n S) : F_need_shape [enS S] = .ok (.va .non) := by
  cases S with
  | bx l h =>
    have j0 : ∀ x y z : Dt, ixD (.tup [x, y, z]) (.int 0) = some x := fun _ _ _ => rfl
    have j1 : ∀ x y z : Dt, ixD (.tup [x, y, z]) (.int 1) = some y := fun _ _ _ => rfl
    have j2 : ∀ x y z : Dt, ixD (.tup [x, y, z]) (.int 2) = some z := fun _ _ _ => rfl
    have e2 : eqD (.str "box") (.str "box") = some (.bl true) := by
      rw [eqD_of (n := 0) (by decide +kernel) (by decide +kernel) (by decide), eqq_str]
      rfl
    have e3 : lenD (.tup [.str "box", en l, en h]) = some (.int 3) := rfl
    have e4 : eqD (.int 3) (.int 3) = some (.bl true) := by rw [eqD_int]; rfl
    have al : allD (.lst [.bl true, .bl true, .bl true]) = some (.bl true) := rfl
    show F_need_shape [.tup [.str "box", en l, en h]] = _
    simp only [F_need_shape, g_need_shape, bodyF, startE, seqS, stS, stO, rtS, roS, roV, asS, ifS, xpS, bin, un, unN, lstF, lsF, consF, nilF, tupF, kc, gv, gb, tst, andT, orT, notT, andV, orV, notV, ifV, callF, callN, iterF, rngF, walked, slF, noP, soP, setN, setT, setCons, setNil, wipeE, yes, forS, prS, Rz.bind_ok, q_ofO, q_ofN, q_bad, q_ex, q_exS, q_exX, q_exB, q_okB, q_nx, q_rt, q_ro, q_bk, q_ct, q_sx, q_anx, q_act, q_abk, q_art, q_bnx, q_brt, q_bro, q_bex, q_va, q_ow, q_boo, add_int, sub_int, lt_int, le_int, gt_int, ge_int, neg_int, List.map_cons, List.map_nil, List.length_cons, List.length_nil, List.nil_append, List.cons_append, List.replicate, List.getElem?_cons_zero, List.getElem?_cons_succ, env_set0, env_setS, Option.bind_some, Option.map_some, if_true, Bool.false_eq_true, if_false, Nat.reduceAdd, Nat.reduceSub, sizeLine_eq, Nat.reduceLeDiff, Nat.zero_le, j0, e2, e3, e4]
    rw [lcF_rng (n := 3) (f := fun _ => .bl true) rfl (by decide) fun j hj => by
      simp only [bodyF, startE, seqS, stS, stO, rtS, roS, roV, asS, ifS, xpS, bin, un, unN, lstF, lsF, consF, nilF, tupF, kc, gv, gb, tst, andT, orT, notT, andV, orV, notV, ifV, callF, callN, iterF, rngF, walked, slF, noP, soP, setN, setT, setCons, setNil, wipeE, yes, forS, prS, Rz.bind_ok, q_ofO, q_ofN, q_bad, q_ex, q_exS, q_exX, q_exB, q_okB, q_nx, q_rt, q_ro, q_bk, q_ct, q_sx, q_anx, q_act, q_abk, q_art, q_bnx, q_brt, q_bro, q_bex, q_va, q_ow, q_boo, add_int, sub_int, lt_int, le_int, gt_int, ge_int, neg_int, List.map_cons, List.map_nil, List.length_cons, List.length_nil, List.nil_append, List.cons_append, List.replicate, List.getElem?_cons_zero, List.getElem?_cons_succ, env_set0, env_setS, Option.bind_some, Option.map_some, if_true, Bool.false_eq_true, if_false, Nat.reduceAdd, Nat.reduceSub, sizeLine_eq, Nat.reduceLeDiff, Nat.zero_le, j1, j2, en_ix _ j hj, decide_eq_true (ok.2.2 j hj)]]
    rw [range3]
    simp only [bodyF, startE, seqS, stS, stO, rtS, roS, roV, asS, ifS, xpS, bin, un, unN, lstF, lsF, consF, nilF, tupF, kc, gv, gb, tst, andT, orT, notT, andV, orV, notV, ifV, callF, callN, iterF, rngF, walked, slF, noP, soP, setN, setT, setCons, setNil, wipeE, yes, forS, prS, Rz.bind_ok, q_ofO, q_ofN, q_bad, q_ex, q_exS, q_exX, q_exB, q_okB, q_nx, q_rt, q_ro, q_bk, q_ct, q_sx, q_anx, q_act, q_abk, q_art, q_bnx, q_brt, q_bro, q_bex, q_va, q_ow, q_boo, add_int, sub_int, lt_int, le_int, gt_int, ge_int, neg_int, List.map_cons, List.map_nil, List.length_cons, List.length_nil, List.nil_append, List.cons_append, List.replicate, List.getElem?_cons_zero, List.getElem?_cons_succ, env_set0, env_setS, Option.bind_some, Option.map_some, if_true, Bool.false_eq_true, if_false, Nat.reduceAdd, Nat.reduceSub, sizeLine_eq, Nat.reduceLeDiff, Nat.zero_le, al, Bool.not_true]
  | tr a b c =>
    have j0 : ∀ x y z u : Dt, ixD (.tup [x, y, z, u]) (.int 0) = some x := fun _ _ _ _ => rfl
    have e2 : eqD (.str "triangle") (.str "box") = some (.bl false) := by
      rw [eqD_of (n := 0) (by decide +kernel) (by decide +kernel) (by decide), eqq_str]
      rfl
    have e3 : neD (.str "triangle") (.str "triangle") = some (.bl false) := by
      rw [neD_of (n := 0) (by decide +kernel) (by decide +kernel) (by decide), eqq_str]
      rfl
    have e4 : lenD (.tup [.str "triangle", en a, en b, en c]) = some (.int 4) := rfl
    have e5 : neD (.int 4) (.int 4) = some (.bl false) := by rw [neD_int]; rfl
    show F_need_shape [.tup [.str "triangle", en a, en b, en c]] = _
    simp only [F_need_shape, g_need_shape, bodyF, startE, seqS, stS, stO, rtS, roS, roV, asS, ifS, xpS, bin, un, unN, lstF, lsF, consF, nilF, tupF, kc, gv, gb, tst, andT, orT, notT, andV, orV, notV, ifV, callF, callN, iterF, rngF, walked, slF, noP, soP, setN, setT, setCons, setNil, wipeE, yes, forS, prS, Rz.bind_ok, q_ofO, q_ofN, q_bad, q_ex, q_exS, q_exX, q_exB, q_okB, q_nx, q_rt, q_ro, q_bk, q_ct, q_sx, q_anx, q_act, q_abk, q_art, q_bnx, q_brt, q_bro, q_bex, q_va, q_ow, q_boo, add_int, sub_int, lt_int, le_int, gt_int, ge_int, neg_int, List.map_cons, List.map_nil, List.length_cons, List.length_nil, List.nil_append, List.cons_append, List.replicate, List.getElem?_cons_zero, List.getElem?_cons_succ, env_set0, env_setS, Option.bind_some, Option.map_some, if_true, Bool.false_eq_true, if_false, Nat.reduceAdd, Nat.reduceSub, sizeLine_eq, Nat.reduceLeDiff, Nat.zero_le, j0, e2, e3, e4, e5]
def kSc : List Str := ["shapes", "boxes", "root"]
def enRt : Option Br → Dt
  | none => .non
  | some t => enBr t
def enSc (Ss : List Sh) (rt : Option Br) : Dt := .ins "Scene" kSc [.lst (Ss.map enS), .lst ((Ss.map bndS).map enX), enRt rt]
def nums (k : Nat) : List Int := (List.range k).map fun i : Nat => (0 + (i : Int))
theorem mem_nums {k : Nat} {i : Int} : i ∈ nums k ↔ 0 ≤ i ∧ i < k := by
  unfold nums
  rw [List.mem_map]
  constructor
  · rintro ⟨j, hj, rfl⟩
    have := List.mem_range.mp hj
    omega
  · rintro ⟨h0, h1⟩
    exact ⟨i.toNat, List.mem_range.mpr (by omega), by omega⟩
structure ScOk (n : Nat) (Ss : List Sh) (rt : Option Br) : Prop where
  sh : ∀ S ∈ Ss, ShOk n S
  no : rt = none → Ss = []
  tr : ∀ t, rt = some t → t.ns.Perm (nums Ss.length) ∧ Wf n (bxA (Ss.map bndS)) t
  sz : ∀ t, rt = some t → t.size < 256
theorem lrg_eq {k : Nat} (h : k ≤ 16777216) : lrgD (.int (k : Int)) = some ((nums k).map .int) := by
  show (if 0 ≤ (k : Int) ∧ (k : Int) ≤ 16777216 then some (upTo 0 (k : Int).toNat) else none) = _
  rw [if_pos ⟨by omega, by omega⟩, Int.toNat_natCast]
  unfold upTo nums
  rw [List.map_map]
  rfl
theorem scene_init {n : Nat} {Ss : List Sh} (ok : ∀ S ∈ Ss, ShOk n S) (hl : Ss.length ≤ 384) : ∃ rt, ScOk n Ss rt ∧ ∀ x, I_Scene x [.lst (Ss.map enS)] = .ok (kSc, [.lst (Ss.map enS), .lst ((Ss.map bndS).map enX), enRt rt]) := by
  have hlen : lenD (.lst (Ss.map enS)) = some (.int (Ss.length : Int)) := by
    show some (Dt.int (Ss.map enS).length) = _
    rw [List.length_map]
  have bok : ∀ b ∈ Ss.map bndS, BOk n b := fun b h => by
    obtain ⟨S, hS, rfl⟩ := List.mem_map.mp h
    exact bnd_ok (ok S hS)
  -- what the def does, but for the tree
  have run : ∀ (x : Addr) (g : Sg), (seqS (forS (iterF (gv 1)) (setN 2) (xpS (callF 1 F_need_shape (consF (gv 2) nilF)))) (seqS (fldS 0 "Scene" "shapes" (lstF (unN listD (gb 1)))) (seqS (fldS 0 "Scene" "boxes" (lstF (lcF (iterF (gb 1)) [2] (setN 2) yes (callF 1 F_bounds (consF (gv 2) nilF))))) (seqS (fldS 0 "Scene" "root" (kc .non)) g)))) [.i x "Scene" [] [], .d (.lst (Ss.map enS)), .u]
      = g [.i x "Scene" kSc [.lst (Ss.map enS), .lst ((Ss.map bndS).map enX), .non], .d (.lst (Ss.map enS)), .u] ∨ ∃ d, (seqS (forS (iterF (gv 1)) (setN 2) (xpS (callF 1 F_need_shape (consF (gv 2) nilF)))) (seqS (fldS 0 "Scene" "shapes" (lstF (unN listD (gb 1)))) (seqS (fldS 0 "Scene" "boxes" (lstF (lcF (iterF (gb 1)) [2] (setN 2) yes (callF 1 F_bounds (consF (gv 2) nilF))))) (seqS (fldS 0 "Scene" "root" (kc .non)) g)))) [.i x "Scene" [] [], .d (.lst (Ss.map enS)), .u]
      = g [.i x "Scene" kSc [.lst (Ss.map enS), .lst ((Ss.map bndS).map enX), .non], .d (.lst (Ss.map enS)), .d d] := fun x g => by
    have loop : ∃ x2, (x2 = .u ∨ ∃ d, x2 = .d d) ∧ forGo (setN 2) (xpS (callF 1 F_need_shape (consF (gv 2) nilF))) (Ss.map enS) [.i x "Scene" [] [], .d (.lst (Ss.map enS)), .u] = .ok (.nx [.i x "Scene" [] [], .d (.lst (Ss.map enS)), x2]) := by
      refine for_ind (I := fun j ε => ∃ x2 : Lc, (x2 = .u ∨ ∃ d, x2 = .d d) ∧ ε = [.i x "Scene" [] [], .d (.lst (Ss.map enS)), x2]) (O := fun r => ∃ x2 : Lc, (x2 = .u ∨ ∃ d, x2 = .d d) ∧ r = .ok (.nx [.i x "Scene" [] [], .d (.lst (Ss.map enS)), x2])) ?_ ⟨_, .inl rfl, rfl⟩ ?_
      · rintro j d ε hd ⟨x2, _, rfl⟩
        rw [List.getElem?_map] at hd
        obtain ⟨S, hS, rfl⟩ := Option.map_eq_some_iff.mp hd
        refine ⟨[.i x "Scene" [] [], .d (.lst (Ss.map enS)), .d (enS S)], rfl, .inl ⟨[.i x "Scene" [] [], .d (.lst (Ss.map enS)), .d (enS S)], .inl ?_, _, .inr ⟨_, rfl⟩, rfl⟩⟩
        unfold xpS
        rw [c_1 (n := 1) (ds := [enS S]) rfl rfl (F_need_shape_ok (ok S (List.mem_of_getElem? hS))) rfl]
        rfl
      · rintro ε ⟨x2, hx, rfl⟩
        exact ⟨x2, hx, rfl⟩
    obtain ⟨x2, hx2, hf⟩ := loop
    have go : (seqS (forS (iterF (gv 1)) (setN 2) (xpS (callF 1 F_need_shape (consF (gv 2) nilF)))) (seqS (fldS 0 "Scene" "shapes" (lstF (unN listD (gb 1)))) (seqS (fldS 0 "Scene" "boxes" (lstF (lcF (iterF (gb 1)) [2] (setN 2) yes (callF 1 F_bounds (consF (gv 2) nilF))))) (seqS (fldS 0 "Scene" "root" (kc .non)) g)))) [.i x "Scene" [] [], .d (.lst (Ss.map enS)), .u]
      = g [.i x "Scene" kSc [.lst (Ss.map enS), .lst ((Ss.map bndS).map enX), .non], .d (.lst (Ss.map enS)), x2] := by
      show seqR (forS (iterF (gv 1)) _ _ [.i x "Scene" [] [], .d (.lst (Ss.map enS)), .u]) _ = _
      unfold forS
      rw [show iterF (gv 1) [.i x "Scene" [] [], .d (.lst (Ss.map enS)), .u] = .ok (Ss.map enS) from rfl, q_exS, q_okB, hf, q_nx]
      refine (s_fld (a := x) (ks := []) (xs := []) (d := .lst (Ss.map enS)) rfl rfl ⟨by decide, rfl⟩).trans ?_
      have lc : lcF (iterF (gb 1)) [2] (setN 2) yes (callF 1 F_bounds (consF (gv 2) nilF)) [.i x "Scene" ["shapes"] [.lst (Ss.map enS)], .d (.lst (Ss.map enS)), x2] = .ok (Ss.map fun S => enX (bndS S)) :=
        lcF_map (l := Ss) (en := enS) rfl (by omega) fun S hS => c_1 (n := 1) (ds := [enS S]) rfl rfl (F_bounds_S S) rfl
      refine (s_fld (a := x) (ks := ["shapes"]) (xs := [.lst (Ss.map enS)]) (d := .lst ((Ss.map bndS).map enX)) rfl (by rw [List.map_map]; exact e_lst lc) ⟨by decide, rfl⟩).trans ?_
      exact (s_fld (a := x) (ks := ["shapes", "boxes"]) (xs := [.lst (Ss.map enS), .lst ((Ss.map bndS).map enX)]) (d := .non) rfl rfl ⟨by decide, rfl⟩).trans rfl
    rcases hx2 with rfl | ⟨d, rfl⟩
    · exact .inl go
    · exact .inr ⟨d, go⟩
  have tst0 : ∀ (x : Addr) (x2 : Lc), tst (bin ne0D (un (fldD "Scene" "shapes") (gb 0)) (lstF (lsF nilF))) [.i x "Scene" kSc [.lst (Ss.map enS), .lst ((Ss.map bndS).map enX), .non], .d (.lst (Ss.map enS)), x2] = .ok (!(Ss.map enS).isEmpty) := fun x x2 =>
    e_tst (e_bin (e_un (x := .ins "Scene" kSc [.lst (Ss.map enS), .lst ((Ss.map bndS).map enX), .non]) rfl (z := .lst (Ss.map enS)) (by kernel_rfl)) (y := .lst []) rfl rfl)
  by_cases he : Ss = []
  · subst he
    refine ⟨none, ⟨ok, (fun _ => rfl), (fun _ z => nomatch z), (fun _ z => nomatch z)⟩, fun x => ?_⟩
    have fin : ∀ x2 : Lc, (ifS (tst (bin ne0D (un (fldD "Scene" "shapes") (gb 0)) (lstF (lsF nilF)))) (fldS 0 "Scene" "root" (callF 2 F_grown (consF (un (fldD "Scene" "boxes") (gb 0)) (consF (lstF (unN lrgD (un lenD (un (fldD "Scene" "shapes") (gb 0))))) nilF)))) (fun ε => .ok (.nx ε))) [.i x "Scene" kSc [.lst [], .lst [], .non], .d (.lst []), x2] = .ok (.nx [.i x "Scene" kSc [.lst [], .lst [], .non], .d (.lst []), x2]) := fun x2 => i_F (tst0 x x2)
    show initR x "Scene" (g_Scene___init__ [.i x "Scene" [] [], .d (.lst []), .u]) = _
    unfold g_Scene___init__
    rcases run x _ with e | ⟨d, e⟩
    · rw [show ([] : List Sh).map enS = [] from rfl] at e
      rw [e]
      exact (congrArg (initR x "Scene") (fin .u)).trans (if_pos ⟨rfl, rfl⟩)
    · rw [show ([] : List Sh).map enS = [] from rfl] at e
      rw [e]
      exact (congrArg (initR x "Scene") (fin (.d d))).trans (if_pos ⟨rfl, rfl⟩)
  · have h0 : 0 < Ss.length := List.length_pos_iff.mpr he
    have hne : nums Ss.length ≠ [] := fun z => by
      have := congrArg List.length z
      unfold nums at this
      rw [List.length_map, List.length_range, List.length_nil] at this
      omega
    have hln : (nums Ss.length).length = Ss.length := by unfold nums; rw [List.length_map, List.length_range]
    obtain ⟨t, ht, hp, hw, hz⟩ := grown_ok bok 7 (nums Ss.length) hne (by rw [hln]; show _ ≤ 384; exact hl) (by rw [hln]; omega) (fun i h => by rw [List.length_map]; exact mem_nums.mp h)
    have emp : (!(Ss.map enS).isEmpty) = true := by
      cases Ss with
      | nil => exact absurd rfl he
      | cons S l => rfl
    refine ⟨some t, ⟨ok, (fun z => nomatch z), fun t' z => by cases z; exact ⟨hp, hw⟩, fun t' z => by cases z; exact hz⟩, fun x => ?_⟩
    have fin : ∀ x2 : Lc, (ifS (tst (bin ne0D (un (fldD "Scene" "shapes") (gb 0)) (lstF (lsF nilF)))) (fldS 0 "Scene" "root" (callF 2 F_grown (consF (un (fldD "Scene" "boxes") (gb 0)) (consF (lstF (unN lrgD (un lenD (un (fldD "Scene" "shapes") (gb 0))))) nilF)))) (fun ε => .ok (.nx ε))) [.i x "Scene" kSc [.lst (Ss.map enS), .lst ((Ss.map bndS).map enX), .non], .d (.lst (Ss.map enS)), x2]
        = .ok (.nx [.i x "Scene" kSc [.lst (Ss.map enS), .lst ((Ss.map bndS).map enX), enBr t], .d (.lst (Ss.map enS)), x2]) := fun x2 => by
      refine (i_T ((tst0 x x2).trans (congrArg Rz.ok emp))).trans ?_
      have f1 : un (fldD "Scene" "boxes") (gb 0) [.i x "Scene" kSc [.lst (Ss.map enS), .lst ((Ss.map bndS).map enX), .non], .d (.lst (Ss.map enS)), x2] = .ok (.lst ((Ss.map bndS).map enX)) := e_un (x := .ins "Scene" kSc [.lst (Ss.map enS), .lst ((Ss.map bndS).map enX), .non]) rfl (by kernel_rfl)
      have f2 : un (fldD "Scene" "shapes") (gb 0) [.i x "Scene" kSc [.lst (Ss.map enS), .lst ((Ss.map bndS).map enX), .non], .d (.lst (Ss.map enS)), x2] = .ok (.lst (Ss.map enS)) := e_un (x := .ins "Scene" kSc [.lst (Ss.map enS), .lst ((Ss.map bndS).map enX), .non]) rfl (by kernel_rfl)
      have gr : callF 2 F_grown (consF (un (fldD "Scene" "boxes") (gb 0)) (consF (lstF (unN lrgD (un lenD (un (fldD "Scene" "shapes") (gb 0))))) nilF)) [.i x "Scene" kSc [.lst (Ss.map enS), .lst ((Ss.map bndS).map enX), .non], .d (.lst (Ss.map enS)), x2] = .ok (enBr t) :=
        c_1 (n := 2) (ds := [.lst ((Ss.map bndS).map enX), .lst ((nums Ss.length).map .int)]) (e_cons f1 (e_cons (e_lst (e_unN (e_un f2 hlen) (lrg_eq (by omega)))) rfl)) rfl ht rfl
      exact (q_fld (a := x) (ks := kSc) (xs := [.lst (Ss.map enS), .lst ((Ss.map bndS).map enX), .non]) rfl gr ⟨by decide, rfl⟩).trans (by kernel_rfl)
    show initR x "Scene" (g_Scene___init__ [.i x "Scene" [] [], .d (.lst (Ss.map enS)), .u]) = _
    unfold g_Scene___init__
    rcases run x _ with e | ⟨d, e⟩
    · rw [e]
      exact (congrArg (initR x "Scene") (fin .u)).trans (if_pos ⟨rfl, rfl⟩)
    · rw [e]
      exact (congrArg (initR x "Scene") (fin (.d d))).trans (if_pos ⟨rfl, rfl⟩)
theorem scene_make {n : Nat} {Ss : List Sh} (ok : ∀ S ∈ Ss, ShOk n S) (hl : Ss.length ≤ 384) : ∃ rt, ScOk n Ss rt ∧ ∀ (fs : Fs) (ε : Ev), fs ε = .ok [.lst (Ss.map enS)] → makeF "Scene" 2 I_Scene fs ε = .ok (enSc Ss rt) := by
  obtain ⟨rt, h1, h2⟩ := scene_init ok hl
  refine ⟨rt, h1, fun fs ε h => ?_⟩
  unfold makeF
  rw [h, Rz.bind_ok]
  show (if 1 + 1 = 2 then (oneX fun x => I_Scene x [.lst (Ss.map enS)]).bind fun r => Rz.ok (Dt.ins "Scene" r.1 r.2) else .bad) = _
  rw [if_pos rfl, oneX_eq h2]
  rfl
end DL
end
section
set_option Elab.async false
set_option linter.all false
set_option maxRecDepth 100000
set_option maxHeartbeats 4000000
set_option autoImplicit false
namespace DL
variable [TbC]
open PySem
/-! ### what is met first: times and numbers -/
abbrev Hit := Option (Fr × Int)
def hitD : Hit → Dt
  | none => .non
  | some x => .tup [fr x.1, .int x.2]
/-- the first of those told by m under P -/
def Bst (m : Int → Option Fr) (P : Int → Prop) : Hit → Prop
  | none => ∀ j, P j → m j = none
  | some x => P x.2 ∧ m x.2 = some x.1 ∧ ∀ j u, P j → m j = some u → gle x.1 u ∧ (gle u x.1 → x.2 ≤ j)
theorem Bst.cong {m : Int → Option Fr} {P Q : Int → Prop} {x : Hit} (h : Bst m P x) (e : ∀ j, P j ↔ Q j) : Bst m Q x := by
  cases x with
  | none => exact fun j hj => h j ((e j).mpr hj)
  | some x => exact ⟨(e _).mp h.1, h.2.1, fun j u hj => h.2.2 j u ((e j).mpr hj)⟩
theorem Bst.same {m : Int → Option Fr} {P : Int → Prop} (g : ∀ j u, m j = some u → Gt u) {x y : Hit} (h : Bst m P x) (k : Bst m P y) : x = y := by
  cases x with
  | none =>
    cases y with
    | none => rfl
    | some y => have := h y.2 k.1; rw [k.2.1] at this; cases this
  | some x =>
    cases y with
    | none => have := k x.2 h.1; rw [h.2.1] at this; cases this
    | some y =>
      have h1 := h.2.2 y.2 y.1 k.1 k.2.1
      have k1 := k.2.2 x.2 x.1 h.1 h.2.1
      have e1 : x.1 = y.1 := (g _ _ h.2.1).rd.anti (g _ _ k.2.1).rd h1.1 k1.1
      have i1 := h1.2 k1.1
      have i2 := k1.2 h1.1
      have e2 : x.2 = y.2 := by omega
      obtain ⟨a, b⟩ := x
      obtain ⟨c, d⟩ := y
      simp only at e1 e2
      rw [e1, e2]
instance (x y : Fr) : Decidable (gle x y) := inferInstanceAs (Decidable (_ ≤ _))
/-- one more is looked at -/
def upd1 (x : Hit) (w : Option Fr) (i : Int) : Hit := match w with
  | none => x
  | some t => match x with
    | none => some (t, i)
    | some y => if ¬ gle y.1 t ∨ (t = y.1 ∧ i < y.2) then some (t, i) else some y
theorem Bst.upd {m : Int → Option Fr} {P : Int → Prop} (g : ∀ j u, m j = some u → Gt u) {x : Hit} (h : Bst m P x) (i : Int) : Bst m (fun j => P j ∨ j = i) (upd1 x (m i) i) := by
  unfold upd1
  cases hm : m i with
  | none =>
    cases x with
    | none => exact fun j hj => hj.elim (h j) fun e => e ▸ hm
    | some y => exact ⟨.inl h.1, h.2.1, fun j u hj hu => hj.elim (fun z => h.2.2 j u z hu) fun e => by rw [e, hm] at hu; cases hu⟩
  | some t =>
    have gt := g i t hm
    cases x with
    | none =>
      refine ⟨.inr rfl, hm, fun j u hj hu => hj.elim (fun z => ?_) fun e => ?_⟩
      · have := h j z; rw [hu] at this; cases this
      · rw [e, hm] at hu
        cases hu
        exact ⟨gle_refl _, fun _ => by rw [e]; exact Int.le_refl _⟩
    | some y =>
      have gy := g _ _ h.2.1
      simp only
      by_cases c : ¬ gle y.1 t ∨ (t = y.1 ∧ i < y.2)
      · rw [if_pos c]
        have ty : gle t y.1 := by
          rcases c with c | c
          · exact gle_of_not c
          · rw [c.1]; exact gle_refl _
        refine ⟨.inr rfl, hm, fun j u hj hu => hj.elim (fun z => ?_) fun e => ?_⟩
        · have z2 := h.2.2 j u z hu
          have gu := g j u hu
          refine ⟨gle_trans gt.pos gy.pos gu.pos ty z2.1, fun hut => ?_⟩
          have yt : gle y.1 t := gle_trans gy.pos gu.pos gt.pos z2.1 hut
          rcases c with c | c
          · exact absurd yt c
          · have := z2.2 (by rw [← c.1]; exact hut)
            show i ≤ j
            omega
        · rw [e, hm] at hu
          cases hu
          exact ⟨gle_refl _, fun _ => by rw [e]; exact Int.le_refl _⟩
      · rw [if_neg c]
        have yt : gle y.1 t := Classical.byContradiction fun z => c (.inl z)
        refine ⟨.inl h.1, h.2.1, fun j u hj hu => hj.elim (fun z => h.2.2 j u z hu) fun e => ?_⟩
        rw [e, hm] at hu
        cases hu
        refine ⟨yt, fun ty => ?_⟩
        have et : t = y.1 := gt.rd.anti gy.rd ty yt
        have : ¬ i < y.2 := fun z => c (.inr ⟨et, z⟩)
        rw [e]
        omega
theorem Bst.fold {m : Int → Option Fr} (g : ∀ j u, m j = some u → Gt u) : ∀ (ns : List Int) {P : Int → Prop} {x : Hit}, Bst m P x → Bst m (fun j => P j ∨ j ∈ ns) (ns.foldl (fun y i => upd1 y (m i) i) x)
  | [], P, x, h => h.cong fun j => by simp
  | i :: ns, P, x, h => by
    have := Bst.fold g ns (h.upd g i)
    refine this.cong fun j => ?_
    rw [List.mem_cons, or_assoc]
/-- what cannot be met before is left out -/
theorem Bst.skip {m : Int → Option Fr} {P Q : Int → Prop} {x : Hit} (h : Bst m P x) (k : ∀ j u, Q j → m j = some u → ∃ y, x = some y ∧ gle y.1 u ∧ ¬ gle u y.1) : Bst m (fun j => P j ∨ Q j) x := by
  cases x with
  | none =>
    refine fun j hj => hj.elim (h j) fun z => ?_
    cases hm : m j with
    | none => rfl
    | some u =>
      obtain ⟨y, e, _⟩ := k j u z hm
      cases e
  | some x =>
    refine ⟨.inl h.1, h.2.1, fun j u hj hu => hj.elim (fun z => h.2.2 j u z hu) fun z => ?_⟩
    obtain ⟨y, e, k1, k2⟩ := k j u z hu
    cases e
    exact ⟨k1, fun z => absurd z k2⟩
/-! ### steps -/
theorem e_meth {cn m : Str} {n : Nat} {G : Fd} {fo : Fn} {fs : Fs} {ε : Ev} {d x : Dt} {ds : List Dt} {o : Oc} (h1 : fo ε = .ok x) (hs : selfD cn m x = some x) (h2 : fs ε = .ok ds) (hn : (x :: ds).length = n) (h3 : G (x :: ds) = .ok o) (h4 : o.dt = d) : methF cn m n G fo fs ε = .ok d := by
  unfold methF
  rw [e_un h1 hs, Rz.bind_ok, h2, Rz.bind_ok, if_pos hn, h3, Rz.bind_ok, h4]
theorem wh_F {t : Tf} {b : Sg} {ε : Ev} (h : t ε = .ok false) : whS t b ε = .ok (.nx ε) := by
  rw [whS_step]
  unfold whT
  rw [h]
  rfl
theorem wh_T {t : Tf} {b : Sg} {ε ε' : Ev} (h : t ε = .ok true) (hb : b ε = .ok (.nx ε') ∨ b ε = .ok (.ct ε')) : whS t b ε = whS t b ε' := by
  conv => lhs; rw [whS_step]
  unfold whT
  rw [h, q_exS, q_okB, if_pos rfl]
  rcases hb with e | e <;> (rw [e]; rfl)
theorem self_sc {m : Str} {Ss : List Sh} {rt : Option Br} (h : kSc.contains m = false) : selfD "Scene" m (enSc Ss rt) = some (enSc Ss rt) := if_pos ⟨rfl, h⟩
theorem fld_sh (Ss : List Sh) (rt : Option Br) : fldD "Scene" "shapes" (enSc Ss rt) = some (.lst (Ss.map enS)) := by kernel_rfl
theorem fld_rt (Ss : List Sh) (rt : Option Br) : fldD "Scene" "root" (enSc Ss rt) = some (enRt rt) := by kernel_rfl
theorem fld_bx (t : Br) : fldD "Branch" "box" (enBr t) = some (enX t.box) := by cases t <;> kernel_rfl
theorem fld_lf (t : Br) : fldD "Branch" "left" (enBr t) = some (match t with | .lf _ _ => .non | .nd _ l _ => enBr l) := by cases t <;> kernel_rfl
theorem fld_rg (t : Br) : fldD "Branch" "right" (enBr t) = some (match t with | .lf _ _ => .non | .nd _ _ r => enBr r) := by cases t <;> kernel_rfl
def Br.own : Br → List Int
  | .lf _ ns => ns
  | .nd _ _ _ => []
theorem fld_ns (t : Br) : fldD "Branch" "numbers" (enBr t) = some (.lst (t.own.map .int)) := by cases t <;> kernel_rfl
theorem eq_frr (x y : Fr) : eqD (fr x) (fr y) = some (.bl (decide (x = y))) := by
  rw [eqD_of (n := 1) rfl rfl (by decide)]
  unfold fr
  rw [eqq_tup, eqqs_cons, eqqs_cons, eqqs_nil, eqq_int, eqq_int]
  obtain ⟨a, b⟩ := x
  obtain ⟨c, d⟩ := y
  simp only [Prod.mk.injEq]
  by_cases h1 : a = c <;> by_cases h2 : b = d <;> simp [h1, h2]
theorem less_gt {x y : Fr} (h : Gt x) (k : Gt y) : F_is_less [fr x, fr y] = .ok (.va (.bl (!decide (gle y x)))) := F_is_less_eq h.b1 h.b2 k.b1 k.b2 (by decide) (by decide)
/-- when the i-th shape is met -/
noncomputable def mI (s w : P3) (Ss : List Sh) (i : Int) : Option Fr := if 0 ≤ i then (match Ss[i.toNat]? with
  | some S => mS s w S
  | none => none) else none
structure RayOk (s w : P3) : Prop where
  bs : BdN 400 s
  bw : BdN 400 w
  nz : w ≠ (0, 0, 0)
theorem mI_at {s w : P3} {Ss : List Sh} {i : Int} (h0 : 0 ≤ i) (h1 : i < Ss.length) : ∃ S, S ∈ Ss ∧ Ss[i.toNat]? = some S ∧ mI s w Ss i = mS s w S ∧ ixD (.lst (Ss.map enS)) (.int i) = some (enS S) := by
  have hj : i.toNat < Ss.length := by omega
  refine ⟨Ss[i.toNat], List.getElem_mem hj, List.getElem?_eq_getElem hj, ?_, ?_⟩
  · unfold mI
    rw [if_pos h0, List.getElem?_eq_getElem hj]
  · obtain ⟨j, rfl⟩ : ∃ j : Nat, i = j := ⟨i.toNat, by omega⟩
    have hj' : j < Ss.length := by omega
    refine L2.atI_nat ?_
    rw [List.getElem?_map, List.getElem?_eq_getElem hj']
    simp
theorem mI_gt {s w : P3} {Ss : List Sh} (R : RayOk s w) (ok : ∀ S ∈ Ss, ShOk 400 S) : ∀ j u, mI s w Ss j = some u → Gt u := fun j u h => by
  unfold mI at h
  split at h
  · cases hS : Ss[j.toNat]? with
    | none => rw [hS] at h; cases h
    | some S =>
      rw [hS] at h
      exact ((F_meets_hi R.bs R.bw (ok S (List.mem_of_getElem? hS)) R.nz).2.g u h).1
  · cases h
def sizes (W : List Br) : Nat := (W.map Br.size).sum
theorem br_size (t : Br) : 1 ≤ t.size := by cases t <;> (unfold Br.size; omega)
theorem len_sizes : ∀ W : List Br, W.length ≤ sizes W
  | [] => Nat.le_refl _
  | u :: l => by
    have h1 := br_size u
    have h2 := len_sizes l
    unfold sizes at *
    rw [List.map_cons, List.sum_cons, List.length_cons]
    omega
/-- one's turn at the heap of branches -/
theorem q_popV {i j : Nat} {ε : Ev} {ds : List Dt} {d : Dt} (h : ε[i]? = some (.o (ds ++ [d]))) : popVS i j ε = .ok (.nx ((ε.set i (.o ds)).set j (.d d))) := by
  unfold popVS
  rw [h]
  show (match (ds ++ [d])[(ds ++ [d]).length - 1]? with | some d' => _ | none => _) = _
  have e : (ds ++ [d])[(ds ++ [d]).length - 1]? = some d := by simp
  rw [e]
  show Rz.ok (Re.nx ((ε.set i (.o (ds ++ [d]).dropLast)).set j (.d d))) = _
  rw [List.dropLast_concat]
theorem q_ext {i : Nat} {f : Fn} {ε : Ev} {ds es : List Dt} (h : ε[i]? = some (.o ds)) (hf : f ε = .ok (.lst es)) (hl : ds.length + es.length ≤ 16777216) : extS i f ε = .ok (.nx (ε.set i (.o (ds ++ es)))) := by
  unfold extS chS
  rw [h]
  show (exS ε (consF f nilF ε)).bind _ = _
  rw [e_cons hf rfl, q_exS, q_okB]
  show (match extK ds [.lst es] with | some es => _ | none => _) = _
  have : extK ds [.lst es] = some (ds ++ es) := if_pos (by rw [sizeLine_eq]; exact hl)
  rw [this]
theorem F_need_ray_ok {s w : P3} (h : w ≠ (0, 0, 0)) : F_need_ray [rayD s w] = .ok (.va .non) := by
  have i1 : ixD (rayD s w) (.int 1) = some (en w) := rfl
  simp only [F_need_ray, g_need_ray, bodyF, startE, seqS, stS, stO, rtS, roS, roV, asS, ifS, xpS, bin, un, unN, lstF, lsF, consF, nilF, tupF, kc, gv, gb, tst, andT, orT, notT, andV, orV, notV, ifV, callF, callN, iterF, rngF, walked, slF, noP, soP, setN, setT, setCons, setNil, wipeE, yes, forS, prS, Rz.bind_ok, q_ofO, q_ofN, q_bad, q_ex, q_exS, q_exX, q_exB, q_okB, q_nx, q_rt, q_ro, q_bk, q_ct, q_sx, q_anx, q_act, q_abk, q_art, q_bnx, q_brt, q_bro, q_bex, q_va, q_ow, q_boo, add_int, sub_int, lt_int, le_int, gt_int, ge_int, neg_int, List.map_cons, List.map_nil, List.length_cons, List.length_nil, List.nil_append, List.cons_append, List.replicate, List.getElem?_cons_zero, List.getElem?_cons_succ, env_set0, env_setS, Option.bind_some, Option.map_some, if_true, Bool.false_eq_true, if_false, Nat.reduceAdd, Nat.reduceSub, sizeLine_eq, Nat.reduceLeDiff, Nat.zero_le, i1, eqz, decide_eq_false h]
theorem F_need_ray_no {s w : P3} (h : w = (0, 0, 0)) : F_need_ray [rayD s w] = .ex "NoRay" := by
  have i1 : ixD (rayD s w) (.int 1) = some (en w) := rfl
  unfold F_need_ray bodyF g_need_ray
  show bodyR (ifS _ _ _ [.d (rayD s w)]) = _
  rw [i_T (e_tst (e_bin (e_bin rfl rfl i1) rfl ((eqz w).trans (congrArg (fun b => some (Dt.bl b)) (decide_eq_true h)))))]
  rfl
theorem c_exS {n : Nat} {G : Fd} {fs : Fs} {ε : Ev} {c : Str} {ds : List Dt} (h1 : fs ε = .ok ds) (h2 : ds.length = n) (h3 : G ds = .ex c) : callF n G fs ε = .ex c := by
  unfold callF
  rw [h1, Rz.bind_ok, if_pos h2, h3]
  rfl
end DL
end
section
set_option Elab.async false
set_option linter.all false
set_option maxRecDepth 100000
set_option maxHeartbeats 4000000
set_option autoImplicit false
namespace DL
variable [TbC]
open PySem
theorem F_better_eq {s w : P3} {Ss : List Sh} {rt : Option Br} (R : RayOk s w) (ok : ∀ S ∈ Ss, ShOk 400 S) {t : Br} (ht : ∀ i ∈ t.ns, 0 ≤ i ∧ i < Ss.length) {x : Hit} (hx : ∀ y, x = some y → Gt y.1) :
    F_Scene_better [enSc Ss rt, rayD s w, enBr t, hitD x] = .ok (.va (hitD (t.own.foldl (fun y i => upd1 y (mI s w Ss i) i) x))) := by
  obtain ⟨ns, hns⟩ : ∃ ns, ns = t.own := ⟨_, rfl⟩
  have hi : ∀ i ∈ ns, 0 ≤ i ∧ i < Ss.length := fun i h => by
    cases t with
    | lf b ms => rw [hns] at h; exact ht i h
    | nd b l r => rw [hns] at h; cases h
  have fn := fld_ns t
  rw [← hns] at fn ⊢
  have n0 : isND .non .non = some (.bl true) := rfl
  have n1 : ∀ y : Fr × Int, isND (hitD (some y)) .non = some (.bl false) := fun _ => rfl
  have n2 : notND .non .non = some (.bl false) := rfl
  have n3 : ∀ y : Fr, notND (fr y) .non = some (.bl true) := fun _ => rfl
  have gtI := mI_gt R ok
  have main : ∃ (x4 x5 : Lc), forGo (setN 4) (seqS (stS 5 (callF 2 F_meets (consF (gv 1) (consF (bin ixD (un (fldD "Scene" "shapes") (gb 0)) (gb 4)) nilF)))) (ifS (tst (bin notND (gb 5) (kc .non))) (ifS (orT (tst (bin isND (gb 3) (kc .non))) (orT (tst (callF 2 F_is_less (consF (gv 5) (consF (bin ixD (gb 3) (kc (.int 0))) nilF)))) (andT (tst (bin eqD (gb 5) (bin ixD (gb 3) (kc (.int 0))))) (tst (bin ltD (gb 4) (bin ixD (gb 3) (kc (.int 1)))))))) (stS 3 (tupF (consF (gv 5) (consF (gv 4) nilF)))) (fun ε => .ok (.nx ε))) (fun ε => .ok (.nx ε)))) (ns.map .int)
      [.d (enSc Ss rt), .d (rayD s w), .d (enBr t), .d (hitD x), .u, .u] = .ok (.nx [.d (enSc Ss rt), .d (rayD s w), .d (enBr t), .d (hitD (ns.foldl (fun y i => upd1 y (mI s w Ss i) i) x)), x4, x5]) := by
    refine for_ind (I := fun j ε => ∃ (x4 x5 : Lc), (∀ y, (ns.take j).foldl (fun y i => upd1 y (mI s w Ss i) i) x = some y → Gt y.1) ∧ ε = [.d (enSc Ss rt), .d (rayD s w), .d (enBr t), .d (hitD ((ns.take j).foldl (fun y i => upd1 y (mI s w Ss i) i) x)), x4, x5])
      (O := fun r => ∃ (x4 x5 : Lc), r = .ok (.nx [.d (enSc Ss rt), .d (rayD s w), .d (enBr t), .d (hitD (ns.foldl (fun y i => upd1 y (mI s w Ss i) i) x)), x4, x5])) ?_ ⟨_, _, hx, rfl⟩ ?_
    · rintro j d ε hd ⟨x4, x5, hg, rfl⟩
      rw [List.getElem?_map] at hd
      obtain ⟨i, hij, rfl⟩ := Option.map_eq_some_iff.mp hd
      have ki := hi i (List.mem_of_getElem? hij)
      obtain ⟨S, hS, _, em, ix⟩ := mI_at (s := s) (w := w) ki.1 ki.2
      have mt := (F_meets_hi R.bs R.bw (ok S hS) R.nz).1
      rw [← em] at mt
      have e1 : (ns.take (j + 1)).foldl (fun y i => upd1 y (mI s w Ss i) i) x = upd1 ((ns.take j).foldl (fun y i => upd1 y (mI s w Ss i) i) x) (mI s w Ss i) i := by
        rw [List.take_succ, hij, List.foldl_append]
        rfl
      rw [e1]
      generalize (ns.take j).foldl (fun y i => upd1 y (mI s w Ss i) i) x = z at hg
      have call : callF 2 F_meets (consF (gv 1) (consF (bin ixD (un (fldD "Scene" "shapes") (gb 0)) (gb 4)) nilF)) [.d (enSc Ss rt), .d (rayD s w), .d (enBr t), .d (hitD z), .d (.int i), x5] = .ok (hiD (mI s w Ss i)) :=
        c_1 (n := 2) (ds := [rayD s w, enS S]) (e_cons rfl (e_cons (e_bin (e_un rfl (fld_sh _ _)) rfl ix) rfl)) rfl mt rfl
      refine ⟨[.d (enSc Ss rt), .d (rayD s w), .d (enBr t), .d (hitD z), .d (.int i), x5], rfl, .inl ⟨[.d (enSc Ss rt), .d (rayD s w), .d (enBr t), .d (hitD (upd1 z (mI s w Ss i) i)), .d (.int i), .d (hiD (mI s w Ss i))], .inl ?_, _, _, ?_, rfl⟩⟩
      · refine (s_st call).trans ?_
        cases hm : mI s w Ss i with
        | none => exact i_F (e_tst (e_bin rfl rfl n2))
        | some u =>
          have gu := gtI i u hm
          refine (i_T (e_tst (e_bin rfl rfl (n3 u)))).trans ?_
          have put : stS 3 (tupF (consF (gv 5) (consF (gv 4) nilF))) [.d (enSc Ss rt), .d (rayD s w), .d (enBr t), .d (hitD z), .d (.int i), .d (fr u)] = .ok (.nx [.d (enSc Ss rt), .d (rayD s w), .d (enBr t), .d (hitD (some (u, i))), .d (.int i), .d (fr u)]) := by
            unfold stS
            rw [e_tup (e_cons rfl (e_cons rfl rfl)) (by show 2 ≤ 16777216; decide)]
            rfl
          cases z with
          | none =>
            refine (i_T ?_).trans put
            unfold orT
            rw [e_tst (e_bin rfl rfl n0)]
            rfl
          | some y =>
            have gy := hg y rfl
            have i0 : ixD (hitD (some y)) (.int 0) = some (fr y.1) := rfl
            have i1 : ixD (hitD (some y)) (.int 1) = some (.int y.2) := rfl
            have ls := less_gt gu gy
            have ev : orT (tst (bin isND (gb 3) (kc .non))) (orT (tst (callF 2 F_is_less (consF (gv 5) (consF (bin ixD (gb 3) (kc (.int 0))) nilF)))) (andT (tst (bin eqD (gb 5) (bin ixD (gb 3) (kc (.int 0))))) (tst (bin ltD (gb 4) (bin ixD (gb 3) (kc (.int 1))))))) [.d (enSc Ss rt), .d (rayD s w), .d (enBr t), .d (hitD (some y)), .d (.int i), .d (fr u)] = .ok (decide (¬ gle y.1 u ∨ (u = y.1 ∧ i < y.2))) := by
              have c1 : tst (callF 2 F_is_less (consF (gv 5) (consF (bin ixD (gb 3) (kc (.int 0))) nilF))) [.d (enSc Ss rt), .d (rayD s w), .d (enBr t), .d (hitD (some y)), .d (.int i), .d (fr u)] = .ok (!decide (gle y.1 u)) := e_tst (c_1 (n := 2) (ds := [fr u, fr y.1]) (e_cons rfl (e_cons (e_bin rfl rfl i0) rfl)) rfl ls rfl)
              have c2 : tst (bin eqD (gb 5) (bin ixD (gb 3) (kc (.int 0)))) [.d (enSc Ss rt), .d (rayD s w), .d (enBr t), .d (hitD (some y)), .d (.int i), .d (fr u)] = .ok (decide (u = y.1)) := e_tst (e_bin rfl (e_bin rfl rfl i0) (eq_frr _ _))
              have c3 : tst (bin ltD (gb 4) (bin ixD (gb 3) (kc (.int 1)))) [.d (enSc Ss rt), .d (rayD s w), .d (enBr t), .d (hitD (some y)), .d (.int i), .d (fr u)] = .ok (decide (i < y.2)) := e_tst (e_bin rfl (e_bin rfl rfl i1) (lt_int _ _))
              unfold orT andT
              rw [e_tst (e_bin rfl rfl (n1 y)), Rz.bind_ok]
              simp only [Bool.false_eq_true, if_false]
              rw [c1, Rz.bind_ok]
              by_cases k1 : gle y.1 u
              · rw [decide_eq_true k1]
                simp only [Bool.not_true, Bool.false_eq_true, if_false]
                rw [c2, Rz.bind_ok]
                by_cases k2 : u = y.1
                · rw [decide_eq_true k2]
                  simp only [if_true]
                  rw [c3]
                  refine congrArg Rz.ok (decide_eq_decide.mpr ⟨fun h => .inr ⟨k2, h⟩, fun h => h.elim (fun z => absurd k1 z) fun z => z.2⟩)
                · rw [decide_eq_false k2]
                  simp only [Bool.false_eq_true, if_false]
                  exact congrArg Rz.ok (decide_eq_false (fun h => h.elim (fun z => z k1) fun z => k2 z.1)).symm
              · rw [decide_eq_false k1]
                simp only [Bool.not_false, if_true]
                exact congrArg Rz.ok (decide_eq_true (.inl k1)).symm
            unfold upd1
            simp only
            by_cases c : ¬ gle y.1 u ∨ (u = y.1 ∧ i < y.2)
            · rw [if_pos c]
              rw [decide_eq_true c] at ev
              exact (i_T ev).trans put
            · rw [if_neg c]
              rw [decide_eq_false c] at ev
              exact i_F ev
      · intro y hy
        unfold upd1 at hy
        cases hm : mI s w Ss i with
        | none => rw [hm] at hy; exact hg y hy
        | some u =>
          rw [hm] at hy
          have gu := gtI i u hm
          cases z with
          | none => cases hy; exact gu
          | some v =>
            simp only at hy
            split at hy
            · cases hy; exact gu
            · cases hy; exact hg _ rfl
    · rintro ε ⟨x4, x5, _, rfl⟩
      rw [List.length_map, List.take_length]
      exact ⟨x4, x5, rfl⟩
  obtain ⟨x4, x5, hf⟩ := main
  unfold F_Scene_better
  refine b_rt ?_
  unfold g_Scene_better
  show seqR (forS _ _ _ [.d (enSc Ss rt), .d (rayD s w), .d (enBr t), .d (hitD x), .u, .u]) _ = _
  unfold forS
  rw [show iterF (un (fldD "Branch" "numbers") (gb 2)) [.d (enSc Ss rt), .d (rayD s w), .d (enBr t), .d (hitD x), .u, .u] = .ok (ns.map .int) from by unfold iterF; rw [e_un (x := enBr t) rfl fn]; rfl, q_exS, q_okB, hf, q_nx]
  exact s_rt rfl
end DL
end
section
set_option Elab.async false
set_option linter.all false
set_option maxRecDepth 100000
set_option maxHeartbeats 4000000
set_option autoImplicit false
namespace DL
variable [TbC]
open PySem
/-! ### first, of a scene -/
theorem F_nearer_eq {s w : P3} {Ss : List Sh} {rt : Option Br} (R : RayOk s w) {b : Bo} {l r : Br} (hl : BOk 400 l.box) (hr : BOk 400 r.box) :
    ∃ x y : Br, (x = l ∧ y = r ∨ x = r ∧ y = l) ∧ F_Scene_nearer_last [enSc Ss rt, rayD s w, enBr (.nd b l r)] = .ok (.va (.lst [enBr x, enBr y])) := by
  obtain ⟨m1, f1⟩ := F_meets_box_hi R.bs R.bw hl R.nz
  obtain ⟨m2, f2⟩ := F_meets_box_hi R.bs R.bw hr R.nz
  have n0 : isND .non .non = some (.bl true) := rfl
  have n1 : ∀ y : Fr, isND (fr y) .non = some (.bl false) := fun _ => rfl
  have n2 : notND .non .non = some (.bl false) := rfl
  have n3 : ∀ y : Fr, notND (fr y) .non = some (.bl true) := fun _ => rfl
  have lf := fld_lf (.nd b l r)
  have rg := fld_rg (.nd b l r)
  have st1 : ∀ (x3 x4 : Lc), callF 2 F_meets_box (consF (gv 1) (consF (un (fldD "Branch" "box") (un (fldD "Branch" "left") (gb 2))) nilF)) [.d (enSc Ss rt), .d (rayD s w), .d (enBr (.nd b l r)), x3, x4] = .ok (hiD (mB s w l.box)) := fun x3 x4 =>
    c_1 (n := 2) (ds := [rayD s w, enX l.box]) (e_cons rfl (e_cons (e_un (e_un rfl lf) (fld_bx l)) rfl)) rfl m1 rfl
  have st2 : ∀ (x3 x4 : Lc), callF 2 F_meets_box (consF (gv 1) (consF (un (fldD "Branch" "box") (un (fldD "Branch" "right") (gb 2))) nilF)) [.d (enSc Ss rt), .d (rayD s w), .d (enBr (.nd b l r)), x3, x4] = .ok (hiD (mB s w r.box)) := fun x3 x4 =>
    c_1 (n := 2) (ds := [rayD s w, enX r.box]) (e_cons rfl (e_cons (e_un (e_un rfl rg) (fld_bx r)) rfl)) rfl m2 rfl
  obtain ⟨q, hq⟩ : ∃ q : Bool, andT (tst (bin notND (gb 3) (kc .non))) (orT (tst (bin isND (gb 4) (kc .non))) (tst (callF 2 F_is_less (consF (gv 3) (consF (gv 4) nilF))))) [.d (enSc Ss rt), .d (rayD s w), .d (enBr (.nd b l r)), .d (hiD (mB s w l.box)), .d (hiD (mB s w r.box))] = .ok q := by
    cases h1 : mB s w l.box with
    | none =>
      refine ⟨false, ?_⟩
      unfold andT
      rw [e_tst (e_bin rfl rfl n2)]
      rfl
    | some u =>
      cases h2 : mB s w r.box with
      | none =>
        refine ⟨true, ?_⟩
        unfold andT orT
        rw [e_tst (e_bin rfl rfl (n3 u)), Rz.bind_ok, if_pos rfl, e_tst (e_bin rfl rfl n0)]
        rfl
      | some v =>
        refine ⟨!decide (gle v u), ?_⟩
        have ls := less_gt (f1.g u h1).1 (f2.g v h2).1
        unfold andT orT
        rw [e_tst (e_bin rfl rfl (n3 u)), Rz.bind_ok, if_pos rfl, e_tst (e_bin rfl rfl (n1 v)), Rz.bind_ok, if_neg Bool.false_ne_true]
        exact e_tst (c_1 (n := 2) (ds := [fr u, fr v]) rfl rfl ls rfl)
  unfold F_Scene_nearer_last g_Scene_nearer_last
  have go : ∀ g : Sg, bodyF 5 (seqS (stS 3 (callF 2 F_meets_box (consF (gv 1) (consF (un (fldD "Branch" "box") (un (fldD "Branch" "left") (gb 2))) nilF)))) (seqS (stS 4 (callF 2 F_meets_box (consF (gv 1) (consF (un (fldD "Branch" "box") (un (fldD "Branch" "right") (gb 2))) nilF)))) g)) [enSc Ss rt, rayD s w, enBr (.nd b l r)]
      = bodyR (g [.d (enSc Ss rt), .d (rayD s w), .d (enBr (.nd b l r)), .d (hiD (mB s w l.box)), .d (hiD (mB s w r.box))]) := fun g => by
    unfold bodyF
    show bodyR (seqS _ _ [.d (enSc Ss rt), .d (rayD s w), .d (enBr (.nd b l r)), .u, .u]) = _
    rw [s_st (st1 _ _)]
    show bodyR (seqS _ _ [.d (enSc Ss rt), .d (rayD s w), .d (enBr (.nd b l r)), .d (hiD (mB s w l.box)), .u]) = _
    rw [s_st (st2 _ _)]
    rfl
  cases q with
  | true =>
    refine ⟨r, l, .inr ⟨rfl, rfl⟩, ?_⟩
    rw [go, s_ifT hq]
    rw [s_rt (e_lst (ds := [enBr r, enBr l]) (by
      unfold lsF
      rw [e_cons (e_un rfl rg) (e_cons (e_un rfl lf) rfl)]
      rfl))]
    rfl
  | false =>
    refine ⟨l, r, .inl ⟨rfl, rfl⟩, ?_⟩
    rw [go, s_ifF hq]
    rw [s_rt (e_lst (ds := [enBr l, enBr r]) (by
      unfold lsF
      rw [e_cons (e_un rfl lf) (e_cons (e_un rfl rg) rfl)]
      rfl))]
    rfl
def fiT : Tf := tst (bin ne0D (gb 3) (lstF (lsF nilF)))
noncomputable def fiB : Sg := seqS (popVS 3 4) (seqS (stS 5 (callF 2 F_meets_box (consF (gv 1) (consF (un (fldD "Branch" "box") (gb 4)) nilF)))) (seqS (ifS (orT (tst (bin isND (gb 5) (kc .non))) (andT (tst (bin notND (gb 2) (kc .non))) (tst (callF 2 F_is_less (consF (bin ixD (gb 2) (kc (.int 0))) (consF (gv 5) nilF)))))) (fun ε => .ok (.ct ε)) (fun ε => .ok (.nx ε))) (seqS (stS 2 (methF "Scene" "better" 4 F_Scene_better (gv 0) (consF (gv 1) (consF (gv 4) (consF (gv 2) nilF))))) (ifS (tst (bin notND (un (fldD "Branch" "left") (gb 4)) (kc .non))) (extS 3 (methF "Scene" "nearer_last" 3 F_Scene_nearer_last (gv 0) (consF (gv 1) (consF (gv 4) nilF)))) (fun ε => .ok (.nx ε))))))
theorem fi_loop {s w : P3} {Ss : List Sh} {rt : Option Br} (R : RayOk s w) (ok : ∀ S ∈ Ss, ShOk 400 S) : ∀ (k : Nat) (W : List Br) (P : Int → Prop) (x : Hit) (x4 x5 : Lc), sizes W = k → k < 100000 → Bst (mI s w Ss) P x → (∀ t ∈ W, Wf 400 (bxA (Ss.map bndS)) t ∧ ∀ i ∈ t.ns, 0 ≤ i ∧ i < Ss.length) →
    ∃ (y : Hit) (y4 y5 : Lc), whS fiT fiB [.d (enSc Ss rt), .d (rayD s w), .d (hitD x), .o (W.map enBr), x4, x5] = .ok (.nx [.d (enSc Ss rt), .d (rayD s w), .d (hitD y), .o [], y4, y5]) ∧ Bst (mI s w Ss) (fun i => P i ∨ ∃ t ∈ W, i ∈ t.ns) y := by
  have gtI := mI_gt R ok
  have n0 : isND .non .non = some (.bl true) := rfl
  have n1 : ∀ y : Fr, isND (fr y) .non = some (.bl false) := fun _ => rfl
  have n2 : notND .non .non = some (.bl false) := rfl
  have n3 : ∀ y : Fr × Int, notND (hitD (some y)) .non = some (.bl true) := fun _ => rfl
  have tW : ∀ (W : List Dt) (x : Hit) (x4 x5 : Lc), fiT [.d (enSc Ss rt), .d (rayD s w), .d (hitD x), .o W, x4, x5] = .ok (!W.isEmpty) := fun W x x4 x5 => e_tst (e_bin (x := .lst W) (q_gbo rfl) (y := .lst []) rfl rfl)
  intro k
  induction k using Nat.strongRecOn with
  | _ k ih =>
    intro W P x x4 x5 hk hk5 hB hW
    rcases List.eq_nil_or_concat W with rfl | ⟨W', t, rfl⟩
    · exact ⟨x, x4, x5, wh_F (tW [] x x4 x5), hB.cong fun j => ⟨.inl, fun z => z.elim id fun ⟨_, h, _⟩ => nomatch h⟩⟩
    · rw [List.concat_eq_append] at *
      obtain ⟨wt, nt⟩ := hW t (by simp)
      have hW' : ∀ u ∈ W', Wf 400 (bxA (Ss.map bndS)) u ∧ ∀ i ∈ u.ns, 0 ≤ i ∧ i < Ss.length := fun u hu => hW u (List.mem_append_left _ hu)
      have st := br_size t
      have hsz : sizes (W' ++ [t]) = sizes W' + t.size := by unfold sizes; rw [List.map_append, List.sum_append]; simp
      rw [hsz] at hk
      obtain ⟨mb, fb⟩ := F_meets_box_hi R.bs R.bw wt.ok R.nz
      have tt := tW ((W' ++ [t]).map enBr) x x4 x5
      have emp : (!((W' ++ [t]).map enBr).isEmpty) = true := by rw [List.map_append]; simp
      rw [emp] at tt
      have pop : ∀ g : Sg, seqS (popVS 3 4) g [.d (enSc Ss rt), .d (rayD s w), .d (hitD x), .o ((W' ++ [t]).map enBr), x4, x5] = g [.d (enSc Ss rt), .d (rayD s w), .d (hitD x), .o (W'.map enBr), .d (enBr t), x5] := fun g => by
        unfold seqS
        rw [q_popV (ds := W'.map enBr) (d := enBr t) (by rw [List.map_append]; rfl)]
        rfl
      have bx : callF 2 F_meets_box (consF (gv 1) (consF (un (fldD "Branch" "box") (gb 4)) nilF)) [.d (enSc Ss rt), .d (rayD s w), .d (hitD x), .o (W'.map enBr), .d (enBr t), x5] = .ok (hiD (mB s w t.box)) :=
        c_1 (n := 2) (ds := [rayD s w, enX t.box]) (e_cons rfl (e_cons (e_un rfl (fld_bx t)) rfl)) rfl mb rfl
      -- what the box tells of the shapes in it
      have low : ∀ j u, j ∈ t.ns → mI s w Ss j = some u → ∃ v, mB s w t.box = some v ∧ gle v u := fun j u hj hu => by
        obtain ⟨S, hS, hSj, em, _⟩ := mI_at (s := s) (w := w) (nt j hj).1 (nt j hj).2
        have sb := wt.sub j hj
        have ebx : bxA (Ss.map bndS) j = bndS S := by
          show (Ss.map bndS).getD j.toNat _ = _
          rw [List.getD_eq_getElem?_getD, List.getElem?_map, hSj]
          rfl
        rw [ebx] at sb
        rw [em] at hu
        exact box_first fb (F_meets_hi R.bs R.bw (ok S hS) R.nz).2 sb u hu
      -- left out
      have skip : (∀ j u, j ∈ t.ns → mI s w Ss j = some u → ∃ y, x = some y ∧ gle y.1 u ∧ ¬ gle u y.1) → orT (tst (bin isND (gb 5) (kc .non))) (andT (tst (bin notND (gb 2) (kc .non))) (tst (callF 2 F_is_less (consF (bin ixD (gb 2) (kc (.int 0))) (consF (gv 5) nilF))))) [.d (enSc Ss rt), .d (rayD s w), .d (hitD x), .o (W'.map enBr), .d (enBr t), .d (hiD (mB s w t.box))] = .ok true →
          ∃ (y : Hit) (y4 y5 : Lc), whS fiT fiB [.d (enSc Ss rt), .d (rayD s w), .d (hitD x), .o ((W' ++ [t]).map enBr), x4, x5] = .ok (.nx [.d (enSc Ss rt), .d (rayD s w), .d (hitD y), .o [], y4, y5]) ∧ Bst (mI s w Ss) (fun i => P i ∨ ∃ u ∈ W' ++ [t], i ∈ u.ns) y := fun hsk ht => by
        obtain ⟨y, y4, y5, h1, h2⟩ := ih (sizes W') (by omega) W' (fun j => P j ∨ j ∈ t.ns) x (.d (enBr t)) (.d (hiD (mB s w t.box))) rfl (by omega) (hB.skip hsk) hW'
        refine ⟨y, y4, y5, ?_, h2.cong fun j => ?_⟩
        · rw [wh_T (ε' := [.d (enSc Ss rt), .d (rayD s w), .d (hitD x), .o (W'.map enBr), .d (enBr t), .d (hiD (mB s w t.box))]) tt (.inr ?_), h1]
          unfold fiB
          rw [pop, s_st bx]
          exact s_ifT ht
        · constructor
          · rintro ((h | h) | ⟨u, hu, hj⟩)
            · exact .inl h
            · exact .inr ⟨t, by simp, h⟩
            · exact .inr ⟨u, List.mem_append_left _ hu, hj⟩
          · rintro (h | ⟨u, hu, hj⟩)
            · exact .inl (.inl h)
            · rcases List.mem_append.mp hu with hu | hu
              · exact .inr ⟨u, hu, hj⟩
              · rw [List.mem_singleton.mp hu] at hj; exact .inl (.inr hj)
      -- looked at
      have look : (orT (tst (bin isND (gb 5) (kc .non))) (andT (tst (bin notND (gb 2) (kc .non))) (tst (callF 2 F_is_less (consF (bin ixD (gb 2) (kc (.int 0))) (consF (gv 5) nilF))))) [.d (enSc Ss rt), .d (rayD s w), .d (hitD x), .o (W'.map enBr), .d (enBr t), .d (hiD (mB s w t.box))] = .ok false) →
          ∃ (y : Hit) (y4 y5 : Lc), whS fiT fiB [.d (enSc Ss rt), .d (rayD s w), .d (hitD x), .o ((W' ++ [t]).map enBr), x4, x5] = .ok (.nx [.d (enSc Ss rt), .d (rayD s w), .d (hitD y), .o [], y4, y5]) ∧ Bst (mI s w Ss) (fun i => P i ∨ ∃ u ∈ W' ++ [t], i ∈ u.ns) y := fun ht => by
        have hx : ∀ y, x = some y → Gt y.1 := fun y e => by rw [e] at hB; exact gtI _ _ hB.2.1
        have bt := F_better_eq (rt := rt) R ok nt hx
        obtain ⟨ms, hms⟩ : ∃ ms, ms = t.own := ⟨_, rfl⟩
        rw [← hms] at bt
        have B2 := hB.fold gtI ms
        generalize ms.foldl (fun y i => upd1 y (mI s w Ss i) i) x = x2 at bt B2
        have mt : methF "Scene" "better" 4 F_Scene_better (gv 0) (consF (gv 1) (consF (gv 4) (consF (gv 2) nilF))) [.d (enSc Ss rt), .d (rayD s w), .d (hitD x), .o (W'.map enBr), .d (enBr t), .d (hiD (mB s w t.box))] = .ok (hitD x2) :=
          e_meth (x := enSc Ss rt) (ds := [rayD s w, enBr t, hitD x]) rfl (self_sc (by decide +kernel)) rfl rfl bt rfl
        have lf := fld_lf t
        cases t with
        | lf b ns =>
          simp only at hms lf
          subst hms
          obtain ⟨y, y4, y5, h1, h2⟩ := ih (sizes W') (by omega) W' (fun j => P j ∨ j ∈ ms) x2 (.d (enBr (.lf b ms))) (.d (hiD (mB s w (Br.lf b ms).box))) rfl (by omega) B2 hW'
          refine ⟨y, y4, y5, ?_, h2.cong fun j => ?_⟩
          · rw [wh_T (ε' := [.d (enSc Ss rt), .d (rayD s w), .d (hitD x2), .o (W'.map enBr), .d (enBr (.lf b ms)), .d (hiD (mB s w (Br.lf b ms).box))]) tt (.inl ?_), h1]
            unfold fiB
            rw [pop, s_st bx]
            refine (s_ifF ht).trans ?_
            refine (s_st mt).trans ?_
            exact i_F (e_tst (e_bin (e_un rfl lf) rfl n2))
          · constructor
            · rintro ((h | h) | ⟨u, hu, hj⟩)
              · exact .inl h
              · exact .inr ⟨.lf b ms, by simp, h⟩
              · exact .inr ⟨u, List.mem_append_left _ hu, hj⟩
            · rintro (h | ⟨u, hu, hj⟩)
              · exact .inl (.inl h)
              · rcases List.mem_append.mp hu with hu | hu
                · exact .inr ⟨u, hu, hj⟩
                · rw [List.mem_singleton.mp hu] at hj; exact .inl (.inr hj)
        | nd b l r =>
          simp only at hms lf
          subst hms
          obtain ⟨w1, w2, wl, wr⟩ := wt
          obtain ⟨p, q, hpq, near⟩ := F_nearer_eq (Ss := Ss) (rt := rt) (b := b) R wl.ok wr.ok
          have n4 : ∀ t : Br, notND (enBr t) .non = some (.bl true) := fun t => by cases t <;> rfl
          have mn : methF "Scene" "nearer_last" 3 F_Scene_nearer_last (gv 0) (consF (gv 1) (consF (gv 4) nilF)) [.d (enSc Ss rt), .d (rayD s w), .d (hitD x2), .o (W'.map enBr), .d (enBr (.nd b l r)), .d (hiD (mB s w (Br.nd b l r).box))] = .ok (.lst [enBr p, enBr q]) :=
            e_meth (x := enSc Ss rt) (ds := [rayD s w, enBr (.nd b l r)]) rfl (self_sc (by decide +kernel)) rfl rfl near rfl
          have sz : (Br.nd b l r).size = l.size + r.size + 1 := rfl
          have lr : ∀ u, u = p ∨ u = q ↔ u = l ∨ u = r := fun u => by
            rcases hpq with ⟨rfl, rfl⟩ | ⟨rfl, rfl⟩
            · exact Iff.rfl
            · exact or_comm
          have szp : sizes (W' ++ [p, q]) = sizes W' + l.size + r.size := by
            unfold sizes
            rw [List.map_append, List.sum_append]
            rcases hpq with ⟨rfl, rfl⟩ | ⟨rfl, rfl⟩ <;> simp <;> omega
          have wlen := len_sizes W'
          obtain ⟨y, y4, y5, h1, h2⟩ := ih (sizes (W' ++ [p, q])) (by omega) (W' ++ [p, q]) (fun j => P j ∨ j ∈ ([] : List Int)) x2 (.d (enBr (.nd b l r))) (.d (hiD (mB s w (Br.nd b l r).box))) rfl (by omega) B2 (fun u hu => by
            rcases List.mem_append.mp hu with hu | hu
            · exact hW' u hu
            · rcases (lr u).mp (by simpa using hu) with rfl | rfl
              · exact ⟨wl, fun i h => nt i (List.mem_append_left _ h)⟩
              · exact ⟨wr, fun i h => nt i (List.mem_append_right _ h)⟩)
          refine ⟨y, y4, y5, ?_, h2.cong fun j => ?_⟩
          · rw [wh_T (ε' := [.d (enSc Ss rt), .d (rayD s w), .d (hitD x2), .o ((W' ++ [p, q]).map enBr), .d (enBr (.nd b l r)), .d (hiD (mB s w (Br.nd b l r).box))]) tt (.inl ?_), h1]
            unfold fiB
            rw [pop, s_st bx]
            refine (s_ifF ht).trans ?_
            refine (s_st mt).trans ?_
            refine (i_T (e_tst (e_bin (e_un rfl lf) rfl (n4 l)))).trans ?_
            rw [List.map_append]
            exact q_ext (ds := W'.map enBr) (es := [enBr p, enBr q]) rfl mn (by rw [List.length_map]; show _ + 2 ≤ _; omega)
          · constructor
            · rintro ((h | h) | ⟨u, hu, hj⟩)
              · exact .inl h
              · cases h
              · rcases List.mem_append.mp hu with hu | hu
                · exact .inr ⟨u, List.mem_append_left _ hu, hj⟩
                · refine .inr ⟨.nd b l r, by simp, ?_⟩
                  rcases (lr u).mp (by simpa using hu) with rfl | rfl
                  · exact List.mem_append_left _ hj
                  · exact List.mem_append_right _ hj
            · rintro (h | ⟨u, hu, hj⟩)
              · exact .inl (.inl h)
              · rcases List.mem_append.mp hu with hu | hu
                · exact .inr ⟨u, List.mem_append_left _ hu, hj⟩
                · rw [List.mem_singleton.mp hu] at hj
                  rcases List.mem_append.mp (show j ∈ l.ns ++ r.ns from hj) with hj | hj
                  · exact .inr ⟨l, List.mem_append_right _ (by simpa using (lr l).mpr (.inl rfl)), hj⟩
                  · exact .inr ⟨r, List.mem_append_right _ (by simpa using (lr r).mpr (.inr rfl)), hj⟩
      cases hb : mB s w t.box with
      | none =>
        refine skip (fun j u hj hu => ?_) ?_
        · obtain ⟨v, e, _⟩ := low j u hj hu
          rw [hb] at e
          cases e
        · rw [hb]
          unfold orT
          rw [e_tst (e_bin rfl rfl n0)]
          rfl
      | some v =>
        have gv' := (fb.g v hb).1
        cases x with
        | none =>
          refine look ?_
          rw [hb]
          unfold orT andT
          rw [e_tst (e_bin rfl rfl (n1 v)), Rz.bind_ok, if_neg Bool.false_ne_true, e_tst (e_bin rfl rfl n2)]
          rfl
        | some y =>
          have gy := gtI _ _ hB.2.1
          have i0 : ixD (hitD (some y)) (.int 0) = some (fr y.1) := rfl
          have ls := less_gt gy gv'
          have ev : orT (tst (bin isND (gb 5) (kc .non))) (andT (tst (bin notND (gb 2) (kc .non))) (tst (callF 2 F_is_less (consF (bin ixD (gb 2) (kc (.int 0))) (consF (gv 5) nilF))))) [.d (enSc Ss rt), .d (rayD s w), .d (hitD (some y)), .o (W'.map enBr), .d (enBr t), .d (hiD (mB s w t.box))] = .ok (!decide (gle v y.1)) := by
            rw [hb]
            unfold orT andT
            rw [e_tst (e_bin rfl rfl (n1 v)), Rz.bind_ok, if_neg Bool.false_ne_true, e_tst (e_bin rfl rfl (n3 y)), Rz.bind_ok, if_pos rfl]
            exact e_tst (c_1 (n := 2) (ds := [fr y.1, fr v]) (e_cons (e_bin rfl rfl i0) rfl) rfl ls rfl)
          by_cases c : gle v y.1
          · rw [decide_eq_true c] at ev
            exact look ev
          · rw [decide_eq_false c] at ev
            refine skip (fun j u hj hu => ⟨y, rfl, ?_⟩) ev
            obtain ⟨v', e, l2⟩ := low j u hj hu
            rw [hb] at e
            cases e
            have gu := gtI j u hu
            exact ⟨gle_trans gy.pos gv'.pos gu.pos (gle_of_not c) l2, fun z => c (gle_trans gv'.pos gu.pos gy.pos l2 z)⟩
theorem F_first_no {s : P3} {Ss : List Sh} {rt : Option Br} : F_Scene_first [enSc Ss rt, rayD s (0, 0, 0)] = .ex "NoRay" := by
  unfold F_Scene_first bodyF g_Scene_first
  show bodyR (seqS (xpS _) _ [.d (enSc Ss rt), .d (rayD s (0, 0, 0)), .u, .u, .u, .u]) = _
  unfold seqS xpS
  rw [c_exS (n := 1) (ds := [rayD s (0, 0, 0)]) rfl rfl (F_need_ray_no rfl)]
  rfl
theorem F_first_eq {s w : P3} {Ss : List Sh} {rt : Option Br} (R : RayOk s w) (sc : ScOk 400 Ss rt) : ∃ y : Hit, F_Scene_first [enSc Ss rt, rayD s w] = .ok (.va (hitD y)) ∧ Bst (mI s w Ss) (fun i => 0 ≤ i ∧ i < Ss.length) y := by
  have need := F_need_ray_ok (s := s) R.nz
  have n2 : notND .non .non = some (.bl false) := rfl
  have n4 : ∀ t : Br, notND (enBr t) .non = some (.bl true) := fun t => by cases t <;> rfl
  obtain ⟨W, hW, hn⟩ : ∃ W : List Br, binN repD (lstF (lsF (consF (un (fldD "Scene" "root") (gb 0)) nilF))) (un intD (bin notND (un (fldD "Scene" "root") (gb 0)) (kc .non))) [.d (enSc Ss rt), .d (rayD s w), .d .non, .u, .u, .u] = .ok (W.map enBr) ∧ W = rt.toList := by
    refine ⟨rt.toList, ?_, rfl⟩
    have l1 : lstF (lsF (consF (un (fldD "Scene" "root") (gb 0)) nilF)) [.d (enSc Ss rt), .d (rayD s w), .d .non, .u, .u, .u] = .ok (.lst [enRt rt]) := e_lst (by
      unfold lsF
      rw [e_cons (e_un rfl (fld_rt Ss rt)) rfl]
      rfl)
    unfold binN
    rw [l1, Rz.bind_ok]
    cases rt with
    | none =>
      rw [e_un (x := .bl false) (z := .int 0) (e_bin (e_un rfl (fld_rt Ss none)) rfl n2) rfl, Rz.bind_ok]
      rfl
    | some t =>
      rw [e_un (x := .bl true) (z := .int 1) (e_bin (e_un rfl (fld_rt Ss (some t))) rfl (n4 t)) rfl, Rz.bind_ok]
      rfl
  subst hn
  obtain ⟨y, y4, y5, h1, h2⟩ := fi_loop (rt := rt) R sc.sh (sizes rt.toList) rt.toList (fun _ => False) none .u .u rfl (by
    cases rt with
    | none => show 0 < 100000; decide
    | some t => have := sc.sz t rfl; show sizes [t] < _; unfold sizes; simp; omega) (fun _ z => z.elim) (fun t ht => by
    have e : rt = some t := by simpa using ht
    obtain ⟨p, wf⟩ := sc.tr t e
    exact ⟨wf, fun i hi => mem_nums.mp (p.mem_iff.mp hi)⟩)
  refine ⟨y, ?_, h2.cong fun j => ?_⟩
  · unfold F_Scene_first
    refine b_rt ?_
    unfold g_Scene_first
    show seqS (xpS _) _ [.d (enSc Ss rt), .d (rayD s w), .u, .u, .u, .u] = _
    have xp : ∀ g : Sg, seqS (xpS (callF 1 F_need_ray (consF (gv 1) nilF))) g [.d (enSc Ss rt), .d (rayD s w), .u, .u, .u, .u] = g [.d (enSc Ss rt), .d (rayD s w), .u, .u, .u, .u] := fun g => by
      unfold seqS xpS
      rw [c_1 (n := 1) (ds := [rayD s w]) rfl rfl need rfl]
      rfl
    rw [xp]
    refine (s_st (d := .non) rfl).trans ?_
    refine (s_sto (ds := rt.toList.map enBr) hW).trans ?_
    show seqR (whS fiT fiB [.d (enSc Ss rt), .d (rayD s w), .d (hitD none), .o (rt.toList.map enBr), .u, .u]) _ = _
    rw [h1, q_nx]
    exact s_rt rfl
  · constructor
    · rintro (z | ⟨t, ht, hj⟩)
      · exact z.elim
      · have e : rt = some t := by simpa using ht
        exact mem_nums.mp ((sc.tr t e).1.mem_iff.mp hj)
    · intro hj
      refine .inr ?_
      cases rt with
      | none =>
        have := sc.no rfl
        rw [this] at hj
        exact absurd hj.2 (by show ¬ j < 0; omega)
      | some t => exact ⟨t, by simp, (sc.tr t rfl).1.mem_iff.mpr (mem_nums.mpr hj)⟩
end DL
end
section
set_option Elab.async false
set_option linter.all false
set_option maxRecDepth 100000
set_option maxHeartbeats 4000000
set_option autoImplicit false
namespace DL
variable [TbC]
open PySem
/-! ### texts -/
theorem str_ext {a b : Str} (h : a.cps = b.cps) : a = b := by
  cases a; cases b
  exact congrArg Str.mk h
theorem cps_app (a b : Str) : (a ++ b).cps = a.cps ++ b.cps := rfl
theorem app_assoc (a b c : Str) : (a ++ b) ++ c = a ++ (b ++ c) := str_ext (by rw [cps_app, cps_app, cps_app, cps_app, Array.append_assoc])
theorem cps_nil : ("" : Str).cps = #[] := by decide +kernel
theorem app_nil (a : Str) : a ++ ("" : Str) = a := str_ext (by rw [cps_app, cps_nil, Array.append_empty])
theorem len_app (a b : Str) : (a ++ b).length = a.length + b.length := by
  show (a.cps ++ b.cps).size = _
  rw [Array.size_append]
  rfl
theorem ok_app {a b : Str} (h : PyData.strOk a = true) (k : PyData.strOk b = true) : PyData.strOk (a ++ b) = true := by
  show ((a.cps ++ b.cps).all fun x => decide (x < 1114112)) = true
  rw [Array.all_append, show (a.cps.all fun x => decide (x < 1114112)) = true from h, show (b.cps.all fun x => decide (x < 1114112)) = true from k]
  rfl
theorem add_str {a b : Str} (h : a.length + b.length ≤ 16777216) : addD (.str a) (.str b) = some (.str (a ++ b)) := if_pos (by rw [sizeLine_eq]; exact h)
theorem okq_str {x : Str} (h : PyData.strOk x = true) : okq 0 (.str x) = true := by unfold okq; exact h
theorem eq_same {x : Str} (h : PyData.strOk x = true) : eqD (.str x) (.str x) = some (.bl true) := by
  rw [eqD_of (n := 0) (okq_str h) (okq_str h) (by decide), eqq_str, beq_self_eq_true]
theorem strsD_map (l : List Str) : strsD (l.map Dt.str) = some l := by
  induction l with
  | nil => rfl
  | cons a l ih => rw [List.map_cons, strsD, ih]; rfl
theorem e_joinG {f g : Fn} {ε : Ev} {l : List Str} {s : Str} (h1 : f ε = .ok (.str s)) (h2 : g ε = .ok (.lst (l.map .str))) (hn : (l.map (·.length)).sum + l.length * s.length ≤ 16777216) : joinF f g ε = .ok (.str (Txt.join s l)) := by
  unfold joinF
  rw [h1, Rz.bind_ok]
  show (g ε).bind _ = _
  rw [h2, Rz.bind_ok]
  show Rz.ofO ((strsD (l.map Dt.str)).bind _) = _
  rw [strsD_map, Option.bind_some, if_pos hn]
  rfl
theorem sum_le (l : List Str) (b : Nat) (h : ∀ y ∈ l, y.length ≤ b) : (l.map (·.length)).sum ≤ l.length * b := by
  induction l with
  | nil => exact Nat.zero_le _
  | cons a l ih =>
    have h1 := ih fun y hy => h y (List.mem_cons_of_mem _ hy)
    have h2 := h a List.mem_cons_self
    rw [List.map_cons, List.sum_cons, List.length_cons, Nat.add_mul, Nat.one_mul]
    omega
theorem q_okR {ε : Ev} {g : Sg} : seqR (.ok (.nx ε)) g = g ε := rfl
/-! a loop that goes on without an end of its own -/
theorem for_fold {α β : Type} {set : Sf} {body : Sg} {en : α → Dt} {stp : β → α → β} {R : β → Ev → Prop} {O : Rs → Prop} (l : List α) (b0 : β)
    (h : ∀ (k : Nat) (x : α) (ε : Ev), l[k]? = some x → R ((l.take k).foldl stp b0) ε → ∃ ε1, set (en x) ε = some ε1 ∧ ∃ ε2, body ε1 = .ok (.nx ε2) ∧ R (stp ((l.take k).foldl stp b0) x) ε2) {ε : Ev} (h0 : R b0 ε)
    (hO : ∀ ε', R (l.foldl stp b0) ε' → O (.ok (.nx ε'))) : O (forGo set body (l.map en) ε) := by
  refine for_ind (O := O) (I := fun k ε => R ((l.take k).foldl stp b0) ε) ?_ h0 ?_
  · intro k d ε hd hR
    rw [List.getElem?_map] at hd
    obtain ⟨x, hx, rfl⟩ := Option.map_eq_some_iff.mp hd
    obtain ⟨ε1, s1, ε2, s2, r⟩ := h k x ε hx hR
    refine ⟨ε1, s1, .inl ⟨ε2, .inl s2, ?_⟩⟩
    rw [List.take_add_one, hx]
    show R ((l.take k ++ [x]).foldl stp b0) ε2
    rw [List.foldl_append]
    exact r
  · intro ε hR
    rw [List.length_map, List.take_length] at hR
    exact hO ε hR
theorem fold_snoc {α β : Type} (f : α → β) (l : List α) : ∀ b : List β, l.foldl (fun b x => b ++ [f x]) b = b ++ l.map f := by
  induction l with
  | nil => intro b; exact (List.append_nil b).symm
  | cons a l ih => intro b; rw [List.foldl_cons, ih, List.map_cons, List.append_assoc]; rfl
/-! ### the signs of numbers -/
def sigs : Str := "0123456789abcdefghijklmnopqrstuvwxyz"
def sig1 (n : Int) : Str := if n < 0 then "." else ⟨#[sigs.cps.toList.getD (n % 36).toNat 0]⟩
theorem sigs_at {k : Nat} (h : k < 36) : sigs.cps.toList[k]? = some (sigs.cps.toList.getD k 0) := by
  have l : sigs.cps.toList.length = 36 := by decide +kernel
  rw [List.getD_eq_getElem?_getD, List.getElem?_eq_getElem (by omega)]
  rfl
theorem sig1_len (n : Int) : (sig1 n).length = 1 := by
  unfold sig1
  split
  · decide +kernel
  · rfl
theorem sig1_ok (n : Int) : PyData.strOk (sig1 n) = true := by
  unfold sig1
  split
  · decide +kernel
  · have h36 : (n % 36).toNat < 36 := by omega
    have m : sigs.cps.toList.getD (n % 36).toNat 0 ∈ sigs.cps.toList := List.mem_of_getElem? (sigs_at h36)
    have a : (sigs.cps.toList.all fun x => decide (x < 1114112)) = true := by decide +kernel
    have b := List.all_eq_true.mp a _ m
    show (#[sigs.cps.toList.getD (n % 36).toNat 0].all fun x => decide (x < 1114112)) = true
    simp only [List.all_toArray, List.all_cons, List.all_nil, Bool.and_true]
    exact b
theorem sig1_ix {n : Int} (h : 0 ≤ n) : ixD (.str sigs) (.int (n % 36)) = some (.str (sig1 n)) := by
  have h36 : (n % 36).toNat < 36 := by omega
  have e : n % 36 = (((n % 36).toNat : Nat) : Int) := by omega
  have hs : sigs.length ≤ 16777216 := by decide +kernel
  unfold ixD
  dsimp only
  rw [sizeLine_eq, if_pos hs]
  have : L2.atI sigs.cps.toList (n % 36) = some (sigs.cps.toList.getD (n % 36).toNat 0) := by
    rw [e]
    exact L2.atI_nat (sigs_at h36)
  rw [this]
  unfold sig1
  rw [if_neg (by omega)]
  rfl
def putS2 (s : Str) (n : Int) : Str := s ++ sig1 n
def lineS (r : List Int) : Str := r.foldl putS2 ""
theorem fold_len (r : List Int) : ∀ t : Str, (r.foldl putS2 t).length = t.length + r.length := by
  induction r with
  | nil => intro t; rfl
  | cons a r ih =>
    intro t
    rw [List.foldl_cons, ih]
    unfold putS2
    rw [len_app, sig1_len, List.length_cons]
    omega
theorem fold_app (r : List Int) : ∀ t u : Str, r.foldl putS2 (t ++ u) = t ++ r.foldl putS2 u := by
  induction r with
  | nil => intro t u; rfl
  | cons a r ih =>
    intro t u
    rw [List.foldl_cons, List.foldl_cons]
    unfold putS2
    rw [app_assoc]
    exact ih t (u ++ sig1 a)
theorem fold_line (r : List Int) (t : Str) : r.foldl putS2 t = t ++ lineS r := by
  have := fold_app r t ""
  rw [app_nil] at this
  exact this
theorem fold_ok (r : List Int) : ∀ t : Str, PyData.strOk t = true → PyData.strOk (r.foldl putS2 t) = true := by
  induction r with
  | nil => intro t h; exact h
  | cons a r ih => intro t h; exact ih _ (ok_app h (sig1_ok a))
theorem len_nil : ("" : Str).length = 0 := by decide +kernel
theorem len_nl : ("\n" : Str).length = 1 := by decide +kernel
theorem line_len (r : List Int) : (lineS r).length = r.length := by
  unfold lineS
  rw [fold_len, len_nil, Nat.zero_add]
theorem line_ok (r : List Int) : PyData.strOk (lineS r) = true := fold_ok r _ (by decide +kernel)
/-- the rows, line feeds between -/
def textS : List (List Int) → Str
  | [] => ""
  | r :: rs => rs.foldl (fun t p => (t ++ ("\n" : Str)) ++ lineS p) (lineS r)
theorem text_snoc (rs : List (List Int)) (r : List Int) : textS (rs ++ [r]) = if rs = [] then lineS r else (textS rs ++ ("\n" : Str)) ++ lineS r := by
  cases rs with
  | nil => rw [if_pos rfl]; rfl
  | cons a rs =>
    rw [if_neg (by simp)]
    show (rs ++ [r]).foldl _ _ = _
    rw [List.foldl_append]
    rfl
theorem text_ok (rs : List (List Int)) : PyData.strOk (textS rs) = true := by
  have nl : PyData.strOk ("\n" : Str) = true := by decide +kernel
  cases rs with
  | nil => exact (by decide +kernel : PyData.strOk ("" : Str) = true)
  | cons r rs =>
    show PyData.strOk (rs.foldl _ (lineS r)) = true
    have key : ∀ (l : List (List Int)) (t : Str), PyData.strOk t = true → PyData.strOk (l.foldl (fun t p => (t ++ ("\n" : Str)) ++ lineS p) t) = true := by
      intro l
      induction l with
      | nil => intro t h; exact h
      | cons a l ih => intro t h; exact ih _ (ok_app (ok_app h nl) (line_ok a))
    exact key rs _ (line_ok r)
theorem text_join (rs : List (List Int)) : Txt.join "\n" (rs.map lineS) = textS rs := by
  refine str_ext ?_
  cases rs with
  | nil => exact (by decide +kernel : Str.empty.cps = ("" : Str).cps)
  | cons r rs =>
    show (rs.map lineS).foldl (fun acc p => acc ++ ("\n" : Str).cps ++ p.cps) (lineS r).cps = (rs.foldl _ (lineS r)).cps
    have key : ∀ (l : List (List Int)) (t : Str), (l.map lineS).foldl (fun acc p => acc ++ ("\n" : Str).cps ++ p.cps) t.cps = (l.foldl (fun t p => (t ++ ("\n" : Str)) ++ lineS p) t).cps := by
      intro l
      induction l with
      | nil => intro t; rfl
      | cons a l ih => intro t; exact ih ((t ++ ("\n" : Str)) ++ lineS a)
    exact key rs _
theorem text_len (rs : List (List Int)) (h : ∀ r ∈ rs, r.length ≤ 100) : (textS rs).length ≤ rs.length * 101 := by
  cases rs with
  | nil => exact Nat.le_of_eq len_nil
  | cons r rs =>
    show (rs.foldl _ (lineS r)).length ≤ _
    have key : ∀ (l : List (List Int)) (t : Str), (∀ r ∈ l, r.length ≤ 100) → (l.foldl (fun t p => (t ++ ("\n" : Str)) ++ lineS p) t).length ≤ t.length + l.length * 101 := by
      intro l
      induction l with
      | nil => intro t _; exact Nat.le_add_right _ _
      | cons a l ih =>
        intro t h
        have h1 := ih ((t ++ ("\n" : Str)) ++ lineS a) fun r hr => h r (List.mem_cons_of_mem _ hr)
        have h2 := h a List.mem_cons_self
        rw [len_app, len_app, len_nl, line_len] at h1
        rw [List.foldl_cons, List.length_cons]
        omega
    have h1 := key rs (lineS r) fun r hr => h r (List.mem_cons_of_mem _ hr)
    have h2 := h r List.mem_cons_self
    rw [line_len] at h1
    rw [List.length_cons]
    omega
/-! ### the rows as data -/
def rowD (r : List Int) : Dt := .lst (r.map .int)
def rowsD (rs : List (List Int)) : Dt := .lst (rs.map rowD)
theorem ints_okq (r : List Int) (n : Nat) : okqs n (r.map Dt.int) = true := by
  induction r with
  | nil => rfl
  | cons a l ih => rw [List.map_cons, okqs, ih]; cases n <;> rfl
theorem rows_okq (rs : List (List Int)) : okq 2 (rowsD rs) = true := by
  show okqs 1 (rs.map rowD) = true
  induction rs with
  | nil => rfl
  | cons a l ih =>
    rw [List.map_cons, okqs, ih]
    show (okqs 0 (a.map Dt.int) && true) = true
    rw [ints_okq]
    rfl
theorem eqq_ints (r : List Int) : eqqs (r.map Dt.int) (r.map Dt.int) = true := by
  induction r with
  | nil => exact eqqs_nil
  | cons a l ih => rw [List.map_cons, eqqs_cons, eqq_int, ih]; simp
theorem eqq_rows (rs : List (List Int)) : eqq (rowsD rs) (rowsD rs) = true := by
  show eqq (.lst _) (.lst _) = true
  rw [eqq_lst]
  induction rs with
  | nil => exact eqqs_nil
  | cons a l ih =>
    rw [List.map_cons, eqqs_cons, ih]
    show (eqq (.lst (a.map Dt.int)) (.lst (a.map Dt.int)) && true) = true
    rw [eqq_lst, eqq_ints]
    rfl
theorem eq_rows (rs : List (List Int)) : eqD (rowsD rs) (rowsD rs) = some (.bl true) ∧ neD (rowsD rs) (rowsD rs) = some (.bl false) := by
  rw [eqD_of (n := 2) (rows_okq rs) (rows_okq rs) (by decide), neD_of (n := 2) (rows_okq rs) (rows_okq rs) (by decide), eqq_rows]
  exact ⟨rfl, rfl⟩
end DL
end
section
set_option Elab.async false
set_option linter.all false
set_option maxRecDepth 100000
set_option maxHeartbeats 4000000
set_option autoImplicit false
namespace DL
variable [TbC]
open PySem
/-! ### the ray from a place of a frame -/
def mvP (p w : P3) (x : Int) : P3 := (p.1 + x * w.1, p.2.1 + x * w.2.1, p.2.2 + x * w.2.2)
theorem co_mv (p w : P3) (x : Int) (j : Nat) (hj : j < 3) : co j (mvP p w x) = co j p + x * co j w := by
  match j, hj with
  | 0, _ => rfl
  | 1, _ => rfl
  | 2, _ => rfl
theorem mv_bd {n : Nat} {p w : P3} (bp : BdN (n + 3) p) (bw : BdN n w) {x : Int} (h0 : 0 ≤ x) (h1 : x < 8) : BdN (n + 4) (mvP p w x) := by
  have bx : Bd 3 x := by unfold Bd; omega
  have one : ∀ {a b : Int}, Bd (n + 3) a → Bd n b → Bd (n + 4) (a + x * b) := fun {a b} ha hb => ha.add (by rw [Nat.add_comm]; exact bx.mul hb)
  exact ⟨one bp.1 bw.1, one bp.2.1 bw.2.1, one bp.2.2 bw.2.2⟩
theorem F_moved_eq (p w : P3) {x : Int} (h0 : 0 ≤ x) (h1 : x < 8) : F_moved [en p, en w, .int x] = .ok (.va (en (mvP p w x))) := by
  have mu : ∀ z : Int, mulD (.int x) (.int z) = some (.int (x * z)) := fun z => mul_left (by omega)
  have i : ∀ (q : P3) (k : Nat), k < 3 → ixD (en q) (.int k) = some (.int (co k q)) := fun q k hk => en_ix q k hk
  unfold F_moved
  refine b_rt ?_
  unfold g_moved
  have one : ∀ k : Nat, k < 3 → bin addD (bin ixD (gb 0) (kc (.int k))) (bin mulD (gb 2) (bin ixD (gb 1) (kc (.int k)))) [.d (en p), .d (en w), .d (.int x)] = .ok (.int (co k p + x * co k w)) := fun k hk =>
    e_bin (e_bin (q_gb rfl) rfl (i p k hk)) (e_bin (q_gb rfl) (e_bin (q_gb rfl) rfl (i w k hk)) (mu _)) rfl
  exact s_rt (e_tup (e_cons (one 0 (by decide)) (e_cons (one 1 (by decide)) (e_cons (one 2 (by decide)) rfl))) (by show 3 ≤ 16777216; decide))
def farP (p : P3) (c : Int) : P3 := if c % 3 = 0 then p else (p.1 * (1 + c % 1125899906842624), p.2.1 * (1 + c % 1125899906842624), p.2.2 * (1 + c % 1125899906842624))
theorem far_bd {p : P3} (b : BdN 3 p) (c : Int) : BdN 54 (farP p c) := by
  unfold farP
  split
  · exact b.mono (by decide)
  · have bs : Bd 51 (1 + c % 1125899906842624) := by unfold Bd; omega
    exact ⟨b.1.mul bs, b.2.1.mul bs, b.2.2.mul bs⟩
theorem F_l_far_eq {p : P3} (b : BdN 3 p) (c : Int) : F_l_far [en p, .int c] = .ok (.va (en (farP p c))) := by
  have m3 : modD (.int c) (.int 3) = some (.int (c % 3)) := mod_pos (by decide)
  have sh : shlD (.int 1) (.int 50) = some (.int 1125899906842624) := rfl
  have m50 : modD (.int c) (.int 1125899906842624) = some (.int (c % 1125899906842624)) := mod_pos (by decide)
  have eq := eqD_int (c % 3) 0
  unfold F_l_far farP
  refine b_rt ?_
  unfold g_l_far
  show seqS _ _ [.d (en p), .d (.int c), .u] = _
  by_cases h : c % 3 = 0
  · rw [decide_eq_true h] at eq
    rw [if_pos h]
    exact (s_ifT (e_tst (e_bin (e_bin (q_gb rfl) rfl m3) rfl eq))).trans rfl
  · rw [decide_eq_false h] at eq
    rw [if_neg h]
    refine (s_ifF (e_tst (e_bin (e_bin (q_gb rfl) rfl m3) rfl eq))).trans ?_
    have bs : Bd 51 (1 + c % 1125899906842624) := by unfold Bd; omega
    have lc : lcF (iterF (gb 0)) [2] (setN 2) yes (bin mulD (gb 2) (bin addD (kc (.int 1)) (bin modD (gb 1) (bin shlD (kc (.int 1)) (kc (.int 50)))))) [.d (en p), .d (.int c), .u] = .ok ([p.1, p.2.1, p.2.2].map fun x => .int (x * (1 + c % 1125899906842624))) := by
      refine lcF_map (l := [p.1, p.2.1, p.2.2]) (en := Dt.int) (f := fun x => .int (x * (1 + c % 1125899906842624))) rfl (by show 3 < 16777216; decide) fun x hx => ?_
      have b1 : Bd 3 x := by
        rcases List.mem_cons.mp hx with rfl | hx
        · exact b.1
        rcases List.mem_cons.mp hx with rfl | hx
        · exact b.2.1
        rcases List.mem_cons.mp hx with rfl | hx
        · exact b.2.2
        · cases hx
      exact e_bin rfl (e_bin rfl (e_bin rfl (e_bin rfl rfl sh) m50) rfl) (mul_left (by have : x.natAbs < 8 := b1; omega))
    exact s_rt (e_un (e_lst lc) rfl)
/-! ### what is seen there -/
def num : Hit → Int
  | none => -1
  | some t => t.2
theorem hit_no (h : Hit) : isND (hitD h) .non = some (.bl h.isNone) := by cases h <;> rfl
theorem self_first (Ss : List Sh) (rt : Option Br) : selfD "Scene" "first" (enSc Ss rt) = some (enSc Ss rt) := self_sc (by decide +kernel)
def frD (s r d w : P3) : Dt := .tup [en s, en r, en d, en w]
theorem F_l_seen_eq {Ss : List Sh} {rt : Option Br} {s r d w : P3} {x y : Nat} (hx : x < 5) (hy : y < 5) {h : Hit} (hf : F_Scene_first [enSc Ss rt, rayD (mvP (mvP s r x) d y) w] = .ok (.va (hitD h))) : F_l_seen [enSc Ss rt, frD s r d w, .int x, .int y] = .ok (.va (.int (num h))) := by
  unfold F_l_seen
  refine b_rt ?_
  unfold g_l_seen
  show seqS _ _ [.d (enSc Ss rt), .d (frD s r d w), .d (.int x), .d (.int y), .u, .u, .u, .u, .u, .u, .u] = _
  refine (s_as (d := frD s r d w) (ε' := [.d (enSc Ss rt), .d (frD s r d w), .d (.int x), .d (.int y), .d (en s), .d (en r), .d (en d), .d (en w), .u, .u, .u]) (q_gv rfl) rfl).trans ?_
  have mx : ∀ z : Int, mulD (.int (x : Int)) (.int z) = some (.int (x * z)) := fun z => mul_left (by omega)
  have my : ∀ z : Int, mulD (.int (y : Int)) (.int z) = some (.int (y * z)) := fun z => mul_left (by omega)
  have lc : lcF (rngF (kc (.int 3))) [9] (setN 9) yes (bin addD (bin addD (bin ixD (gb 4) (gb 9)) (bin mulD (gb 2) (bin ixD (gb 5) (gb 9)))) (bin mulD (gb 3) (bin ixD (gb 6) (gb 9)))) [.d (enSc Ss rt), .d (frD s r d w), .d (.int x), .d (.int y), .d (en s), .d (en r), .d (en d), .d (en w), .u, .u, .u] = .ok ((List.range 3).map fun j => Dt.int (co j (mvP (mvP s r x) d y))) := by
    refine lcF_rng (n := 3) rfl (by decide) fun j hj => ?_
    rw [co_mv _ _ _ _ hj, co_mv _ _ _ _ hj]
    exact e_bin (e_bin (e_bin rfl rfl (en_ix _ j hj)) (e_bin rfl (e_bin rfl rfl (en_ix _ j hj)) (mx _)) rfl) (e_bin rfl (e_bin rfl rfl (en_ix _ j hj)) (my _)) rfl
  refine (s_st (d := en (mvP (mvP s r x) d y)) (e_un (e_lst lc) ?_)).trans ?_
  · rw [range3]; rfl
  refine (s_st (d := hitD h) (e_meth (x := enSc Ss rt) (ds := [rayD (mvP (mvP s r x) d y) w]) (q_gv rfl) (self_first _ _) (e_cons (e_tup (e_cons rfl (e_cons rfl rfl)) (by show 2 ≤ 16777216; decide)) rfl) rfl hf rfl)).trans ?_
  have hn := hit_no h
  cases h with
  | none => exact (s_ifT (e_tst (e_bin (q_gb rfl) rfl hn))).trans rfl
  | some t => exact (s_ifF (e_tst (e_bin (q_gb rfl) rfl hn))).trans rfl
theorem range_take (n k : Nat) (h : k ≤ n) : (List.range n).take k = List.range k := by rw [List.take_range, Nat.min_eq_left h]
theorem range_at {n k x : Nat} (h : (List.range n)[k]? = some x) : x = k ∧ k < n := by
  have hk := (List.getElem?_eq_some_iff.mp h).1
  rw [List.length_range] at hk
  rw [List.getElem?_range hk] at h
  exact ⟨(Option.some.inj h).symm, hk⟩
theorem rngF_n {f : Fn} {ε : Ev} {n : Nat} (h : f ε = .ok (.int (n : Int))) (hn : n < 1000) : rngF f ε = .ok (upTo 0 n) := by
  unfold rngF
  rw [h, Rz.bind_ok, rng_ok (by omega) (by omega)]
  rfl
def seenL (V : Nat → Nat → Hit) (w : Nat) (y : Nat) : List Int := (List.range w).map fun x => num (V x y)
def seenR (V : Nat → Nat → Hit) (w h : Nat) : List (List Int) := (List.range h).map fun y => seenL V w y
theorem F_seen_eq {Ss : List Sh} {rt : Option Br} {s r d w : P3} {V : Nat → Nat → Hit} {wd hg : Nat} (hw : wd ≤ 5) (hh : hg ≤ 5) (hf : ∀ x y : Nat, x < 5 → y < 5 → F_Scene_first [enSc Ss rt, rayD (mvP (mvP s r x) d y) w] = .ok (.va (hitD (V x y)))) :
    F_seen [enSc Ss rt, frD s r d w, .int wd, .int hg] = .ok (.ow ((seenR V wd hg).map rowD)) := by
  unfold F_seen bodyF g_seen
  show bodyR (seqS _ _ [.d (enSc Ss rt), .d (frD s r d w), .d (.int wd), .d (.int hg), .u, .u, .u, .u, .u, .u, .u, .u, .u]) = _
  rw [s_as (d := frD s r d w) (ε' := [.d (enSc Ss rt), .d (frD s r d w), .d (.int wd), .d (.int hg), .d (en s), .d (en r), .d (en d), .d (en w), .u, .u, .u, .u, .u]) (q_gv rfl) rfl]
  rw [s_sto (ds := []) rfl]
  have rg : ∀ x8 x9 x10 x11 x12 : Lc, rngF (gb 3) [.d (enSc Ss rt), .d (frD s r d w), .d (.int wd), .d (.int hg), .d (en s), .d (en r), .d (en d), .d (en w), x8, x9, x10, x11, x12] = .ok (upTo 0 hg) := fun _ _ _ _ _ => rngF_n (q_gb rfl) (by omega)
  have rg2 : ∀ x8 x9 x10 x11 x12 : Lc, rngF (gb 2) [.d (enSc Ss rt), .d (frD s r d w), .d (.int wd), .d (.int hg), .d (en s), .d (en r), .d (en d), .d (en w), x8, x9, x10, x11, x12] = .ok (upTo 0 wd) := fun _ _ _ _ _ => rngF_n (q_gb rfl) (by omega)
  show bodyR (seqR ((exS _ (rngF (gb 3) [.d (enSc Ss rt), .d (frD s r d w), .d (.int wd), .d (.int hg), .d (en s), .d (en r), .d (en d), .d (en w), .o [], .u, .u, .u, .u])).bind fun xs => forGo _ _ xs [.d (enSc Ss rt), .d (frD s r d w), .d (.int wd), .d (.int hg), .d (en s), .d (en r), .d (en d), .d (en w), .o [], .u, .u, .u, .u]) _) = _
  rw [rg, q_exS, q_okB]
  show bodyR (seqR (forGo _ _ ((List.range hg).map fun (i : Nat) => Dt.int (0 + i)) _) _) = _
  refine for_fold (O := fun res => bodyR (seqR res (roV 8)) = .ok (.ow ((seenR V wd hg).map rowD))) (en := fun (i : Nat) => Dt.int (0 + i)) (stp := fun (b : List Dt) (y : Nat) => b ++ [rowD (seenL V wd y)]) (R := fun b ε => ∃ x9 x10 x11 x12 : Lc, ε = [.d (enSc Ss rt), .d (frD s r d w), .d (.int wd), .d (.int hg), .d (en s), .d (en r), .d (en d), .d (en w), .o b, x9, x10, x11, x12]) (List.range hg) [] ?_ ⟨.u, .u, .u, .u, rfl⟩ ?_
  · rintro k y ε hk ⟨x9, x10, x11, x12, rfl⟩
    obtain ⟨rfl, hy⟩ := range_at hk
    rw [range_take _ _ (by omega), fold_snoc, List.nil_append]
    refine ⟨_, rfl, ?_⟩
    rw [Int.zero_add]
    show ∃ ε2, seqS _ _ [.d (enSc Ss rt), .d (frD s r d w), .d (.int wd), .d (.int hg), .d (en s), .d (en r), .d (en d), .d (en w), .o ((List.range y).map fun (x : Nat) => rowD (seenL V wd x)), .d (.int y), x10, x11, x12] = _ ∧ _
    rw [s_sto (ds := []) rfl]
    show ∃ ε2, seqR ((exS _ (rngF (gb 2) [.d (enSc Ss rt), .d (frD s r d w), .d (.int wd), .d (.int hg), .d (en s), .d (en r), .d (en d), .d (en w), .o ((List.range y).map fun (x : Nat) => rowD (seenL V wd x)), .d (.int y), .o [], x11, x12])).bind fun xs => forGo _ _ xs [.d (enSc Ss rt), .d (frD s r d w), .d (.int wd), .d (.int hg), .d (en s), .d (en r), .d (en d), .d (en w), .o ((List.range y).map fun (x : Nat) => rowD (seenL V wd x)), .d (.int y), .o [], x11, x12]) _ = _ ∧ _
    rw [rg2, q_exS, q_okB]
    show ∃ ε2, seqR (forGo _ _ ((List.range wd).map fun (i : Nat) => Dt.int (0 + i)) _) _ = _ ∧ _
    refine for_fold (O := fun res => ∃ ε2, seqR res (shS 10 (appS 8 (gv 10))) = .ok (.nx ε2) ∧ ∃ x9 x10 x11 x12 : Lc, ε2 = [.d (enSc Ss rt), .d (frD s r d w), .d (.int wd), .d (.int hg), .d (en s), .d (en r), .d (en d), .d (en w), .o ((List.range y).map (fun (x : Nat) => rowD (seenL V wd x)) ++ [rowD (seenL V wd y)]), x9, x10, x11, x12])
      (en := fun (i : Nat) => Dt.int (0 + i)) (stp := fun (b : List Dt) (x : Nat) => b ++ [Dt.int (num (V x y))]) (R := fun b ε => ∃ x11 x12 : Lc, ε = [.d (enSc Ss rt), .d (frD s r d w), .d (.int wd), .d (.int hg), .d (en s), .d (en r), .d (en d), .d (en w), .o ((List.range y).map fun (x : Nat) => rowD (seenL V wd x)), .d (.int y), .o b, x11, x12]) (List.range wd) [] ?_ ⟨x11, x12, rfl⟩ ?_
    · rintro i x ε hi ⟨x11, x12, rfl⟩
      obtain ⟨rfl, hx⟩ := range_at hi
      rw [range_take _ _ (by omega), fold_snoc, List.nil_append]
      refine ⟨_, rfl, ?_⟩
      rw [Int.zero_add]
      have hv := hf x y (by omega) (by omega)
      refine ⟨[.d (enSc Ss rt), .d (frD s r d w), .d (.int wd), .d (.int hg), .d (en s), .d (en r), .d (en d), .d (en w), .o ((List.range y).map fun (x : Nat) => rowD (seenL V wd x)), .d (.int y), .o ((List.range x).map (fun (x : Nat) => Dt.int (num (V x y))) ++ [Dt.int (num (V x y))]), .d (.int x), .d (hitD (V x y))], ?_, _, _, rfl⟩
      have lr : ((List.range x).map fun (x : Nat) => Dt.int (num (V x y))).length < 16777216 := by rw [List.length_map, List.length_range]; omega
      generalize (List.range x).map (fun (x : Nat) => Dt.int (num (V x y))) = b at lr
      generalize (List.range y).map (fun (x : Nat) => rowD (seenL V wd x)) = rows
      have hn := hit_no (V x y)
      generalize V x y = h at hv hn
      show seqS _ _ [.d (enSc Ss rt), .d (frD s r d w), .d (.int wd), .d (.int hg), .d (en s), .d (en r), .d (en d), .d (en w), .o rows, .d (.int y), .o b, .d (.int x), x12] = _
      have m1 := F_moved_eq s r (x := (x : Int)) (by omega) (by omega)
      have m2 := F_moved_eq (mvP s r x) d (x := (y : Int)) (by omega) (by omega)
      refine (s_st (d := hitD h) (e_meth (x := enSc Ss rt) (ds := [rayD (mvP (mvP s r x) d y) w]) (q_gv rfl) (self_first _ _) (e_cons (e_tup (e_cons (c_1 (n := 3) (e_cons (c_1 (n := 3) rfl rfl m1 rfl) rfl) rfl m2 rfl) (e_cons rfl rfl)) (by show 2 ≤ 16777216; decide)) rfl) rfl hv rfl)).trans ?_
      cases h with
      | none =>
        refine (i_T (e_tst (e_bin (q_gb rfl) rfl hn))).trans ?_
        exact (q_app (ds := b) (d := .int (-1)) rfl rfl lr).trans rfl
      | some t =>
        refine (i_F (e_tst (e_bin (q_gb rfl) rfl hn))).trans ?_
        exact (q_app (ds := b) (d := .int t.2) rfl rfl lr).trans rfl
    · rintro ε ⟨y11, y12, rfl⟩
      rw [fold_snoc, List.nil_append]
      have e : ((List.range wd).map fun (x : Nat) => Dt.int (num (V x y))) = (seenL V wd y).map .int := by unfold seenL; rw [List.map_map]; rfl
      rw [e]
      have lr : ((List.range y).map fun (x : Nat) => rowD (seenL V wd x)).length < 16777216 := by rw [List.length_map, List.length_range]; omega
      generalize (List.range y).map (fun (x : Nat) => rowD (seenL V wd x)) = rows at lr
      refine ⟨[.d (enSc Ss rt), .d (frD s r d w), .d (.int wd), .d (.int hg), .d (en s), .d (en r), .d (en d), .d (en w), .o (rows ++ [rowD (seenL V wd y)]), .d (.int y), .d (rowD (seenL V wd y)), y11, y12], ?_, _, _, _, _, rfl⟩
      rw [q_okR]
      refine (q_sh rfl).trans ?_
      exact (q_app (ds := rows) (d := rowD (seenL V wd y)) rfl rfl lr).trans rfl
  · rintro ε ⟨x9, x10, x11, x12, rfl⟩
    rw [fold_snoc, List.nil_append]
    unfold seenR
    rw [List.map_map]
    rfl
/-! ### the law's list of lists -/
theorem dueX_ok {jx jy y : Nat} {k : Fn} {I : Ev → Prop} {g : Nat → Dt} : ∀ (m i : Nat) (ε : Ev) (r : List Dt), (∀ j ε, j < i + m → I ε → I (ε.set jx (.d (.int (j : Int)))) ∧ (ε.set jx (.d (.int (j : Int))))[jy]? = some (.d (.int (y : Int))) ∧ k (ε.set jx (.d (.int (j : Int)))) = .ok (g j)) →
    r.length + m < 16777216 → I ε → ∃ ε', I ε' ∧ dueX jx jy y k m i ε r = some (ε', r ++ (List.range m).map fun j => g (i + j))
  | 0, i, ε, r, _, _, h => ⟨ε, h, by rw [dueX, List.range_zero, List.map_nil, List.append_nil]⟩
  | m + 1, i, ε, r, hk, hl, h => by
    obtain ⟨h1, h2, h3⟩ := hk i ε (by omega) h
    obtain ⟨ε', q1, q2⟩ := dueX_ok (g := g) m (i + 1) (ε.set jx (.d (.int (i : Int)))) (r ++ [g i]) (fun j ε hj hI => hk j ε (by omega) hI) (by rw [List.length_append]; show r.length + 1 + m < _; omega) h1
    refine ⟨ε', q1, ?_⟩
    rw [dueX, h2, h3]
    dsimp only
    rw [sizeLine_eq, if_pos ⟨rfl, by omega⟩, q2, List.range_succ_eq_map, List.map_cons, List.map_map, List.append_assoc]
    have e : ((List.range m).map fun j => g (i + 1 + j)) = (List.range m).map ((fun j => g (i + j)) ∘ Nat.succ) := List.map_congr_left fun j _ => by
      show g (i + 1 + j) = g (i + (j + 1))
      congr 1
      omega
    rw [e]
    rfl
theorem dueY_ok {jx jy : Nat} {f3 k : Fn} {J : Ev → Prop} {g : Nat → Nat → Dt} {w : Nat} : ∀ (m i : Nat) (ε : Ev) (rows : List (List Dt)), (∀ y ε, y < i + m → J ε → cnt f3 (ε.set jy (.d (.int (y : Int)))) = some w ∧ ∃ ε', J ε' ∧ dueX jx jy y k w 0 (ε.set jy (.d (.int (y : Int)))) [] = some (ε', (List.range w).map fun x => g x y)) →
    J ε → ∃ ε', J ε' ∧ dueY jx jy f3 k m i ε rows = some (ε', rows ++ (List.range m).map fun y => (List.range w).map fun x => g x (i + y))
  | 0, i, ε, rows, _, h => ⟨ε, h, by rw [dueY, List.range_zero, List.map_nil, List.append_nil]⟩
  | m + 1, i, ε, rows, hk, h => by
    obtain ⟨h1, ε1, j1, h2⟩ := hk i ε (by omega) h
    obtain ⟨ε', q1, q2⟩ := dueY_ok (g := g) m (i + 1) ε1 (rows ++ [(List.range w).map fun x => g x i]) (fun j ε hj hI => hk j ε (by omega) hI) j1
    refine ⟨ε', q1, ?_⟩
    rw [dueY, h1]
    dsimp only
    rw [h2]
    dsimp only
    rw [q2, List.range_succ_eq_map (n := m), List.map_cons, List.map_map, List.append_assoc]
    have e : ((List.range m).map fun y => (List.range w).map fun x => g x (i + 1 + y)) = (List.range m).map ((fun y => (List.range w).map fun x => g x (i + y)) ∘ Nat.succ) := List.map_congr_left fun j _ => by
      show ((List.range w).map fun x => g x (i + 1 + j)) = (List.range w).map fun x => g x (i + (j + 1))
      have : i + 1 + j = i + (j + 1) := by omega
      rw [this]
    rw [e]
    rfl
end DL
end
section
set_option Elab.async false
set_option linter.all false
set_option maxRecDepth 100000
set_option maxHeartbeats 4000000
set_option autoImplicit false
namespace DL
variable [TbC]
open PySem
/-! ### the text of rows, as the program and the law write it -/
theorem F_drawn_eq (rs : List (List Int)) (hl : rs.length ≤ 100) (h : ∀ r ∈ rs, r.length ≤ 100) : F_drawn [rowsD rs] = .ok (.va (.str (textS rs))) := by
  unfold F_drawn
  refine b_rt ?_
  unfold g_drawn
  show seqS _ _ [.d (rowsD rs), .u, .u, .u, .u] = _
  refine (s_sto (ds := []) rfl).trans ?_
  show seqR (forGo (setN 2) _ (rs.map rowD) [.d (rowsD rs), .o [], .u, .u, .u]) _ = _
  refine for_fold (O := fun r => seqR r _ = _) (en := rowD) (stp := fun (b : List Str) r => b ++ [lineS r]) (R := fun b ε => ∃ x2 x3 x4 : Lc, ε = [.d (rowsD rs), .o (b.map .str), x2, x3, x4]) rs [] ?_ ⟨.u, .u, .u, rfl⟩ ?_
  · rintro k r ε hk ⟨x2, x3, x4, rfl⟩
    rw [fold_snoc, List.nil_append]
    have hr := h r (List.mem_of_getElem? hk)
    refine ⟨_, rfl, ?_⟩
    show ∃ ε2, seqS _ _ [.d (rowsD rs), .o (((rs.take k).map lineS).map .str), .d (rowD r), x3, x4] = _ ∧ _
    rw [s_st (d := .str "") rfl]
    show ∃ ε2, seqR (forGo (setN 4) _ (r.map .int) [.d (rowsD rs), .o (((rs.take k).map lineS).map .str), .d (rowD r), .d (.str ""), x4]) _ = _ ∧ _
    refine for_fold (O := fun res => ∃ ε2, seqR res (appS 1 (gv 3)) = .ok (.nx ε2) ∧ ∃ x2 x3 x4 : Lc, ε2 = [.d (rowsD rs), .o (((rs.take k).map lineS ++ [lineS r]).map .str), x2, x3, x4]) (en := Dt.int) (stp := putS2) (R := fun b ε => ∃ x4 : Lc, ε = [.d (rowsD rs), .o (((rs.take k).map lineS).map .str), .d (rowD r), .d (.str b), x4]) r "" ?_ ⟨x4, rfl⟩ ?_
    · rintro i n ε hi ⟨x4, rfl⟩
      have lb : ((r.take i).foldl putS2 "").length ≤ 100 := by
        rw [fold_len, len_nil, List.length_take]
        omega
      generalize (r.take i).foldl putS2 "" = b at lb
      refine ⟨_, rfl, ?_⟩
      have ls := sig1_len n
      have ad : ∀ s, s = sig1 n → addD (.str b) (.str s) = some (.str (putS2 b n)) := fun s e => by
        subst e
        exact add_str (by omega)
      have lt := lt_int n 0
      refine ⟨[.d (rowsD rs), .o (((rs.take k).map lineS).map .str), .d (rowD r), .d (.str (putS2 b n)), .d (.int n)], ?_, _, rfl⟩
      by_cases hn : n < 0
      · rw [decide_eq_true hn] at lt
        refine (i_T (e_tst (e_bin (q_gb rfl) rfl lt))).trans ?_
        have : bin addD (gb 3) (kc (.str ".")) [.d (rowsD rs), .o (((rs.take k).map lineS).map .str), .d (rowD r), .d (.str b), .d (.int n)] = .ok (.str (putS2 b n)) := e_bin (q_gb rfl) rfl (ad _ (by unfold sig1; rw [if_pos hn]))
        show stS 3 _ [.d (rowsD rs), .o (((rs.take k).map lineS).map .str), .d (rowD r), .d (.str b), .d (.int n)] = _
        unfold stS
        rw [this]
        rfl
      · rw [decide_eq_false hn] at lt
        refine (i_F (e_tst (e_bin (q_gb rfl) rfl lt))).trans ?_
        have l36 : lenD (.str sigs) = some (.int 36) := by kernel_rfl
        have m36 : modD (.int n) (.int 36) = some (.int (n % 36)) := mod_pos (by decide)
        have : bin addD (gb 3) (bin ixD (kc (.str sigs)) (bin modD (gb 4) (un lenD (kc (.str sigs))))) [.d (rowsD rs), .o (((rs.take k).map lineS).map .str), .d (rowD r), .d (.str b), .d (.int n)] = .ok (.str (putS2 b n)) :=
          e_bin (q_gb rfl) (e_bin rfl (e_bin (q_gb rfl) (e_un rfl l36) m36) (sig1_ix (by omega))) (ad _ rfl)
        show stS 3 (bin addD (gb 3) (bin ixD (kc (.str sigs)) (bin modD (gb 4) (un lenD (kc (.str sigs)))))) [.d (rowsD rs), .o (((rs.take k).map lineS).map .str), .d (rowD r), .d (.str b), .d (.int n)] = _
        unfold stS
        rw [this]
        rfl
    · rintro ε ⟨y4, rfl⟩
      refine ⟨[.d (rowsD rs), .o ((((rs.take k).map lineS) ++ [lineS r]).map .str), .d (rowD r), .d (.str (lineS r)), y4], ?_, _, _, _, rfl⟩
      refine (q_app (ds := ((rs.take k).map lineS).map .str) (d := .str (lineS r)) rfl (q_gv rfl) (by rw [List.length_map, List.length_map, List.length_take]; omega)).trans ?_
      rw [List.map_append]
      rfl
  · rintro ε ⟨x2, x3, x4, rfl⟩
    rw [fold_snoc, List.nil_append]
    refine s_rt ?_
    rw [← text_join]
    refine e_joinG rfl (q_gbo rfl) ?_
    have := sum_le (rs.map lineS) 100 fun y hy => by
      obtain ⟨r, hr, rfl⟩ := List.mem_map.mp hy
      rw [line_len]
      exact h r hr
    rw [List.length_map] at this ⊢
    rw [len_nl]
    omega
theorem F_l_text_eq (rs : List (List Int)) (hl : rs.length ≤ 100) (h : ∀ r ∈ rs, r.length ≤ 100) (hn : ∀ r ∈ rs, ∀ n ∈ r, -1 ≤ n) : F_l_text [rowsD rs] = .ok (.va (.str (textS rs))) := by
  unfold F_l_text
  refine b_rt ?_
  unfold g_l_text
  show seqS _ _ [.d (rowsD rs), .u, .u, .u, .u] = _
  refine (s_st (d := .str "") rfl).trans ((s_st (d := .str sigs) rfl).trans ?_)
  have ln : lenD (rowsD rs) = some (.int (rs.length : Int)) := by
    show some (Dt.int (rs.map rowD).length) = _
    rw [List.length_map]
  have rg : rngF (un lenD (gb 0)) [.d (rowsD rs), .d (.str ""), .d (.str sigs), .u, .u] = .ok (upTo 0 rs.length) := by
    unfold rngF
    rw [e_un (q_gb rfl) ln, Rz.bind_ok, rng_ok (by omega) (by omega)]
    rfl
  show seqR ((exS _ (rngF (un lenD (gb 0)) [.d (rowsD rs), .d (.str ""), .d (.str sigs), .u, .u])).bind fun xs => forGo _ _ xs [.d (rowsD rs), .d (.str ""), .d (.str sigs), .u, .u]) _ = _
  rw [rg, q_exS, q_okB]
  refine for_ind (O := fun r => seqR r _ = _) (I := fun k ε => ∃ x3 x4 : Lc, ε = [.d (rowsD rs), .d (.str (textS (rs.take k))), .d (.str sigs), x3, x4]) ?_ ⟨.u, .u, rfl⟩ ?_
  · rintro k d ε hd ⟨x3, x4, rfl⟩
    have hk : k < rs.length := by
      have := (List.getElem?_eq_some_iff.mp hd).1
      unfold upTo at this
      rw [List.length_map, List.length_range] at this
      exact this
    unfold upTo at hd
    rw [List.getElem?_map, List.getElem?_range hk] at hd
    have ed : Dt.int (0 + (k : Int)) = d := Option.some.inj hd
    rw [Int.zero_add] at ed
    subst ed
    have hx : rs[k]? = some rs[k] := List.getElem?_eq_getElem hk
    generalize rs[k] = r at hx
    have hr := h r (List.mem_of_getElem? hx)
    have hnr := hn r (List.mem_of_getElem? hx)
    have tl : (textS (rs.take k)).length ≤ 100 * 101 := Nat.le_trans (text_len _ fun r hr => h r (List.mem_of_mem_take hr)) (Nat.mul_le_mul_right _ (by rw [List.length_take]; omega))
    refine ⟨_, rfl, .inl ?_⟩
    refine Exists.imp (fun ε2 (q : _ ∧ _) => ⟨.inl q.1, q.2⟩) ?_
    show ∃ ε2, seqS _ _ [.d (rowsD rs), .d (.str (textS (rs.take k))), .d (.str sigs), .d (.int k), x4] = _ ∧ _
    obtain ⟨t, ht, tl2, hs⟩ : ∃ t : Str, t ++ lineS r = textS (rs.take (k + 1)) ∧ t.length ≤ 100 * 101 + 1 ∧ ∀ g : Sg, seqS (ifS (tst (bin gtD (gb 3) (kc (.int 0)))) (stS 1 (bin addD (gb 1) (kc (.str "\n")))) (fun ε => .ok (.nx ε))) g [.d (rowsD rs), .d (.str (textS (rs.take k))), .d (.str sigs), .d (.int k), x4] = g [.d (rowsD rs), .d (.str t), .d (.str sigs), .d (.int k), x4] := by
      have e : rs.take (k + 1) = rs.take k ++ [r] := by rw [List.take_add_one, hx]; rfl
      have gt := gt_int (k : Int) 0
      rw [e, text_snoc]
      by_cases h0 : k = 0
      · subst h0
        rw [decide_eq_false (by decide)] at gt
        refine ⟨"", ?_, by rw [len_nil]; omega, fun g => s_ifF (e_tst (e_bin (q_gb rfl) rfl gt))⟩
        rw [if_pos List.take_zero, ← fold_line]
        rfl
      · rw [decide_eq_true (by omega)] at gt
        refine ⟨textS (rs.take k) ++ ("\n" : Str), ?_, by rw [len_app, len_nl]; omega, fun g => (s_ifT (e_tst (e_bin (q_gb rfl) rfl gt))).trans ?_⟩
        · rw [if_neg]
          intro z
          have := congrArg List.length z
          rw [List.length_take] at this
          have z0 : ([] : List (List Int)).length = 0 := rfl
          omega
        · have : bin addD (gb 1) (kc (.str "\n")) [.d (rowsD rs), .d (.str (textS (rs.take k))), .d (.str sigs), .d (.int k), x4] = .ok (.str (textS (rs.take k) ++ ("\n" : Str))) := e_bin (q_gb rfl) rfl (add_str (by rw [len_nl]; omega))
          show seqR (stS 1 _ [.d (rowsD rs), .d (.str (textS (rs.take k))), .d (.str sigs), .d (.int k), x4]) g = _
          unfold stS
          rw [this]
          rfl
    rw [hs]
    have ixr : ixD (rowsD rs) (.int (k : Int)) = some (rowD r) := L2.atI_nat (by rw [List.getElem?_map, hx]; rfl)
    have it : iterF (bin ixD (gb 0) (gb 3)) [.d (rowsD rs), .d (.str t), .d (.str sigs), .d (.int k), x4] = .ok (r.map .int) := by
      unfold iterF
      rw [e_bin (q_gb rfl) (q_gb rfl) ixr]
      rfl
    show ∃ ε2, ((exS _ (iterF (bin ixD (gb 0) (gb 3)) [.d (rowsD rs), .d (.str t), .d (.str sigs), .d (.int k), x4])).bind (fun xs => forGo _ _ xs [.d (rowsD rs), .d (.str t), .d (.str sigs), .d (.int k), x4]) = _) ∧ _
    rw [it, q_exS, q_okB]
    refine for_fold (O := fun res => ∃ ε2, res = .ok (.nx ε2) ∧ ∃ x3 x4 : Lc, ε2 = [.d (rowsD rs), .d (.str (textS (rs.take (k + 1)))), .d (.str sigs), x3, x4]) (en := Dt.int) (stp := putS2) (R := fun b ε => ∃ x4 : Lc, ε = [.d (rowsD rs), .d (.str b), .d (.str sigs), .d (.int k), x4]) r t ?_ ⟨x4, rfl⟩ ?_
    · rintro i n ε hi ⟨x4, rfl⟩
      have h1 := hnr n (List.mem_of_getElem? hi)
      have lb : ((r.take i).foldl putS2 t).length ≤ 100 * 101 + 101 := by
        rw [fold_len, List.length_take]
        omega
      generalize (r.take i).foldl putS2 t = b at lb
      refine ⟨_, rfl, ?_⟩
      have ls := sig1_len n
      have ad : ∀ s, s = sig1 n → addD (.str b) (.str s) = some (.str (putS2 b n)) := fun s e => by
        subst e
        exact add_str (by omega)
      have eq := eqD_int n (0 - 1)
      refine ⟨[.d (rowsD rs), .d (.str (putS2 b n)), .d (.str sigs), .d (.int k), .d (.int n)], ?_, _, rfl⟩
      by_cases hn : n = 0 - 1
      · rw [decide_eq_true hn] at eq
        refine (i_T (e_tst (e_bin (q_gb rfl) (e_bin rfl rfl rfl) eq))).trans ?_
        have : bin addD (gb 1) (kc (.str ".")) [.d (rowsD rs), .d (.str b), .d (.str sigs), .d (.int k), .d (.int n)] = .ok (.str (putS2 b n)) := e_bin (q_gb rfl) rfl (ad _ (by unfold sig1; rw [if_pos (by omega)]))
        show stS 1 _ [.d (rowsD rs), .d (.str b), .d (.str sigs), .d (.int k), .d (.int n)] = _
        unfold stS
        rw [this]
        rfl
      · rw [decide_eq_false hn] at eq
        refine (i_F (e_tst (e_bin (q_gb rfl) (e_bin rfl rfl rfl) eq))).trans ?_
        have d36 : divD (.int n) (.int 36) = some (.int (n / 36)) := div_sm (by decide)
        have mu : mulD (.int (n / 36)) (.int 36) = some (.int (n / 36 * 36)) := mul_right (by decide)
        have em : n - n / 36 * 36 = n % 36 := by omega
        have : bin addD (gb 1) (bin ixD (gb 2) (bin subD (gb 4) (bin mulD (bin divD (gb 4) (kc (.int 36))) (kc (.int 36))))) [.d (rowsD rs), .d (.str b), .d (.str sigs), .d (.int k), .d (.int n)] = .ok (.str (putS2 b n)) :=
          e_bin (q_gb rfl) (e_bin (q_gb rfl) (e_bin (q_gb rfl) (e_bin (e_bin (q_gb rfl) rfl d36) rfl mu) (by rw [sub_int, em])) (sig1_ix (by omega))) (ad _ rfl)
        show stS 1 (bin addD (gb 1) (bin ixD (gb 2) (bin subD (gb 4) (bin mulD (bin divD (gb 4) (kc (.int 36))) (kc (.int 36)))))) [.d (rowsD rs), .d (.str b), .d (.str sigs), .d (.int k), .d (.int n)] = _
        unfold stS
        rw [this]
        rfl
    · rintro ε ⟨y4, rfl⟩
      exact ⟨[.d (rowsD rs), .d (.str (r.foldl putS2 t)), .d (.str sigs), .d (.int k), y4], rfl, _, _, by rw [fold_line, ht]⟩
  · rintro ε ⟨x3, x4, rfl⟩
    unfold upTo
    rw [List.length_map, List.length_range, List.take_length]
    exact s_rt (q_gv rfl)
end DL
end
section
set_option Elab.async false
set_option linter.all false
set_option maxRecDepth 100000
set_option maxHeartbeats 4000000
set_option autoImplicit false
namespace DL
variable [TbC]
open PySem
/-! ### the law's numbers -/
def M1 : Int := 340282366920938463463374607431768211507
def M2 : Int := 340282366920938463463374607431768211297
def drawn (c k : Int) : Int := (c * 6364136223846793005 + (k + 1) * 1442695040888963407) % M1 * ((c * 6364136223846793005 + (k + 1) * 1442695040888963407) % M1) % M2
theorem drawn_bd (c k : Int) : 0 ≤ drawn c k ∧ drawn c k < M2 := ⟨Int.emod_nonneg _ (by decide), Int.emod_lt_of_pos _ (by decide)⟩
theorem F_l_drawn_eq (c k : Int) : F_l_drawn [.int c, .int k] = .ok (.va (.int (drawn c k))) := by
  have h1 : mulD (.int c) (.int 6364136223846793005) = some (.int (c * 6364136223846793005)) := mul_right (by decide)
  have h2 : mulD (.int (k + 1)) (.int 1442695040888963407) = some (.int ((k + 1) * 1442695040888963407)) := mul_right (by decide)
  have h3 : Bd 129 ((c * 6364136223846793005 + (k + 1) * 1442695040888963407) % 340282366920938463463374607431768211507) := by
    unfold Bd
    generalize c * 6364136223846793005 + (k + 1) * 1442695040888963407 = z
    omega
  have h4 := mul_bd h3 h3 (by decide) (by decide) (by decide)
  have h5 : ∀ i : Int, modD (.int i) (.int 340282366920938463463374607431768211507) = some (.int (i % 340282366920938463463374607431768211507)) := fun i => mod_pos (by decide)
  have h6 : ∀ i : Int, modD (.int i) (.int 340282366920938463463374607431768211297) = some (.int (i % 340282366920938463463374607431768211297)) := fun i => mod_pos (by decide)
  simp only [F_l_drawn, g_l_drawn, bodyF, startE, seqS, stS, stO, rtS, roS, roV, asS, ifS, xpS, bin, un, unN, lstF, lsF, consF, nilF, tupF, kc, gv, gb, tst, andT, orT, notT, andV, orV, notV, ifV, callF, callN, iterF, rngF, walked, slF, noP, soP, setN, setT, setCons, setNil, wipeE, yes, forS, prS, Rz.bind_ok, q_ofO, q_ofN, q_bad, q_ex, q_exS, q_exX, q_exB, q_okB, q_nx, q_rt, q_ro, q_bk, q_ct, q_sx, q_anx, q_act, q_abk, q_art, q_bnx, q_brt, q_bro, q_bex, q_va, q_ow, q_boo, add_int, sub_int, lt_int, le_int, gt_int, ge_int, neg_int, List.map_cons, List.map_nil, List.length_cons, List.length_nil, List.nil_append, List.cons_append, List.replicate, List.getElem?_cons_zero, List.getElem?_cons_succ, env_set0, env_setS, Option.bind_some, Option.map_some, if_true, Bool.false_eq_true, if_false, Nat.reduceAdd, Nat.reduceSub, sizeLine_eq, Nat.reduceLeDiff, Nat.zero_le, h1, h2, h5, h4, h6]
  rfl
/-- a cell of the script -/
def cell (ns : List Int) (k : Nat) : Int := if ns = [] then k * 7919 else ns[k % ns.length]?.getD 0 + (k / ns.length : Nat) * 104729
theorem F_l_cell_eq (ns : List Int) (hn : ns.length ≤ 63) (k : Nat) (hk : k < 1000) : F_l_cell [.frl (ns.map .int), .int k] = .ok (.va (.int (cell ns k))) := by
  have e1 : eqD (.frl (ns.map .int)) (.lst []) = some (.bl (decide (ns = []))) := by
    have ok : ∀ l : List Int, okqs 0 (l.map Dt.int) = true := fun l => by
      induction l with
      | nil => rfl
      | cons a l ih => rw [List.map_cons, okqs, ih]; rfl
    rw [eqD_of (n := 1) (show okq 1 (.frl (ns.map .int)) = true from ok ns) rfl (by decide), eqq_frl]
    cases ns with
    | nil => rfl
    | cons a l => rw [List.map_cons, eqqs_cn]; rfl
  by_cases h : ns = []
  · subst h
    have h1 : mulD (.int (k : Int)) (.int 7919) = some (.int ((k : Int) * 7919)) := mul_right (by decide)
    simp only [F_l_cell, g_l_cell, bodyF, startE, seqS, stS, stO, rtS, roS, roV, asS, ifS, xpS, bin, un, unN, lstF, lsF, consF, nilF, tupF, kc, gv, gb, tst, andT, orT, notT, andV, orV, notV, ifV, callF, callN, iterF, rngF, walked, slF, noP, soP, setN, setT, setCons, setNil, wipeE, yes, forS, prS, Rz.bind_ok, q_ofO, q_ofN, q_bad, q_ex, q_exS, q_exX, q_exB, q_okB, q_nx, q_rt, q_ro, q_bk, q_ct, q_sx, q_anx, q_act, q_abk, q_art, q_bnx, q_brt, q_bro, q_bex, q_va, q_ow, q_boo, add_int, sub_int, lt_int, le_int, gt_int, ge_int, neg_int, List.map_cons, List.map_nil, List.length_cons, List.length_nil, List.nil_append, List.cons_append, List.replicate, List.getElem?_cons_zero, List.getElem?_cons_succ, env_set0, env_setS, Option.bind_some, Option.map_some, if_true, Bool.false_eq_true, if_false, Nat.reduceAdd, Nat.reduceSub, sizeLine_eq, Nat.reduceLeDiff, Nat.zero_le, e1, decide_true, h1]
    rfl
  · have l0 : 0 < ns.length := List.length_pos_iff.mpr h
    have h1 : modD (.int (k : Int)) (.int (ns.map Dt.int).length) = some (.int ((k % ns.length : Nat) : Int)) := by
      rw [List.length_map, mod_pos (by omega)]; rfl
    have h2 : divD (.int (k : Int)) (.int (ns.map Dt.int).length) = some (.int ((k / ns.length : Nat) : Int)) := by
      rw [List.length_map, div_pos (by omega) (Bd.mono (n := 6) (show ((ns.length : Int)).natAbs < 2 ^ 6 by omega) (by decide))]; rfl
    have h3 : mulD (.int ((k / ns.length : Nat) : Int)) (.int 104729) = some (.int ((k / ns.length : Nat) * 104729)) := mul_right (by decide)
    have h4 : ixD (.frl (ns.map .int)) (.int ((k % ns.length : Nat) : Int)) = some (.int (ns[k % ns.length]?.getD 0)) := by
      have hlt : k % ns.length < ns.length := Nat.mod_lt _ l0
      exact L2.atI_nat (by rw [List.getElem?_map, List.getElem?_eq_getElem hlt]; rfl)
    simp only [F_l_cell, g_l_cell, bodyF, startE, seqS, stS, stO, rtS, roS, roV, asS, ifS, xpS, bin, un, unN, lstF, lsF, consF, nilF, tupF, kc, gv, gb, tst, andT, orT, notT, andV, orV, notV, ifV, callF, callN, iterF, rngF, walked, slF, noP, soP, setN, setT, setCons, setNil, wipeE, yes, forS, prS, Rz.bind_ok, q_ofO, q_ofN, q_bad, q_ex, q_exS, q_exX, q_exB, q_okB, q_nx, q_rt, q_ro, q_bk, q_ct, q_sx, q_anx, q_act, q_abk, q_art, q_bnx, q_brt, q_bro, q_bex, q_va, q_ow, q_boo, add_int, sub_int, lt_int, le_int, gt_int, ge_int, neg_int, List.map_cons, List.map_nil, List.length_cons, List.length_nil, List.nil_append, List.cons_append, List.replicate, List.getElem?_cons_zero, List.getElem?_cons_succ, env_set0, env_setS, Option.bind_some, Option.map_some, if_true, Bool.false_eq_true, if_false, Nat.reduceAdd, Nat.reduceSub, sizeLine_eq, Nat.reduceLeDiff, Nat.zero_le, e1, decide_eq_false h, lenD, h1, h2, h3, h4]
    rw [cell, if_neg h]
end DL
end
section
set_option Elab.async false
set_option linter.all false
set_option maxRecDepth 100000
set_option maxHeartbeats 4000000
set_option autoImplicit false
namespace DL
variable [TbC]
open PySem
/-! ### spots, put elsewhere -/
def spotP (m : Int) : P3 := (m % 9 - 4, m / 9 % 9 - 4, m / 81 % 9 - 4)
theorem F_l_spot_eq (m : Int) : F_l_spot [.int m] = .ok (.va (en (spotP m))) := by
  have m9 : ∀ x : Int, modD (.int x) (.int 9) = some (.int (x % 9)) := fun x => mod_pos (by decide)
  have d9 : ∀ x : Int, divD (.int x) (.int 9) = some (.int (x / 9)) := fun x => div_sm (by decide)
  have d81 : ∀ x : Int, divD (.int x) (.int 81) = some (.int (x / 81)) := fun x => div_sm (by decide)
  simp only [F_l_spot, g_l_spot, bodyF, startE, seqS, stS, stO, rtS, roS, roV, asS, ifS, xpS, bin, un, unN, lstF, lsF, consF, nilF, tupF, kc, gv, gb, tst, andT, orT, notT, andV, orV, notV, ifV, callF, callN, iterF, rngF, walked, slF, noP, soP, setN, setT, setCons, setNil, wipeE, yes, forS, prS, Rz.bind_ok, q_ofO, q_ofN, q_bad, q_ex, q_exS, q_exX, q_exB, q_okB, q_nx, q_rt, q_ro, q_bk, q_ct, q_sx, q_anx, q_act, q_abk, q_art, q_bnx, q_brt, q_bro, q_bex, q_va, q_ow, q_boo, add_int, sub_int, lt_int, le_int, gt_int, ge_int, neg_int, List.map_cons, List.map_nil, List.length_cons, List.length_nil, List.nil_append, List.cons_append, List.replicate, List.getElem?_cons_zero, List.getElem?_cons_succ, env_set0, env_setS, Option.bind_some, Option.map_some, if_true, Bool.false_eq_true, if_false, Nat.reduceAdd, Nat.reduceSub, sizeLine_eq, Nat.reduceLeDiff, Nat.zero_le, m9, d9, d81]
  rfl
theorem spot_bd (m : Int) : BdN 3 (spotP m) := by
  have one : ∀ x : Int, Bd 3 (x % 9 - 4) := fun x => by unfold Bd; omega
  exact ⟨one _, one _, one _⟩
def putP (p : P3) (c : Int) : P3 := if c % 3 = 0 then p else (p.1 * (1 + c % 1125899906842624) + c % 1000003, p.2.1 * (1 + c % 1125899906842624) - c % 997, p.2.2 * (1 + c % 1125899906842624) + 5)
theorem F_l_put_eq {n : Nat} {p : P3} (b : BdN n p) (h0 : 0 < n) (hn : n ≤ 1000) (c : Int) : F_l_put [en p, .int c] = .ok (.va (en (putP p c))) := by
  have m3 : modD (.int c) (.int 3) = some (.int (c % 3)) := mod_pos (by decide)
  by_cases h : c % 3 = 0
  · simp only [F_l_put, g_l_put, bodyF, startE, seqS, stS, stO, rtS, roS, roV, asS, ifS, xpS, bin, un, unN, lstF, lsF, consF, nilF, tupF, kc, gv, gb, tst, andT, orT, notT, andV, orV, notV, ifV, callF, callN, iterF, rngF, walked, slF, noP, soP, setN, setT, setCons, setNil, wipeE, yes, forS, prS, Rz.bind_ok, q_ofO, q_ofN, q_bad, q_ex, q_exS, q_exX, q_exB, q_okB, q_nx, q_rt, q_ro, q_bk, q_ct, q_sx, q_anx, q_act, q_abk, q_art, q_bnx, q_brt, q_bro, q_bex, q_va, q_ow, q_boo, add_int, sub_int, lt_int, le_int, gt_int, ge_int, neg_int, List.map_cons, List.map_nil, List.length_cons, List.length_nil, List.nil_append, List.cons_append, List.replicate, List.getElem?_cons_zero, List.getElem?_cons_succ, env_set0, env_setS, Option.bind_some, Option.map_some, if_true, Bool.false_eq_true, if_false, Nat.reduceAdd, Nat.reduceSub, sizeLine_eq, Nat.reduceLeDiff, Nat.zero_le, m3, eqD_int, decide_eq_true h, putP, if_pos h]
  · have sh : shlD (.int 1) (.int 50) = some (.int 1125899906842624) := rfl
    have m5 : modD (.int c) (.int 1125899906842624) = some (.int (c % 1125899906842624)) := mod_pos (by decide)
    have m6 : modD (.int c) (.int 1000003) = some (.int (c % 1000003)) := mod_pos (by decide)
    have m7 : modD (.int c) (.int 997) = some (.int (c % 997)) := mod_pos (by decide)
    have bs : Bd 51 (1 + c % 1125899906842624) := by unfold Bd; omega
    have e0 := mul_bd b.1 bs h0 (by decide) (by omega)
    have e1 := mul_bd b.2.1 bs h0 (by decide) (by omega)
    have e2 := mul_bd b.2.2 bs h0 (by decide) (by omega)
    simp only [F_l_put, g_l_put, bodyF, startE, seqS, stS, stO, rtS, roS, roV, asS, ifS, xpS, bin, un, unN, lstF, lsF, consF, nilF, tupF, kc, gv, gb, tst, andT, orT, notT, andV, orV, notV, ifV, callF, callN, iterF, rngF, walked, slF, noP, soP, setN, setT, setCons, setNil, wipeE, yes, forS, prS, Rz.bind_ok, q_ofO, q_ofN, q_bad, q_ex, q_exS, q_exX, q_exB, q_okB, q_nx, q_rt, q_ro, q_bk, q_ct, q_sx, q_anx, q_act, q_abk, q_art, q_bnx, q_brt, q_bro, q_bex, q_va, q_ow, q_boo, add_int, sub_int, lt_int, le_int, gt_int, ge_int, neg_int, List.map_cons, List.map_nil, List.length_cons, List.length_nil, List.nil_append, List.cons_append, List.replicate, List.getElem?_cons_zero, List.getElem?_cons_succ, env_set0, env_setS, Option.bind_some, Option.map_some, if_true, Bool.false_eq_true, if_false, Nat.reduceAdd, Nat.reduceSub, sizeLine_eq, Nat.reduceLeDiff, Nat.zero_le, m3, eqD_int, decide_eq_false h, putP, if_neg h, sh, m5, m6, m7, en0, en1, en2, e0, e1, e2]
    rfl
theorem put_bd {n : Nat} {p : P3} (b : BdN n p) (c : Int) (hn : 3 ≤ n) : BdN (n + 52) (putP p c) := by
  unfold putP
  split
  · exact b.mono (by omega)
  · have bs : Bd 51 (1 + c % 1125899906842624) := by unfold Bd; omega
    have up : ∀ {x : Int}, Bd 51 x → Bd (n + 51) x := fun h => h.mono (by omega)
    exact ⟨(b.1.mul bs).add (up (by unfold Bd; omega)), (b.2.1.mul bs).sub (up (by unfold Bd; omega)), (b.2.2.mul bs).add (up (show (5 : Int).natAbs < 2 ^ 51 by decide))⟩
theorem P3.ext {p q : P3} (h1 : p.1 = q.1) (h2 : p.2.1 = q.2.1) (h3 : p.2.2 = q.2.2) : p = q := by
  obtain ⟨a, b, c⟩ := p
  obtain ⟨d, e, f⟩ := q
  simp only at h1 h2 h3
  rw [h1, h2, h3]
end DL
end
section
set_option Elab.async false
set_option linter.all false
set_option maxRecDepth 100000
set_option maxHeartbeats 4000000
set_option autoImplicit false
namespace DL
variable [TbC]
open PySem
/-! ### the laws' shapes -/
theorem F_l_plain_eq (ns : List Int) (hn : ns.length ≤ 63) (k : Nat) (hk : k < 200) : ∃ S, ShOk 6 S ∧ F_l_plain [.frl (ns.map .int), .int k] = .ok (.va (enS S)) := by
  have c0 : F_l_cell [.frl (ns.map .int), .int 0] = .ok (.va (.int (cell ns 0))) := F_l_cell_eq ns hn 0 (by decide)
  generalize cell ns 0 = c at c0
  obtain ⟨p, hp, hp2⟩ : ∃ p : Nat, (k : Int) - k % 3 * (c % 2) = p ∧ p ≤ k := by
    rcases (show c % 2 = 0 ∨ c % 2 = 1 by omega) with h | h
    · exact ⟨k, by rw [h]; omega, Nat.le_refl _⟩
    · exact ⟨k - k % 3, by rw [h]; omega, by omega⟩
  have m3 : modD (.int k) (.int 3) = some (.int (k % 3)) := mod_pos (by decide)
  have m2 : ∀ x : Int, modD (.int x) (.int 2) = some (.int (x % 2)) := fun x => mod_pos (by decide)
  have mm : mulD (.int (k % 3)) (.int (c % 2)) = some (.int (k % 3 * (c % 2))) := mul_right (by omega)
  have e1 : (p : Int) + 1 = ((p + 1 : Nat) : Int) := rfl
  have c1 := F_l_cell_eq ns hn (p + 1) (by omega)
  generalize cell ns (p + 1) = z at c1
  have hm := F_l_drawn_eq z p
  generalize drawn z p = m at hm
  have d729 : divD (.int m) (.int 729) = some (.int (m / 729)) := div_sm (by decide)
  have d1458 : divD (.int m) (.int 1458) = some (.int (m / 1458)) := div_sm (by decide)
  have d106 : divD (.int m) (.int 1062882) = some (.int (m / 1062882)) := div_sm (by decide)
  have d2 : ∀ x : Int, divD (.int x) (.int 2) = some (.int (x / 2)) := fun x => div_sm (by decide)
  have m3' : ∀ x : Int, modD (.int x) (.int 3) = some (.int (x % 3)) := fun x => mod_pos (by decide)
  have ab : ∀ x : Int, absD (.int x) = some (.int (x.natAbs : Int)) := absD_int
  by_cases h : m / 729 % 2 = 0
  · refine ⟨.bx (spotP m) ((spotP m).1 + ((spotP (m / 1458)).1.natAbs : Int), (spotP m).2.1 + ((spotP (m / 1458)).2.1.natAbs : Int) / 2, (spotP m).2.2 + ((spotP (m / 1458)).2.2.natAbs : Int) % 3), ⟨(spot_bd m).mono (by decide), ?_, ?_⟩, ?_⟩
    · have a := spot_bd m
      have b := spot_bd (m / 1458)
      unfold BdN Bd at *
      simp only at *
      omega
    · intro j hj
      have : j = 0 ∨ j = 1 ∨ j = 2 := by omega
      rcases this with rfl | rfl | rfl
      · show (spotP m).1 ≤ (spotP m).1 + _; omega
      · show (spotP m).2.1 ≤ (spotP m).2.1 + _; omega
      · show (spotP m).2.2 ≤ (spotP m).2.2 + _; omega
    · simp only [F_l_plain, g_l_plain, bodyF, startE, seqS, stS, stO, rtS, roS, roV, asS, ifS, xpS, bin, un, unN, lstF, lsF, consF, nilF, tupF, kc, gv, gb, tst, andT, orT, notT, andV, orV, notV, ifV, callF, callN, iterF, rngF, walked, slF, noP, soP, setN, setT, setCons, setNil, wipeE, yes, forS, prS, Rz.bind_ok, q_ofO, q_ofN, q_bad, q_ex, q_exS, q_exX, q_exB, q_okB, q_nx, q_rt, q_ro, q_bk, q_ct, q_sx, q_anx, q_act, q_abk, q_art, q_bnx, q_brt, q_bro, q_bex, q_va, q_ow, q_boo, add_int, sub_int, lt_int, le_int, gt_int, ge_int, neg_int, List.map_cons, List.map_nil, List.length_cons, List.length_nil, List.nil_append, List.cons_append, List.replicate, List.getElem?_cons_zero, List.getElem?_cons_succ, env_set0, env_setS, Option.bind_some, Option.map_some, if_true, Bool.false_eq_true, if_false, Nat.reduceAdd, Nat.reduceSub, sizeLine_eq, Nat.reduceLeDiff, Nat.zero_le, c0, m3, m2, mm, hp, e1, c1, hm, F_l_spot_eq, d729, eqD_int, decide_eq_true h, d1458, en0, en1, en2, ab, d2, m3']
      rfl
  · refine ⟨.tr (spotP m) (spotP (m / 1458)) (spotP (m / 1062882)), ⟨(spot_bd m).mono (by decide), (spot_bd _).mono (by decide), (spot_bd _).mono (by decide)⟩, ?_⟩
    simp only [F_l_plain, g_l_plain, bodyF, startE, seqS, stS, stO, rtS, roS, roV, asS, ifS, xpS, bin, un, unN, lstF, lsF, consF, nilF, tupF, kc, gv, gb, tst, andT, orT, notT, andV, orV, notV, ifV, callF, callN, iterF, rngF, walked, slF, noP, soP, setN, setT, setCons, setNil, wipeE, yes, forS, prS, Rz.bind_ok, q_ofO, q_ofN, q_bad, q_ex, q_exS, q_exX, q_exB, q_okB, q_nx, q_rt, q_ro, q_bk, q_ct, q_sx, q_anx, q_act, q_abk, q_art, q_bnx, q_brt, q_bro, q_bex, q_va, q_ow, q_boo, add_int, sub_int, lt_int, le_int, gt_int, ge_int, neg_int, List.map_cons, List.map_nil, List.length_cons, List.length_nil, List.nil_append, List.cons_append, List.replicate, List.getElem?_cons_zero, List.getElem?_cons_succ, env_set0, env_setS, Option.bind_some, Option.map_some, if_true, Bool.false_eq_true, if_false, Nat.reduceAdd, Nat.reduceSub, sizeLine_eq, Nat.reduceLeDiff, Nat.zero_le, c0, m3, m2, mm, hp, e1, c1, hm, F_l_spot_eq, d729, eqD_int, decide_eq_false h, d1458, d106]
    rfl
def putS (S : Sh) (c : Int) : Sh := match S with
  | .bx l h => .bx (putP l c) (putP h c)
  | .tr a b d => .tr (putP a c) (putP b c) (putP d c)
theorem put_le3 {p q : P3} (c : Int) (h : ∀ j, j < 3 → co j p ≤ co j q) : ∀ j, j < 3 → co j (putP p c) ≤ co j (putP q c) := by
  have h0 : p.1 ≤ q.1 := h 0 (by decide)
  have h1 : p.2.1 ≤ q.2.1 := h 1 (by decide)
  have h2 : p.2.2 ≤ q.2.2 := h 2 (by decide)
  unfold putP
  split
  · exact h
  · have s0 : 0 ≤ 1 + c % 1125899906842624 := by omega
    have a0 := Int.mul_le_mul_of_nonneg_right h0 s0
    have a1 := Int.mul_le_mul_of_nonneg_right h1 s0
    have a2 := Int.mul_le_mul_of_nonneg_right h2 s0
    intro j hj
    have : j = 0 ∨ j = 1 ∨ j = 2 := by omega
    rcases this with rfl | rfl | rfl
    · show p.1 * _ + _ ≤ q.1 * _ + _; omega
    · show p.2.1 * _ - _ ≤ q.2.1 * _ - _; omega
    · show p.2.2 * _ + _ ≤ q.2.2 * _ + _; omega
theorem putS_ok {S : Sh} (h : ShOk 6 S) (c : Int) : ShOk 60 (putS S c) := by
  cases S with
  | bx l u => exact ⟨(put_bd h.1 c (by decide)).mono (by decide), (put_bd h.2.1 c (by decide)).mono (by decide), put_le3 c h.2.2⟩
  | tr a b d => exact ⟨(put_bd h.1 c (by decide)).mono (by decide), (put_bd h.2.1 c (by decide)).mono (by decide), (put_bd h.2.2 c (by decide)).mono (by decide)⟩
theorem F_l_shape_eq (ns : List Int) (hn : ns.length ≤ 63) (k : Nat) (hk : k < 200) : ∃ S, ShOk 60 S ∧ F_l_shape [.frl (ns.map .int), .int k] = .ok (.va (enS S)) := by
  obtain ⟨S, ok, hS⟩ := F_l_plain_eq ns hn k hk
  have c0 : F_l_cell [.frl (ns.map .int), .int 0] = .ok (.va (.int (cell ns 0))) := F_l_cell_eq ns hn 0 (by decide)
  generalize cell ns 0 = c at c0
  refine ⟨putS S c, putS_ok ok c, ?_⟩
  have sl : slD (enS S) (some 1) none = some (.tup (S.cor.map en)) := by cases S <;> kernel_rfl
  have i0 : ixD (enS S) (.int 0) = some (.str S.nm) := by cases S <;> rfl
  have bd : ∀ p ∈ S.cor, BdN 6 p := cor_ok ok
  have lc : lcF (iterF (slF (gb 2) (soP (kc (.int 1))) noP)) [3] (setN 3) yes (callF 2 F_l_put (consF (gv 3) (consF (callF 2 F_l_cell (consF (gv 0) (consF (kc (.int 0)) nilF))) nilF))) [.d (.frl (ns.map .int)), .d (.int k), .d (enS S), .u] = .ok (S.cor.map fun p => en (putP p c)) := by
    refine lcF_map (l := S.cor) (en := en) ?_ (by cases S <;> (show _ < 16777216; simp [Sh.cor])) fun p hp => ?_
    · unfold iterF
      rw [e_sl (x := enS S) (l := some 1) (u := none) rfl (e_so rfl) rfl sl]
      rfl
    · exact c_1 (n := 2) (ds := [en p, .int c]) (e_cons rfl (e_cons (c_1 (n := 2) (ds := [.frl (ns.map .int), .int 0]) rfl rfl c0 rfl) rfl)) rfl (F_l_put_eq (bd p hp) (by decide) (by decide) c) rfl
  unfold F_l_shape
  refine b_rt ?_
  unfold g_l_shape
  show seqS _ _ [.d (.frl (ns.map .int)), .d (.int k), .u, .u] = _
  refine (s_st (d := enS S) (c_1 (n := 2) (ds := [.frl (ns.map .int), .int k]) rfl rfl hS rfl)).trans ?_
  refine s_rt (e_bin (x := .tup [.str S.nm]) (y := .tup (S.cor.map fun p => en (putP p c))) (e_tup (e_cons (e_bin rfl rfl i0) rfl) (by show 1 ≤ 16777216; decide)) (e_un (e_lst lc) rfl) ?_)
  cases S <;> rfl
end DL
end
section
set_option Elab.async false
set_option linter.all false
set_option maxRecDepth 100000
set_option maxHeartbeats 4000000
set_option autoImplicit false
namespace DL
variable [TbC]
open PySem
/-! ### the laws' lists of shapes -/
theorem upTo_nums (n : Nat) : upTo 0 n = (nums n).map .int := by
  unfold upTo nums
  rw [List.map_map]
  rfl
theorem shapes_eq (ns : List Int) (hn : ns.length ≤ 63) (n : Nat) (h : n ≤ 200) : ∃ Ss : List Sh, Ss.length = n ∧ (∀ S ∈ Ss, ShOk 60 S) ∧ ∀ (i : Nat), i < n → ∃ S, Ss[i]? = some S ∧ F_l_shape [.frl (ns.map .int), .int i] = .ok (.va (enS S)) := by
  induction n with
  | zero => exact ⟨[], rfl, (fun _ z => nomatch z), fun i z => absurd z (by omega)⟩
  | succ n ih =>
    obtain ⟨Ss, h1, h2, h3⟩ := ih (by omega)
    obtain ⟨S, ok, hS⟩ := F_l_shape_eq ns hn n (by omega)
    refine ⟨Ss ++ [S], by rw [List.length_append, h1]; rfl, fun T hT => ?_, fun i hi => ?_⟩
    · rcases List.mem_append.mp hT with h | h
      · exact h2 T h
      · rw [List.mem_singleton.mp h]; exact ok
    · by_cases e : i < n
      · obtain ⟨T, hT, hT2⟩ := h3 i e
        exact ⟨T, by rw [List.getElem?_append_left (by omega)]; exact hT, hT2⟩
      · have : i = n := by omega
        subst this
        exact ⟨S, by rw [List.getElem?_append_right (by omega), h1, Nat.sub_self]; rfl, hS⟩
/-- the list of the law's shapes -/
theorem shapes_lc {it : Fs} {own : List Nat} {i : Nat} {elt : Fn} {ε : Ev} {Ss : List Sh} {ns : List Int} {n : Nat} (hi : it ε = .ok (upTo 0 n)) (hl : Ss.length = n) (hn : n ≤ 200) (hs : ∀ k, k < n → ∃ S, Ss[k]? = some S ∧ F_l_shape [.frl (ns.map .int), .int k] = .ok (.va (enS S)))
    (h : ∀ (k : Nat) (d : Dt), F_l_shape [.frl (ns.map .int), .int k] = .ok (.va d) → elt ((wipeE ε own).set i (.d (.int k))) = .ok d) : lcF it own (setN i) yes elt ε = .ok (Ss.map enS) := by
  have : lcF it own (setN i) yes elt ε = .ok ((List.range n).map fun k => enS (Ss.getD k (.bx (0, 0, 0) (0, 0, 0)))) := lcF_rng hi (by omega) fun k hk => by
    obtain ⟨S, hS, hF⟩ := hs k hk
    rw [List.getD_eq_getElem?_getD, hS]
    exact h k _ hF
  rw [this]
  congr 1
  refine List.ext_getElem? fun k => ?_
  by_cases hk : k < n
  · obtain ⟨S, hS, _⟩ := hs k hk
    rw [List.getElem?_map, List.getElem?_range hk, List.getElem?_map, hS]
    show some (enS (Ss.getD k _)) = _
    rw [List.getD_eq_getElem?_getD, hS]
    rfl
  · rw [List.getElem?_eq_none (by rw [List.length_map, List.length_range]; omega), List.getElem?_eq_none (by rw [List.length_map, hl]; omega)]
theorem ShOk.mono {n m : Nat} {S : Sh} (h : ShOk n S) (l : n ≤ m) : ShOk m S := by
  cases S with
  | bx a b => exact ⟨h.1.mono l, h.2.1.mono l, h.2.2⟩
  | tr a b c => exact ⟨h.1.mono l, h.2.1.mono l, h.2.2.mono l⟩
end DL
end
section
set_option Elab.async false
set_option linter.all false
set_option maxRecDepth 100000
set_option maxHeartbeats 4000000
set_option autoImplicit false
namespace DL
variable [TbC]
open PySem
/-! ### the laws' rays -/
theorem way6 (m : Int) : ∃ w : P3, BdN 3 w ∧ w ≠ (0, 0, 0) ∧ ixD (.lst [.tup [.int 1, .int 0, .int 0], .tup [.int 0, .int (0 - 2), .int 0], .tup [.int 0, .int 0, .int 3], .tup [.int 1, .int 1, .int 0], .tup [.int 0, .int 1, .int (0 - 1)], .tup [.int (0 - 1), .int 0, .int 0]]) (.int (m % 6)) = some (en w) := by
  have : m % 6 = 0 ∨ m % 6 = 1 ∨ m % 6 = 2 ∨ m % 6 = 3 ∨ m % 6 = 4 ∨ m % 6 = 5 := by omega
  rcases this with h | h | h | h | h | h <;> rw [h]
  · exact ⟨(1, 0, 0), by unfold BdN Bd; decide, by decide, rfl⟩
  · exact ⟨(0, -2, 0), by unfold BdN Bd; decide, by decide, rfl⟩
  · exact ⟨(0, 0, 3), by unfold BdN Bd; decide, by decide, rfl⟩
  · exact ⟨(1, 1, 0), by unfold BdN Bd; decide, by decide, rfl⟩
  · exact ⟨(0, 1, -1), by unfold BdN Bd; decide, by decide, rfl⟩
  · exact ⟨(-1, 0, 0), by unfold BdN Bd; decide, by decide, rfl⟩
theorem F_l_ray2_eq (ns : List Int) (hn : ns.length ≤ 63) (k : Nat) (hk : k < 1000) : ∃ s w, BdN 60 s ∧ BdN 3 w ∧ w ≠ (0, 0, 0) ∧ F_l_ray_2 [.frl (ns.map .int), .int k] = .ok (.va (rayD s w)) := by
  have c0 : F_l_cell [.frl (ns.map .int), .int 0] = .ok (.va (.int (cell ns 0))) := F_l_cell_eq ns hn 0 (by decide)
  generalize cell ns 0 = c at c0
  have c1 := F_l_cell_eq ns hn k hk
  generalize cell ns k = z at c1
  have hm := F_l_drawn_eq z k
  generalize drawn z k = m at hm
  have d1 : divD (.int m) (.int 729) = some (.int (m / 729)) := div_sm (by decide)
  have d2 : divD (.int m) (.int 531441) = some (.int (m / 531441)) := div_sm (by decide)
  have d3 : divD (.int m) (.int 1594323) = some (.int (m / 1594323)) := div_sm (by decide)
  have d4 : divD (.int m) (.int 9565938) = some (.int (m / 9565938)) := div_sm (by decide)
  have m3 : ∀ x : Int, modD (.int x) (.int 3) = some (.int (x % 3)) := fun x => mod_pos (by decide)
  have m6 : ∀ x : Int, modD (.int x) (.int 6) = some (.int (x % 6)) := fun x => mod_pos (by decide)
  have m4 : ∀ x : Int, modD (.int x) (.int 4) = some (.int (x % 4)) := fun x => mod_pos (by decide)
  obtain ⟨e, he⟩ : ∃ e, e = m / 9565938 % 4 := ⟨_, rfl⟩
  have he2 : 0 ≤ e ∧ e < 4 := by omega
  -- behind the way
  have rest : ∀ w : P3, BdN 3 w → ∃ s, BdN 60 s ∧ (seqS (stS 5 (bin modD (bin divD (gb 2) (kc (.int 9565938))) (kc (.int 4)))) (seqS (stS 3 (un tupD (lstF (lcF (rngF (kc (.int 3))) [6] (setN 6) yes (bin subD (bin ixD (gb 3) (gb 6)) (bin mulD (gb 5) (bin ixD (gb 4) (gb 6)))))))) (rtS (tupF (consF (callF 2 F_l_put (consF (gv 3) (consF (callF 2 F_l_cell (consF (gv 0) (consF (kc (.int 0)) nilF))) nilF))) (consF (gv 4) nilF)))))) [.d (.frl (ns.map .int)), .d (.int k), .d (.int m), .d (en (spotP m)), .d (en w), .u, .u] = .ok (.rt (rayD s w)) := fun w bw => by
    refine ⟨putP ((spotP m).1 - e * w.1, (spotP m).2.1 - e * w.2.1, (spotP m).2.2 - e * w.2.2) c, ?_, ?_⟩
    · have b := spot_bd m
      have one : ∀ {x y : Int}, Bd 3 x → Bd 3 y → Bd 6 (x - e * y) := fun {x y} h k => by
        have be : Bd 2 e := by unfold Bd; omega
        exact (h.mono (show 3 ≤ 5 by decide)).sub (be.mul k)
      exact (put_bd (n := 6) ⟨one b.1 bw.1, one b.2.1 bw.2.1, one b.2.2 bw.2.2⟩ c (by decide)).mono (by decide)
    · have b := spot_bd m
      have one : ∀ {x y : Int}, Bd 3 x → Bd 3 y → Bd 6 (x - e * y) := fun {x y} h k => by
        have be : Bd 2 e := by unfold Bd; omega
        exact (h.mono (show 3 ≤ 5 by decide)).sub (be.mul k)
      have hp := F_l_put_eq (n := 6) (p := ((spotP m).1 - e * w.1, (spotP m).2.1 - e * w.2.1, (spotP m).2.2 - e * w.2.2)) ⟨one b.1 bw.1, one b.2.1 bw.2.1, one b.2.2 bw.2.2⟩ (by decide) (by decide) c
      refine (s_st (d := .int e) (e_bin (e_bin (q_gb rfl) rfl d4) rfl (by rw [m4, he]))).trans ?_
      have mu : ∀ x : Int, mulD (.int e) (.int x) = some (.int (e * x)) := fun x => mul_left (by omega)
      have lc : lcF (rngF (kc (.int 3))) [6] (setN 6) yes (bin subD (bin ixD (gb 3) (gb 6)) (bin mulD (gb 5) (bin ixD (gb 4) (gb 6)))) [.d (.frl (ns.map .int)), .d (.int k), .d (.int m), .d (en (spotP m)), .d (en w), .d (.int e), .u] = .ok ((List.range 3).map fun j => Dt.int (co j (spotP m) - e * co j w)) := by
        refine lcF_rng (n := 3) rfl (by decide) fun j hj => ?_
        exact e_bin (e_bin rfl rfl (en_ix _ j hj)) (e_bin rfl (e_bin rfl rfl (en_ix _ j hj)) (mu _)) rfl
      refine (s_st (d := en ((spotP m).1 - e * w.1, (spotP m).2.1 - e * w.2.1, (spotP m).2.2 - e * w.2.2)) (e_un (e_lst lc) ?_)).trans ?_
      · rw [range3]; rfl
      · exact s_rt (e_tup (e_cons (c_1 (n := 2) (e_cons rfl (e_cons (c_1 (n := 2) (ds := [.frl (ns.map .int), .int 0]) rfl rfl c0 rfl) rfl)) rfl hp rfl) (e_cons rfl rfl)) (by show 2 ≤ 16777216; decide))
  have bh := spot_bd (m / 729)
  -- to the way
  have start : ∀ g : Sg, seqS (stS 2 (callF 2 F_l_drawn (consF (callF 2 F_l_cell (consF (gv 0) (consF (gv 1) nilF))) (consF (gv 1) nilF)))) (seqS (stS 3 (callF 1 F_l_spot (consF (gv 2) nilF))) (seqS (stS 4 (callF 1 F_l_spot (consF (bin divD (gb 2) (kc (.int 729))) nilF))) g)) [.d (.frl (ns.map .int)), .d (.int k), .u, .u, .u, .u, .u]
      = g [.d (.frl (ns.map .int)), .d (.int k), .d (.int m), .d (en (spotP m)), .d (en (spotP (m / 729))), .u, .u] := fun g => by
    refine (s_st (d := .int m) (c_1 (n := 2) (e_cons (c_1 (n := 2) rfl rfl c1 rfl) (e_cons rfl rfl)) rfl hm rfl)).trans ?_
    refine (s_st (d := en (spotP m)) (c_1 (n := 1) rfl rfl (F_l_spot_eq m) rfl)).trans ?_
    exact s_st (d := en (spotP (m / 729))) (c_1 (n := 1) (e_cons (e_bin rfl rfl d1) rfl) rfl (F_l_spot_eq _) rfl)
  have tstE : orT (tst (bin eqD (bin modD (bin divD (gb 2) (kc (.int 531441))) (kc (.int 3))) (kc (.int 0)))) (tst (bin eqD (gb 4) (tupF (consF (kc (.int 0)) (consF (kc (.int 0)) (consF (kc (.int 0)) nilF)))))) [.d (.frl (ns.map .int)), .d (.int k), .d (.int m), .d (en (spotP m)), .d (en (spotP (m / 729))), .u, .u] = .ok (decide (m / 531441 % 3 = 0) || decide (spotP (m / 729) = (0, 0, 0))) := by
    have t1 : tst (bin eqD (bin modD (bin divD (gb 2) (kc (.int 531441))) (kc (.int 3))) (kc (.int 0))) [.d (.frl (ns.map .int)), .d (.int k), .d (.int m), .d (en (spotP m)), .d (en (spotP (m / 729))), .u, .u] = .ok (decide (m / 531441 % 3 = 0)) := e_tst (e_bin (e_bin (e_bin (q_gb rfl) rfl d2) rfl (m3 _)) rfl (eqD_int _ _))
    have t2 : tst (bin eqD (gb 4) (tupF (consF (kc (.int 0)) (consF (kc (.int 0)) (consF (kc (.int 0)) nilF))))) [.d (.frl (ns.map .int)), .d (.int k), .d (.int m), .d (en (spotP m)), .d (en (spotP (m / 729))), .u, .u] = .ok (decide (spotP (m / 729) = (0, 0, 0))) := e_tst (e_bin (y := .tup [.int 0, .int 0, .int 0]) (q_gb rfl) (e_tup (e_cons rfl (e_cons rfl (e_cons rfl rfl))) (by show 3 ≤ 16777216; decide)) (eqz _))
    unfold orT
    rw [t1, Rz.bind_ok]
    cases decide (m / 531441 % 3 = 0) with
    | true => rfl
    | false => exact t2
  cases hq : (decide (m / 531441 % 3 = 0) || decide (spotP (m / 729) = (0, 0, 0))) with
  | true =>
    rw [hq] at tstE
    obtain ⟨w, bw, nw, hw⟩ := way6 (m / 1594323)
    obtain ⟨s, bs, hs⟩ := rest w bw
    refine ⟨s, w, bs, bw, nw, b_rt ?_⟩
    show g_l_ray_2 [.d (.frl (ns.map .int)), .d (.int k), .u, .u, .u, .u, .u] = _
    unfold g_l_ray_2
    refine (start _).trans ?_
    refine (s_ifT tstE).trans ?_
    have t3 : ∀ (ε : Ev) (f g h : Fn) (x y v : Int), f ε = .ok (.int x) → g ε = .ok (.int y) → h ε = .ok (.int v) → tupF (consF f (consF g (consF h nilF))) ε = .ok (.tup [.int x, .int y, .int v]) := fun ε f g h x y v h1 h2 h3 => e_tup (e_cons h1 (e_cons h2 (e_cons h3 rfl))) (by show 3 ≤ 16777216; decide)
    have ev : bin ixD (lstF (lsF (consF (tupF (consF (kc (.int 1)) (consF (kc (.int 0)) (consF (kc (.int 0)) nilF)))) (consF (tupF (consF (kc (.int 0)) (consF (bin subD (kc (.int 0)) (kc (.int 2))) (consF (kc (.int 0)) nilF)))) (consF (tupF (consF (kc (.int 0)) (consF (kc (.int 0)) (consF (kc (.int 3)) nilF)))) (consF (tupF (consF (kc (.int 1)) (consF (kc (.int 1)) (consF (kc (.int 0)) nilF)))) (consF (tupF (consF (kc (.int 0)) (consF (kc (.int 1)) (consF (bin subD (kc (.int 0)) (kc (.int 1))) nilF)))) (consF (tupF (consF (bin subD (kc (.int 0)) (kc (.int 1))) (consF (kc (.int 0)) (consF (kc (.int 0)) nilF)))) nilF)))))))) (bin modD (bin divD (gb 2) (kc (.int 1594323))) (kc (.int 6))) [.d (.frl (ns.map .int)), .d (.int k), .d (.int m), .d (en (spotP m)), .d (en (spotP (m / 729))), .u, .u] = .ok (en w) :=
      e_bin (e_lst (by
        unfold lsF
        rw [e_cons (t3 _ _ _ _ 1 0 0 rfl rfl rfl) (e_cons (t3 _ _ _ _ 0 (0 - 2) 0 rfl rfl rfl) (e_cons (t3 _ _ _ _ 0 0 3 rfl rfl rfl) (e_cons (t3 _ _ _ _ 1 1 0 rfl rfl rfl) (e_cons (t3 _ _ _ _ 0 1 (0 - 1) rfl rfl rfl) (e_cons (t3 _ _ _ _ (0 - 1) 0 0 rfl rfl rfl) rfl)))))]
        rfl)) (e_bin (e_bin (q_gb rfl) rfl d3) rfl (m6 _)) hw
    unfold stS
    rw [ev, q_exS, q_okB]
    exact hs
  | false =>
    rw [hq] at tstE
    have nz : spotP (m / 729) ≠ (0, 0, 0) := fun z => by rw [decide_eq_true z, Bool.or_true] at hq; cases hq
    obtain ⟨s, bs, hs⟩ := rest _ bh
    refine ⟨s, _, bs, bh, nz, b_rt ?_⟩
    show g_l_ray_2 [.d (.frl (ns.map .int)), .d (.int k), .u, .u, .u, .u, .u] = _
    unfold g_l_ray_2
    exact (start _).trans ((s_ifF tstE).trans hs)
end DL
end
section
set_option Elab.async false
set_option linter.all false
set_option maxRecDepth 100000
set_option maxHeartbeats 4000000
set_option autoImplicit false
namespace DL
variable [TbC]
open PySem
/-! ### small things about hits and shapes -/
theorem enS_okq (Ss : List Sh) : okqs 2 (Ss.map enS) = true := by
  induction Ss with
  | nil => rfl
  | cons a l ih =>
    have h1 : okq 1 (.str "box") = true := by decide +kernel
    have h2 : okq 1 (.str "triangle") = true := by decide +kernel
    rw [List.map_cons, okqs, ih]
    cases a with
    | bx a b =>
      show ((okq 1 (.str "box") && okqs 1 [en a, en b]) && true) = true
      rw [h1]; rfl
    | tr a b c =>
      show ((okq 1 (.str "triangle") && okqs 1 [en a, en b, en c]) && true) = true
      rw [h2]; rfl
theorem eqq_enS (S : Sh) : eqq (enS S) (enS S) = true := by
  unfold enS
  rw [eqq_tup, eqqs_cons, eqq_str]
  cases S with
  | bx a b =>
    show (_ && eqqs [en a, en b] [en a, en b]) = true
    rw [eqqs_cons, eqqs_cons, eqqs_nil, eqq_en, eqq_en]
    simp
  | tr a b c =>
    show (_ && eqqs [en a, en b, en c] [en a, en b, en c]) = true
    rw [eqqs_cons, eqqs_cons, eqqs_cons, eqqs_nil, eqq_en, eqq_en, eqq_en]
    simp
theorem eq_enSs (Ss : List Sh) : eqD (.lst (Ss.map enS)) (.lst (Ss.map enS)) = some (.bl true) := by
  rw [eqD_of (n := 3) (show okq 3 (.lst (Ss.map enS)) = true from enS_okq Ss) (show okq 3 (.lst (Ss.map enS)) = true from enS_okq Ss) (by decide), eqq_lst]
  have : eqqs (Ss.map enS) (Ss.map enS) = true := by
    induction Ss with
    | nil => rfl
    | cons a l ih => rw [List.map_cons, eqqs_cons, ih, eqq_enS]; rfl
  rw [this]
theorem isi_tup (xs : List Dt) : isiD "tuple" (.tup xs) = some (.bl true) := by
  have h : L2.kitB "tuple" "tuple" = some true := by decide +kernel
  show (L2.kitB "tuple" "tuple").map Dt.bl = _
  rw [h]; rfl
theorem isi_lst (xs : List Dt) : isiD "list" (.lst xs) = some (.bl true) := by
  have h : L2.kitB "list" "list" = some true := by decide +kernel
  show (L2.kitB "list" "list").map Dt.bl = _
  rw [h]; rfl
theorem e_methX {cn m : Str} {n : Nat} {G : Fd} {fo : Fn} {fs : Fs} {ε : Ev} {x : Dt} {c : Str} {ds : List Dt} (h1 : fo ε = .ok x) (hs : selfD cn m x = some x) (h2 : fs ε = .ok ds) (hn : (x :: ds).length = n) (h3 : G (x :: ds) = .ex c) : methF cn m n G fo fs ε = .ex c := by
  unfold methF
  rw [e_un h1 hs, Rz.bind_ok, h2, Rz.bind_ok, if_pos hn, h3]
  rfl
theorem e_methN {cn m : Str} {n : Nat} {G : Fd} {fo : Fn} {fs : Fs} {ε : Ev} {x : Dt} {ds xs : List Dt} (h1 : fo ε = .ok x) (hs : selfD cn m x = some x) (h2 : fs ε = .ok ds) (hn : (x :: ds).length = n) (h3 : G (x :: ds) = .ok (.ow xs)) : methN cn m n G fo fs ε = .ok xs := by
  unfold methN
  rw [e_un h1 hs, Rz.bind_ok, h2, Rz.bind_ok, if_pos hn, h3]
  rfl
theorem allD_true {α : Type} (l : List α) : allD (.lst (l.map fun _ => Dt.bl true)) = some (.bl true) := by
  have : asB (l.map fun _ => Dt.bl true) = some (l.map fun _ => true) := by
    induction l with
    | nil => rfl
    | cons a l ih => rw [List.map_cons, asB, ih]; rfl
  show (asB _).bind _ = _
  rw [this]
  show some (Dt.bl ((l.map fun _ => true).all id)) = _
  rw [show (l.map fun _ => true).all id = true from by simp]
theorem eqq_fr (x : Fr) : eqq (fr x) (fr x) = true := by
  show eqq (.tup [.int x.1, .int x.2]) (.tup [.int x.1, .int x.2]) = true
  rw [eqq_tup, eqqs_cons, eqqs_cons, eqqs_nil, eqq_int, eqq_int]
  simp
theorem eqq_hit (y : Fr × Int) : eqq (.tup [fr y.1, .int y.2]) (.tup [fr y.1, .int y.2]) = true := by
  rw [eqq_tup, eqqs_cons, eqqs_cons, eqqs_nil, eqq_int, eqq_fr]
  simp
end DL
end
section
set_option Elab.async false
set_option linter.all false
set_option maxRecDepth 100000
set_option maxHeartbeats 4000000
set_option autoImplicit false
namespace DL
variable [TbC]
open PySem
/-! ### the law -/
theorem F_l_row_eq (ns : List Int) (hn : ns.length ≤ 63) (k : Nat) (hk : k < 100) : ∃ r : List Int, F_l_row [.frl (ns.map .int), .int k] = .ok (.va (rowD r)) ∧ r.length ≤ 100 ∧ ∀ n ∈ r, -1 ≤ n := by
  have ck := F_l_cell_eq ns hn k (by omega)
  generalize cell ns k = c at ck
  have hd := F_l_drawn_eq c k
  have d201 : divD (.int (drawn c k)) (.int 201) = some (.int (drawn c k / 201)) := div_sm (by decide)
  have m5 : modD (.int (drawn c k / 201)) (.int 5) = some (.int (drawn c k / 201 % 5)) := mod_pos (by decide)
  obtain ⟨n, hn5⟩ : ∃ n : Nat, drawn c k / 201 % 5 = (n : Int) := ⟨(drawn c k / 201 % 5).toNat, by omega⟩
  have n5 : n < 5 := by omega
  rw [hn5] at m5
  refine ⟨(List.range n).map fun j => drawn c ((k : Int) + (j : Nat)) % 201 - 1, ?_, by rw [List.length_map, List.length_range]; omega, fun z hz => ?_⟩
  · unfold F_l_row
    refine b_rt ?_
    unfold g_l_row
    show seqS _ _ [.d (.frl (ns.map .int)), .d (.int k), .u, .u] = _
    refine (s_st (d := .int c) (c_1 (n := 2) (e_cons rfl (e_cons rfl rfl)) rfl ck rfl)).trans ?_
    show rtS _ [.d (.frl (ns.map .int)), .d (.int k), .d (.int c), .u] = _
    refine s_rt (e_lst ?_)
    rw [List.map_map]
    refine lcF_rng (n := n) (rngF_n (e_bin (e_bin (c_1 (n := 2) (e_cons rfl (e_cons rfl rfl)) rfl hd rfl) rfl d201) rfl m5) (by omega)) (by omega) fun j hj => ?_
    have m201 : modD (.int (drawn c ((k : Int) + (j : Nat)))) (.int 201) = some (.int (drawn c ((k : Int) + (j : Nat)) % 201)) := mod_pos (by decide)
    exact e_bin (e_bin (c_1 (n := 2) (ds := [.int c, .int ((k : Int) + (j : Nat))]) (e_cons rfl (e_cons (e_bin rfl rfl rfl) rfl)) rfl (F_l_drawn_eq _ _) rfl) rfl m201) rfl rfl
  · obtain ⟨j, _, rfl⟩ := List.mem_map.mp hz
    omega
theorem rows_eq (ns : List Int) (hn : ns.length ≤ 63) (n : Nat) (h : n ≤ 50) : ∃ rs : List (List Int), rs.length = n ∧ (∀ r ∈ rs, r.length ≤ 100 ∧ ∀ z ∈ r, -1 ≤ z) ∧ ∀ i : Nat, i < n → ∃ r, rs[i]? = some r ∧ F_l_row [.frl (ns.map .int), .int i] = .ok (.va (rowD r)) := by
  induction n with
  | zero => exact ⟨[], rfl, (fun _ z => nomatch z), fun i z => absurd z (by omega)⟩
  | succ n ih =>
    obtain ⟨rs, h1, h2, h3⟩ := ih (by omega)
    obtain ⟨r, hr, l1, l2⟩ := F_l_row_eq ns hn n (by omega)
    refine ⟨rs ++ [r], by rw [List.length_append, h1]; rfl, fun q hq => ?_, fun i hi => ?_⟩
    · rcases List.mem_append.mp hq with h | h
      · exact h2 q h
      · rw [List.mem_singleton.mp h]; exact ⟨l1, l2⟩
    · by_cases e : i < n
      · obtain ⟨q, hq, hq2⟩ := h3 i e
        exact ⟨q, by rw [List.getElem?_append_left (by omega)]; exact hq, hq2⟩
      · have : i = n := by omega
        subst this
        exact ⟨r, by rw [List.getElem?_append_right (by omega), h1, Nat.sub_self]; rfl, hr⟩
theorem law_true (ns : List Int) (hn : ns.length ≤ 63) : F_law_k20 [.frl (ns.map .int)] = .ok (.va (.bl true)) := by
  have c0 : F_l_cell [.frl (ns.map .int), .int 0] = .ok (.va (.int (cell ns 0))) := F_l_cell_eq ns hn 0 (by decide)
  have c1 : F_l_cell [.frl (ns.map .int), .int 1] = .ok (.va (.int (cell ns 1))) := F_l_cell_eq ns hn 1 (by decide)
  have hm : F_l_drawn [.int (cell ns 1), .int 43] = .ok (.va (.int (drawn (cell ns 1) 43))) := F_l_drawn_eq _ 43
  generalize drawn (cell ns 1) 43 = m at hm
  generalize cell ns 0 = z0 at c0
  generalize cell ns 1 = z1 at c1 hm
  have m9 : modD (.int m) (.int 9) = some (.int (m % 9)) := mod_pos (by decide)
  obtain ⟨n, hn9⟩ : ∃ n : Nat, m % 9 = (n : Int) := ⟨(m % 9).toNat, by omega⟩
  have n9 : n < 9 := by omega
  rw [hn9] at m9
  obtain ⟨Ss, lS, okS, hS⟩ := shapes_eq ns hn n (by omega)
  obtain ⟨rt, sc, mk⟩ := scene_make (n := 400) (Ss := Ss) (fun S h => (okS S h).mono (by decide)) (by omega)
  obtain ⟨s, w, bs, bw, nw, hr⟩ := F_l_ray2_eq ns hn 40 (by decide)
  obtain ⟨s2, w2, bs2, bw2, nw2, hr2⟩ := F_l_ray2_eq ns hn 42 (by decide)
  have d9 : divD (.int m) (.int 9) = some (.int (m / 9)) := div_sm (by decide)
  have fr := F_l_far_eq (spot_bd (m / 9)) z0
  have br := far_bd (spot_bd (m / 9)) z0
  have fs := F_l_spot_eq (m / 9)
  generalize spotP (m / 9) = sp at fr br fs
  have fd := F_l_far_eq bw2 z0
  have bd := far_bd bw2 z0
  generalize farP sp z0 = r at fr br
  generalize farP w2 z0 = d at fd bd
  have d6 : divD (.int m) (.int 6561) = some (.int (m / 6561)) := div_sm (by decide)
  have m6 : modD (.int (m / 6561)) (.int 5) = some (.int (m / 6561 % 5)) := mod_pos (by decide)
  obtain ⟨wd, hwd⟩ : ∃ n : Nat, m / 6561 % 5 = (n : Int) := ⟨(m / 6561 % 5).toNat, by omega⟩
  have wd5 : wd < 5 := by omega
  rw [hwd] at m6
  have d7 : divD (.int m) (.int 32805) = some (.int (m / 32805)) := div_sm (by decide)
  have m7 : modD (.int (m / 32805)) (.int 5) = some (.int (m / 32805 % 5)) := mod_pos (by decide)
  obtain ⟨hg, hhg⟩ : ∃ n : Nat, m / 32805 % 5 = (n : Int) := ⟨(m / 32805 % 5).toNat, by omega⟩
  have hg5 : hg < 5 := by omega
  rw [hhg] at m7
  have d8 : divD (.int m) (.int 164025) = some (.int (m / 164025)) := div_sm (by decide)
  have m8 : modD (.int (m / 164025)) (.int 5) = some (.int (m / 164025 % 5)) := mod_pos (by decide)
  obtain ⟨nr, hnr⟩ : ∃ n : Nat, m / 164025 % 5 = (n : Int) := ⟨(m / 164025 % 5).toNat, by omega⟩
  have nr5 : nr < 5 := by omega
  rw [hnr] at m8
  -- what is met first
  have fst : ∀ x y : Nat, ∃ h : Hit, x < 5 → y < 5 → F_Scene_first [enSc Ss rt, rayD (mvP (mvP s r x) d y) w] = .ok (.va (hitD h)) ∧ -1 ≤ num h := fun x y => by
    by_cases hx : x < 5
    · by_cases hy : y < 5
      · have b1 := mv_bd (n := 58) (x := (x : Int)) (bs.mono (by decide)) (br.mono (by decide)) (by omega) (by omega)
        have b2 := mv_bd (n := 59) (x := (y : Int)) b1 (bd.mono (by decide)) (by omega) (by omega)
        obtain ⟨h, e, B⟩ := F_first_eq (w := w) (rt := rt) ⟨b2.mono (by decide), bw.mono (by decide), nw⟩ sc
        refine ⟨h, fun _ _ => ⟨e, ?_⟩⟩
        cases h with
        | none => exact Int.le_refl _
        | some t =>
          have := B.1.1
          show -1 ≤ t.2
          omega
      · exact ⟨none, fun _ z => absurd z hy⟩
    · exact ⟨none, fun z => absurd z hx⟩
  obtain ⟨V, hV⟩ := Classical.axiomOfChoice fun x => Classical.axiomOfChoice (fst x)
  have hf : ∀ x y : Nat, x < 5 → y < 5 → F_Scene_first [enSc Ss rt, rayD (mvP (mvP s r x) d y) w] = .ok (.va (hitD (V x y))) := fun x y hx hy => (hV x y hx hy).1
  have seen := F_seen_eq (V := V) (wd := wd) (hg := hg) (by omega) (by omega) hf
  have sl : ∀ q ∈ seenR V wd hg, q.length ≤ 100 ∧ ∀ z ∈ q, -1 ≤ z := fun q hq => by
    obtain ⟨y, hy, rfl⟩ := List.mem_map.mp hq
    have hy := List.mem_range.mp hy
    refine ⟨by unfold seenL; rw [List.length_map, List.length_range]; omega, fun z hz => ?_⟩
    obtain ⟨x, hx, rfl⟩ := List.mem_map.mp hz
    have hx := List.mem_range.mp hx
    exact (hV x y (by omega) (by omega)).2
  have sll : (seenR V wd hg).length ≤ 100 := by unfold seenR; rw [List.length_map, List.length_range]; omega
  -- the law's own
  have due : ∀ E : Lc → Lc → Lc → Ev, (∀ a b c, E a b c = [.d (.frl (ns.map .int)), .d (.int z0), .d (.int m), .d (enSc Ss rt), .u, .d (en s), .d (en w), .d (en r), .d (en d), .d (frD s r d w), .d (.int wd), .d (.int hg), a, b, c, .u, .u, .u, .u]) →
      ∃ b c : Lc, dueB 12 14 13 (gb 11) (gb 11) (gb 10) (callF 4 F_l_seen (consF (gv 3) (consF (gv 9) (consF (gv 14) (consF (gv 13) nilF))))) (E .u .u .u) = .ok (.nx (E (.d (rowsD (seenR V wd hg))) b c)) := fun E hE => by
    have ct : ∀ (i : Nat) (n : Nat) (ε : Ev), gb i ε = .ok (.int (n : Int)) → n < 1000 → cnt (gb i) ε = some n := fun i n ε h hl => by
      unfold cnt
      rw [h]
      dsimp only
      rw [if_pos (by omega)]
      rfl
    have c1 : cnt (gb 11) (E .u .u .u) = some hg := by rw [hE]; exact ct _ _ _ (q_gb rfl) (by omega)
    have c2 : cnt (gb 11) ((E .u .u .u).set 12 .u) = some hg := by rw [hE]; exact ct _ _ _ (q_gb rfl) (by omega)
    obtain ⟨ε', ⟨b, c, he⟩, hY⟩ := dueY_ok (jx := 14) (jy := 13) (f3 := gb 10) (k := callF 4 F_l_seen (consF (gv 3) (consF (gv 9) (consF (gv 14) (consF (gv 13) nilF))))) (J := fun ε => ∃ b c : Lc, ε = E .u b c) (g := fun x y => .int (num (V x y))) (w := wd) hg 0 ((E .u .u .u).set 12 .u) [] (fun y ε hy ⟨b, c, e⟩ => by
      subst e
      rw [hE]
      refine ⟨ct _ _ _ (q_gb rfl) (by omega), ?_⟩
      obtain ⟨ε', ⟨c', he⟩, hX⟩ := dueX_ok (jx := 14) (jy := 13) (y := y) (k := callF 4 F_l_seen (consF (gv 3) (consF (gv 9) (consF (gv 14) (consF (gv 13) nilF))))) (I := fun ε => ∃ c : Lc, ε = E .u (.d (.int (y : Int))) c) (g := fun x => .int (num (V x y))) wd 0 (E .u (.d (.int (y : Int))) c) [] (fun x ε hx ⟨c, e⟩ => by
        subst e
        rw [hE]
        refine ⟨⟨.d (.int (x : Int)), by rw [hE]; rfl⟩, rfl, ?_⟩
        exact c_1 (n := 4) rfl rfl (F_l_seen_eq (by omega) (by omega) (hf x y (by omega) (by omega))) rfl) (by show 0 + wd < 16777216; omega) ⟨c, rfl⟩
      refine ⟨ε', ⟨_, _, he⟩, ?_⟩
      rw [hE] at hX
      simp only [Nat.zero_add, List.nil_append] at hX
      exact hX) ⟨.u, .u, by rw [hE]; rfl⟩
    refine ⟨b, c, ?_⟩
    simp only [Nat.zero_add, List.nil_append] at hY
    unfold dueB dueS
    rw [c1, c2]
    dsimp only
    rw [sizeLine_eq, if_pos ⟨rfl, by omega, by rw [hE]; show 12 < 19; decide⟩, hY]
    dsimp only
    rw [he, hE, hE]
    have er : ((List.range hg).map fun y => (List.range wd).map fun x => Dt.int (num (V x y))).map Dt.lst = (seenR V wd hg).map rowD := by
      unfold seenR seenL
      rw [List.map_map, List.map_map]
      refine List.map_congr_left fun y _ => ?_
      show Dt.lst _ = rowD _
      unfold rowD
      rw [List.map_map]
      rfl
    rw [er]
    rfl
  unfold F_law_k20
  refine b_rt ?_
  unfold g_law_k20
  show seqS _ _ [.d (.frl (ns.map .int)), .u, .u, .u, .u, .u, .u, .u, .u, .u, .u, .u, .u, .u, .u, .u, .u, .u, .u] = _
  refine (s_st (d := .int z0) (c_1 (n := 2) (ds := [.frl (ns.map .int), .int 0]) rfl rfl c0 rfl)).trans ?_
  refine (s_st (d := .int m) (c_1 (n := 2) (ds := [.int z1, .int 43]) (e_cons (c_1 (n := 2) (ds := [.frl (ns.map .int), .int 1]) rfl rfl c1 rfl) rfl) rfl hm rfl)).trans ?_
  have lcS : lcF (rngF (bin modD (gb 2) (kc (.int 9)))) [4] (setN 4) yes (callF 2 F_l_shape (consF (gv 0) (consF (gv 4) nilF))) [.d (.frl (ns.map .int)), .d (.int z0), .d (.int m), .u, .u, .u, .u, .u, .u, .u, .u, .u, .u, .u, .u, .u, .u, .u, .u] = .ok (Ss.map enS) :=
    shapes_lc (n := n) (rngF_n (e_bin (q_gb rfl) rfl m9) (by omega)) lS (by omega) hS fun k d hk => c_1 (n := 2) rfl rfl hk rfl
  refine (s_st (d := enSc Ss rt) (mk _ _ (e_cons (e_lst lcS) rfl))).trans ?_
  refine (s_as (d := rayD s w) (ε' := [.d (.frl (ns.map .int)), .d (.int z0), .d (.int m), .d (enSc Ss rt), .u, .d (en s), .d (en w), .u, .u, .u, .u, .u, .u, .u, .u, .u, .u, .u, .u]) (c_1 (n := 2) (ds := [.frl (ns.map .int), .int 40]) rfl rfl hr rfl) rfl).trans ?_
  refine (s_st (d := en r) (c_1 (n := 2) (ds := [en sp, .int z0]) (e_cons (c_1 (n := 1) (ds := [.int (m / 9)]) (e_cons (e_bin (q_gb rfl) rfl d9) rfl) rfl fs rfl) rfl) rfl fr rfl)).trans ?_
  refine (s_st (d := en d) (c_1 (n := 2) (ds := [en w2, .int z0]) (e_cons (e_bin (c_1 (n := 2) (ds := [.frl (ns.map .int), .int 42]) rfl rfl hr2 rfl) rfl rfl) rfl) rfl fd rfl)).trans ?_
  refine (s_st (d := frD s r d w) (e_tup (e_cons rfl (e_cons rfl (e_cons rfl (e_cons rfl rfl)))) (by show 4 ≤ 16777216; decide))).trans ?_
  refine (s_st (d := .int wd) (e_bin (e_bin (q_gb rfl) rfl d6) rfl m6)).trans ?_
  refine (s_st (d := .int hg) (e_bin (e_bin (q_gb rfl) rfl d7) rfl m7)).trans ?_
  obtain ⟨x13, x14, hdue⟩ := due (fun a b c => [.d (.frl (ns.map .int)), .d (.int z0), .d (.int m), .d (enSc Ss rt), .u, .d (en s), .d (en w), .d (en r), .d (en d), .d (frD s r d w), .d (.int wd), .d (.int hg), a, b, c, .u, .u, .u, .u]) fun _ _ _ => rfl
  show seqR (dueB 12 14 13 _ _ _ _ [.d (.frl (ns.map .int)), .d (.int z0), .d (.int m), .d (enSc Ss rt), .u, .d (en s), .d (en w), .d (en r), .d (en d), .d (frD s r d w), .d (.int wd), .d (.int hg), .u, .u, .u, .u, .u, .u, .u]) _ = _
  rw [hdue, q_okR]
  refine (s_st (d := rowsD (seenR V wd hg)) (c_1 (n := 4) rfl rfl seen rfl)).trans ?_
  obtain ⟨eS, nS⟩ := eq_rows (seenR V wd hg)
  have t15 : isiD "list" (rowsD (seenR V wd hg)) = some (.bl true) := isi_lst _
  have lcI : ∀ x16 x17 x18 : Lc, lcF (iterF (gb 15)) [16] (setN 16) yes (un (isiD "list") (gb 16)) [.d (.frl (ns.map .int)), .d (.int z0), .d (.int m), .d (enSc Ss rt), .u, .d (en s), .d (en w), .d (en r), .d (en d), .d (frD s r d w), .d (.int wd), .d (.int hg), .d (rowsD (seenR V wd hg)), x13, x14, .d (rowsD (seenR V wd hg)), x16, x17, x18] = .ok ((seenR V wd hg).map fun _ => .bl true) := fun _ _ _ =>
    lcF_map (l := seenR V wd hg) (en := rowD) (f := fun _ => .bl true) rfl (by omega) fun q _ => e_un rfl (isi_lst _)
  have tst1 : orT (tst (bin neD (gb 15) (gb 12))) (orT (notT (tst (un (isiD "list") (gb 15)))) (notT (tst (un allD (lstF (lcF (iterF (gb 15)) [16] (setN 16) yes (un (isiD "list") (gb 16)))))))) [.d (.frl (ns.map .int)), .d (.int z0), .d (.int m), .d (enSc Ss rt), .u, .d (en s), .d (en w), .d (en r), .d (en d), .d (frD s r d w), .d (.int wd), .d (.int hg), .d (rowsD (seenR V wd hg)), x13, x14, .d (rowsD (seenR V wd hg)), .u, .u, .u] = .ok false := by
    unfold orT notT
    rw [e_tst (e_bin (q_gb rfl) (q_gb rfl) nS), Rz.bind_ok, if_neg Bool.false_ne_true, e_tst (e_un (q_gb rfl) t15), Rz.bind_ok, Rz.bind_ok, Bool.not_true, if_neg Bool.false_ne_true, e_tst (e_un (e_lst (lcI _ _ _)) (allD_true _))]
    rfl
  refine (s_ifF tst1).trans ?_
  obtain ⟨rs, l1, l2, l3⟩ := rows_eq ns hn nr (by omega)
  have lcR : lcF (rngF (bin modD (bin divD (gb 2) (kc (.int 164025))) (kc (.int 5)))) [4] (setN 4) yes (callF 2 F_l_row (consF (gv 0) (consF (gv 4) nilF))) [.d (.frl (ns.map .int)), .d (.int z0), .d (.int m), .d (enSc Ss rt), .u, .d (en s), .d (en w), .d (en r), .d (en d), .d (frD s r d w), .d (.int wd), .d (.int hg), .d (rowsD (seenR V wd hg)), x13, x14, .d (rowsD (seenR V wd hg)), .u, .u, .u] = .ok (rs.map rowD) := by
    have a := lcF_rng (it := rngF (bin modD (bin divD (gb 2) (kc (.int 164025))) (kc (.int 5)))) (own := [4]) (i := 4) (elt := callF 2 F_l_row (consF (gv 0) (consF (gv 4) nilF))) (ε := [.d (.frl (ns.map .int)), .d (.int z0), .d (.int m), .d (enSc Ss rt), .u, .d (en s), .d (en w), .d (en r), .d (en d), .d (frD s r d w), .d (.int wd), .d (.int hg), .d (rowsD (seenR V wd hg)), x13, x14, .d (rowsD (seenR V wd hg)), .u, .u, .u]) (n := nr) (f := fun k => rowD (rs.getD k [])) (rngF_n (e_bin (e_bin (q_gb rfl) rfl d8) rfl m8) (by omega)) (by omega) fun k hk => by
      obtain ⟨q, hq, hF⟩ := l3 k hk
      rw [List.getD_eq_getElem?_getD, hq]
      exact c_1 (n := 2) rfl rfl hF rfl
    rw [a]
    refine congrArg Rz.ok (List.ext_getElem? fun k => ?_)
    by_cases hk : k < nr
    · obtain ⟨q, hq, _⟩ := l3 k hk
      rw [List.getElem?_map, List.getElem?_range hk, List.getElem?_map, hq]
      show some (rowD (rs.getD k [])) = _
      rw [List.getD_eq_getElem?_getD, hq]
      rfl
    · rw [List.getElem?_eq_none (by rw [List.length_map, List.length_range]; omega), List.getElem?_eq_none (by rw [List.length_map, l1]; omega)]
  refine (s_sto (ds := rs.map rowD) lcR).trans ?_
  refine (q_sh (xs := rs.map rowD) rfl).trans ?_
  have lcK : lcF (iterF (gb 17)) [16] (setN 16) yes (lstF (unN listD (gb 16))) [.d (.frl (ns.map .int)), .d (.int z0), .d (.int m), .d (enSc Ss rt), .u, .d (en s), .d (en w), .d (en r), .d (en d), .d (frD s r d w), .d (.int wd), .d (.int hg), .d (rowsD (seenR V wd hg)), x13, x14, .d (rowsD (seenR V wd hg)), .u, .d (rowsD rs), .u] = .ok (rs.map rowD) :=
    lcF_map (l := rs) (en := rowD) (f := rowD) rfl (by omega) fun q _ => e_lst (e_unN rfl rfl)
  refine (s_sto (ds := rs.map rowD) lcK).trans ?_
  refine (q_sh (xs := rs.map rowD) rfl).trans ?_
  have dr := F_drawn_eq rs (by omega) fun r hr => (l2 r hr).1
  have tx := F_l_text_eq rs (by omega) (fun r hr => (l2 r hr).1) fun r hr => (l2 r hr).2
  have dr2 := F_drawn_eq _ sll fun r hr => (sl r hr).1
  have tx2 := F_l_text_eq _ sll (fun r hr => (sl r hr).1) fun r hr => (sl r hr).2
  refine s_rt ?_
  show andV _ _ [.d (.frl (ns.map .int)), .d (.int z0), .d (.int m), .d (enSc Ss rt), .u, .d (en s), .d (en w), .d (en r), .d (en d), .d (frD s r d w), .d (.int wd), .d (.int hg), .d (rowsD (seenR V wd hg)), x13, x14, .d (rowsD (seenR V wd hg)), .u, .d (rowsD rs), .d (rowsD rs)] = _
  unfold andV
  rw [e_bin (c_1 (n := 1) rfl rfl dr rfl) (c_1 (n := 1) rfl rfl tx rfl) (eq_same (text_ok rs)), Rz.bind_ok]
  show (bin eqD (gb 17) (gb 18) _).bind _ = _
  rw [e_bin (q_gb rfl) (q_gb rfl) (eq_rows rs).1, Rz.bind_ok]
  exact e_bin (c_1 (n := 1) rfl rfl dr2 rfl) (c_1 (n := 1) rfl rfl tx2 rfl) (eq_same (text_ok _))
end DL
end
set_option maxHeartbeats 0
namespace Lw
open PySem PySem.Spec PyProof.Rows L2 DL
abbrev R : PySem.W.OpenRow := PySem.W.OpenLaw.row PySem.Challenge.rw_firsthit_k20_whole_views
abbrev hk : PySem.W.Hook := He.hookX 5 fa fn [] tf (exOf xs)
def ob (s : PySem.W.SharedT) : He.AlX := He.obsX 5 fa fn [] tf (exOf xs) (HandSHeadRun.getT s)
theorem ob_eq (s : PySem.W.SharedT) : ob s = hk.obs s.abs := He.obsX_eq (HandSHeadRun.getT_eq s)
theorem run (w : World) : HandSHeadRun.RunEq R (PySem.W.view R.prog [56]) hk ob 6000 ("_wall" :: "SIGNS" :: "moved" :: "seen" :: "drawn" :: "minus" :: "dot" :: "cross" :: "sign" :: "ratio" :: "is_less" :: "lesser" :: "turn" :: "box_around" :: "box_of_two" :: "times_in" :: "stay_in" :: "meets_box" :: "HitError" :: "NoRay" :: "NoShape" :: "ZERO" :: "along" :: "on_line" :: "meets_segment" :: "is_within" :: "meets_flat" :: "meets_triangle" :: "need_shape" :: "need_ray" :: "bounds" :: "meets" :: "FEW" :: "Branch" :: "widest" :: "grown" :: "Scene" :: "_law_cell" :: "_law_drawn" :: "_law_spot" :: "_law_put" :: "_law_plain" :: "_law_shape" :: "_law_ray" :: "_law_far" :: "_law_row" :: "_law_text" :: "_law_seen" :: []) w := by
  intro os
  kernel_rfl
theorem facts {w : World} {K : PySem.W.Frag} {h : Heap} {mg : Str → Option Value} {f : Addr} (X : K.In h) (G : h.Ns mainGlobals mg) (hfa : mg ("law" : Str) = some (.ref f)) (c : He.SaysX fa fn [] tf (exOf xs) w h K) :
    LamX.LawAtS PySem.Challenge.rw_firsthit_k20_whole_views w K CX0 14 63 "_law_script" mg f h := by
  obtain ⟨fd, F⟩ : ∃ fd, FunD K h_law.name h_law.qual h_law.params h_law.body h_law.scope (h_law.dvs K) (h_law.kws K) (He.fAd K h_law.at_) fd := c.t.d.def_ 44 (d := h_law) rfl
  have g : mg "law" = some (.ref (He.ga K "law")) := He.glo_ok X G (c.t.d.fact 73)
  have e := hfa.symm.trans g
  cases e
  have b := FunD.bindsA (ps := ["_law_script"]) F fun _ _ _ _ _ _ us hl => match us, hl with | [_], _ => rfl
  refine law_at (ts := ts) rfl X c (fun s v => b s [v] rfl) fun base _ _ tb => ?_
  letI : TbC := ⟨tabsOf K ts, w⟩
  exact law_ok (law_df (tx_of X G c.more c.t.d tb) F) law_true
end Lw
open PySem PySem.W PySem.Calls PyProof.Rows
theorem PySem.Challenge.cw_firsthit_k20_whole_views_holds : PySem.Challenge.rw_firsthit_k20_whole_views.Holds := by
  w_on; o_law
  refine HandSHeadRun.head_any (r := OpenLaw.row PySem.Challenge.rw_firsthit_k20_whole_views) (q := view (OpenLaw.row PySem.Challenge.rw_firsthit_k20_whole_views).prog [56]) (H := Lw.hk) (ob := Lw.ob) (M := 6000) (loose := ("_wall" :: "SIGNS" :: "moved" :: "seen" :: "drawn" :: "minus" :: "dot" :: "cross" :: "sign" :: "ratio" :: "is_less" :: "lesser" :: "turn" :: "box_around" :: "box_of_two" :: "times_in" :: "stay_in" :: "meets_box" :: "HitError" :: "NoRay" :: "NoShape" :: "ZERO" :: "along" :: "on_line" :: "meets_segment" :: "is_within" :: "meets_flat" :: "meets_triangle" :: "need_shape" :: "need_ray" :: "bounds" :: "meets" :: "FEW" :: "Branch" :: "widest" :: "grown" :: "Scene" :: "_law_cell" :: "_law_drawn" :: "_law_spot" :: "_law_put" :: "_law_plain" :: "_law_shape" :: "_law_ray" :: "_law_far" :: "_law_row" :: "_law_text" :: "_law_seen" :: [])) (d := HandSHeadRun.topDef (OpenLaw.row PySem.Challenge.rw_firsthit_k20_whole_views).prog 56) (kwd := []) Lw.ob_eq
    (by kernel_rfl) (fun s => by kernel_rfl) Lw.run (by kernel_rfl) (by kernel_rfl) (by kernel_rfl) (by rfl) (by first | assumption | decide +kernel) (by decide +kernel) ⟨rfl, rfl, rfl, rfl, rfl, by decide +kernel⟩ ?hw ?hc
  case hw => w_witness2
  case hc =>
    refine LamX.walk_ofTsE (l := PySem.Challenge.rw_firsthit_k20_whole_views) (n := 63) (k := 14) (x := "_law_script") (CX := fun _ => L2.CX0) rfl (by decide) (by kernel_rfl) ⟨rfl, by decide, by decide⟩ ?F (fun _ _ _ _ _ z => z)
    intro w mg fa h Y G hmg0
    obtain ⟨K, KX, c⟩ := Y
    have hmg : mg ("law" : PySem.Str) = some (.ref fa) := by
      have e : (HandSHeadRun.topDef (OpenLaw.row PySem.Challenge.rw_firsthit_k20_whole_views).prog 56).name = ("law" : PySem.Str) := by kernel_rfl
      rw [← e]
      exact hmg0
    exact ⟨K, KX, Lw.facts KX G hmg c⟩
