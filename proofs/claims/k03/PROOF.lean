import PyProof.Rows.All
import Wide.All
import OpenK.AllK
import Wide.FinOn
import HandS.ForMost
import HandS.IsInst
import HandS.Wide
import HandS.TupAny
import HandS.Walk
import HandS.Evl
import HandS.Text
import HandS.RaiseMore
import KE.KIntText
import PyProof.Rows.StrIntSpec
import HandS.Exc
import HandS.ExcOwn
import HandS.WordsExc
import HandS.More
import HandS.Dict
import HandS.HeadHook3
import HandS.TryOnly
import HandS.ExcIs
import KE.KStateDown
import HandS.Defaults
import HandS.Head0
import HandS.Head1
import HandS.Head2
import HandS.HeadEnd
import HandS.HeadHook1
import HandS.HeadHook2
import HandS.HeadHook4
import PySem.Challenge.RW_leaps_k03_looked_through
set_option Elab.async false
set_option linter.all false
set_option maxRecDepth 100000
set_option maxHeartbeats 4000000
set_option maxHeartbeats 8000000
/-! Lb: what every leaps law leans on: callees by name, the growing heap, data at values. -/
namespace Lp
open PySem PySem.Spec PyProof.Rows L2

/-! ### callees -/
/-- a def of the module, by its name, with its promise -/
def Cal (P : Program) (w : World) (K : PySem.W.Frag) (mg : Str → Option Value) (base : Heap) (k : Nat) (x : Str) (ps : List Str) (sp : Sp) : Prop :=
  ∃ f fd, FnOk P w K mg base CX0 k f fd ps sp ∧ Binds K fd ps [] ∧ PySem.W.keepIn K (.ref f) = true ∧ mg x = some (.ref f)
/-- a method of the class at C -/
def CalM (P : Program) (w : World) (K : PySem.W.Frag) (mg : Str → Option Value) (base : Heap) (k : Nat) (C : Addr) (m : Str) (ps : List Str) (sp : Sp) : Prop :=
  ∃ f fd, FnOk P w K mg base CX0 k f fd ps sp ∧ Binds K fd ps [] ∧ Cls K C ∧ Meth K C m f
/-- a class of the module that is made by its own __init__ -/
def CalC (P : Program) (w : World) (K : PySem.W.Frag) (mg : Str → Option Value) (base : Heap) (k : Nat) (x : Str) (C : Addr) (ps : List Str) (sp : Sp) : Prop :=
  ∃ f fd, FnOk P w K mg base CX0 k f fd ps sp ∧ Binds K fd ps [] ∧ Mk K C f ∧ mg x = some (.ref C)
section
variable {P : Program} {w : World} {K : PySem.W.Frag} {mg : Str → Option Value} {base : Heap} {j k : Nat} {x m : Str} {C : Addr} {ps : List Str} {sp sp' : Sp}
theorem Cal.mono (c : Cal P w K mg base j x ps sp) (h : j ≤ k) : Cal P w K mg base k x ps sp :=
  let ⟨f, fd, F, r⟩ := c; ⟨f, fd, F.mono h, r⟩
theorem Cal.imp (c : Cal P w K mg base j x ps sp) (h : ∀ vs H Q E, sp' vs H Q E → sp vs H Q E) : Cal P w K mg base j x ps sp' :=
  let ⟨f, fd, F, r⟩ := c; ⟨f, fd, F.imp h, r⟩
theorem CalM.mono (c : CalM P w K mg base j C m ps sp) (h : j ≤ k) : CalM P w K mg base k C m ps sp :=
  let ⟨f, fd, F, r⟩ := c; ⟨f, fd, F.mono h, r⟩
theorem CalM.imp (c : CalM P w K mg base j C m ps sp) (h : ∀ vs H Q E, sp' vs H Q E → sp vs H Q E) : CalM P w K mg base j C m ps sp' :=
  let ⟨f, fd, F, r⟩ := c; ⟨f, fd, F.imp h, r⟩
theorem CalC.mono (c : CalC P w K mg base j x C ps sp) (h : j ≤ k) : CalC P w K mg base k x C ps sp :=
  let ⟨f, fd, F, r⟩ := c; ⟨f, fd, F.mono h, r⟩
end
section
variable {X : Cx} {k : Nat} {C : Addr} {x m : Str} {ps : List Str} {sp : Sp} {p pos apos : Pos} {e o : Expr} {es : List Expr} {ta : TE} {t : TA}
theorem pc (c : Cal X.prog X.w X.K X.mg X.base k x ps sp) (hr : Room k X.A) (ha : PA X (e :: es) t) (hg : Gl X x := by rfl) (hdb : (x == ("__debug__" : Str)) = false := by decide)
    (he : starEach (e :: es) X.env = (false, eval e X.env) :: starEach es X.env := by rfl) (hpl : (backTo pos (starEach es X.env)).any (·.1) = false := by rfl) : PE X (.Call (.Name x p) (e :: es) [] pos) (tCall sp [] E0 t) := by
  obtain ⟨f, fd, F, b, kp, hm⟩ := c
  exact pe_call F hr hg hm kp b .nil pass0 ha hdb he hpl
theorem pc0 (c : Cal X.prog X.w X.K X.mg X.base k x ps sp) (hr : Room k X.A) (hg : Gl X x := by rfl) (hdb : (x == ("__debug__" : Str)) = false := by decide) : PE X (.Call (.Name x p) [] [] pos) (tCall sp [] E0 tNil) := by
  obtain ⟨f, fd, F, b, kp, hm⟩ := c
  exact pe_call0 F hr hg hm kp b .nil pass0 hdb
theorem pm {pl : Sem Bool} (c : CalM X.prog X.w X.K X.mg X.base k C m ps sp) (hr : Room k X.A) (he : PE X o ta) (ha : PA X (e :: es) t)
    (hst : starEach (e :: es) X.env = (false, eval e X.env) :: starEach es X.env := by rfl) (hpl : (backTo pos (starEach es X.env)).any (·.1) = false := by rfl)
    (ht : eval (.Call (.Attribute o m apos) (e :: es) [] pos) X.env = (do
      let ov ← eval o X.env
      standAt apos.atName
      let (f, first) ← holding [ov] (getMethod ov m pl)
      callWith pos f first (backTo pos (starEach (e :: es) X.env)) (backToKw pos (keywordEach [] X.env))) := by rfl) :
    PE X (.Call (.Attribute o m apos) (e :: es) [] pos) (tMeth C m sp [] E0 ta t) := by
  obtain ⟨f, fd, F, b, cl, hm⟩ := c
  exact pe_meth he cl hm F hr b .nil pass0 ha hst hpl ht
theorem pm0 {pl : Sem Bool} (c : CalM X.prog X.w X.K X.mg X.base k C m ps sp) (hr : Room k X.A) (he : PE X o ta)
    (ht : eval (.Call (.Attribute o m apos) [] [] pos) X.env = (do
      let ov ← eval o X.env
      standAt apos.atName
      let (f, first) ← holding [ov] (getMethod ov m pl)
      callWith pos f first (backTo pos (starEach [] X.env)) (backToKw pos (keywordEach [] X.env))) := by rfl) :
    PE X (.Call (.Attribute o m apos) [] [] pos) (tMeth C m sp [] E0 ta tNil) := by
  obtain ⟨f, fd, F, b, cl, hm⟩ := c
  exact pe_meth0 he cl hm F hr b .nil pass0 ht
theorem pk (c : CalC X.prog X.w X.K X.mg X.base k x C ps sp) (hr : Room (k + 1) X.A) (ha : PA X (e :: es) t) (hg : Gl X x := by rfl) (hdb : (x == ("__debug__" : Str)) = false := by decide)
    (he : starEach (e :: es) X.env = (false, eval e X.env) :: starEach es X.env := by rfl) (hpl : (backTo pos (starEach es X.env)).any (·.1) = false := by rfl) : PE X (.Call (.Name x p) (e :: es) [] pos) (tMake C sp [] E0 t) := by
  obtain ⟨f, fd, F, b, M, hm⟩ := c
  exact pe_make M F hr hg hm b .nil pass0 ha hdb he hpl
theorem pk0 (c : CalC X.prog X.w X.K X.mg X.base k x C ps sp) (hr : Room (k + 1) X.A) (hg : Gl X x := by rfl) (hdb : (x == ("__debug__" : Str)) = false := by decide) : PE X (.Call (.Name x p) [] [] pos) (tMake C sp [] E0 tNil) := by
  obtain ⟨f, fd, F, b, M, hm⟩ := c
  exact pe_make0 M F hr hg hm b .nil pass0 hdb
end

/-! ### short names of readings -/
abbrev rAdI : R2 := rI0 fun i j => .int (i + j)
abbrev rSbI : R2 := rI0 fun i j => .int (i - j)
abbrev rMlI : R2 := rI CMul fun i j => .int (i * j)
abbrev rDvW : R2 := rI CDivW fun i j => .int (i / j)
abbrev rMdI : R2 := rI (fun _ j => 0 < j) fun i j => .int (i % j)
abbrev rLt : R2 := rI0 fun i j => .bl (decide (i < j))
abbrev rLe : R2 := rI0 fun i j => .bl (decide (i ≤ j))
abbrev rGt : R2 := rI0 fun i j => .bl (decide (j < i))
abbrev rGe : R2 := rI0 fun i j => .bl (decide (j ≤ i))
abbrev rIsN : R2 := fun x y H Q => y = .non ∧ Q (.bl (decide (x = .non))) H
abbrev rNtN : R2 := fun x y H Q => y = .non ∧ Q (.bl (!decide (x = .non))) H
abbrev rNeg : V → Hp → VK → Prop := rU fun i => .int (-i)
abbrev rCatS : R2 := fun x y H Q => ∃ i j, x = .str i ∧ y = .str j ∧ i.length + j.length ≤ sizeLine ∧ Q (.str (i ++ j)) H
abbrev rInt1 : List V → Hp → VK → Prop := fun xs H Q => (∃ i, xs = [.int i] ∧ Q (.int i) H) ∨ ∃ k, xs = [.bl k] ∧ Q (.int (if k then 1 else 0)) H
abbrev rLenQ (K : PySem.W.Frag) : List V → Hp → VK → Prop := fun xs H Q => ∃ p ys, xs = [.ref p] ∧ (SqL K H p ys ∨ SqT K H p ys) ∧ Q (.int ys.length) H
abbrev rTupOf (K : PySem.W.Frag) : List V → Hp → VK → Prop := fun xs H Q => ∃ p ys, xs = [.ref p] ∧ ((SqL K H p ys ∧ ∀ l, H l = none → Q (.ref l) (upd H l (.tup ys))) ∨ (SqT K H p ys ∧ Q (.ref p) H))
abbrev rLstOf (K : PySem.W.Frag) : List V → Hp → VK → Prop := fun xs H Q => ∃ p ys, xs = [.ref p] ∧ (SqL K H p ys ∨ SqT K H p ys) ∧ ∀ l, H l = none → Q (.ref l) (upd H l (.lst ys))

/-! ### the heap grows: all but the objects in B stands as it stood -/
def Kp (B : Addr → Prop) (H H' : Hp) : Prop := ∀ a o, H a = some o → ¬ B a → H' a = some o
theorem Kp.refl (B : Addr → Prop) (H : Hp) : Kp B H H := fun _ _ h _ => h
theorem Kp.trans {B : Addr → Prop} {H H1 H2 : Hp} (a : Kp B H H1) (b : Kp B H1 H2) : Kp B H H2 := fun x o h n => b x o (a x o h n) n
theorem Kp.mono {B B' : Addr → Prop} {H H' : Hp} (a : Kp B H H') (h : ∀ x, B x → B' x) : Kp B' H H' := fun x o e n => a x o e fun z => n (h x z)
theorem Kp.same {B : Addr → Prop} {H H' : Hp} (a : Same H H') : Kp B H H' := fun x o e _ => a x o e
theorem Kp.new {B : Addr → Prop} {H : Hp} {p : Addr} {o : HO} (h : H p = none) : Kp B H (upd H p o) := fun x u e _ => by rw [upd_ne (ne_of_none e h)]; exact e
theorem Kp.upd {B : Addr → Prop} {H : Hp} {p : Addr} {o : HO} (h : B p) : Kp B H (upd H p o) := fun x u e n => by
  rw [upd_ne (fun z => n (by rw [z]; exact h))]; exact e
/-- behind a change of what was not there at the start -/
theorem Kp.late {B : Addr → Prop} {H H1 : Hp} {p : Addr} {o : HO} (a : Kp B H H1) (h : H p = none) : Kp B H (L2.upd H1 p o) := fun x u e n => by
  rw [upd_ne (ne_of_none e h)]; exact a x u e n
theorem Kp.at {B : Addr → Prop} {H H' : Hp} {a : Addr} {o : HO} (k : Kp B H H') (h : H a = some o) (n : ¬ B a) : H' a = some o := k a o h n
/-- a place that is free behind was free ahead (unless in B) -/
theorem Kp.free {B : Addr → Prop} {H H' : Hp} (k : Kp B H H') {l : Addr} (h : H' l = none) (n : ¬ B l) : H l = none := by
  cases q : H l with
  | none => rfl
  | some o => rw [k l o q n] at h; cases h
/-- only what may change stands in B -/
def NoTup (B : Addr → Prop) (H : Hp) : Prop := ∀ a, B a → ∃ o, H a = some o ∧ (∀ xs, o ≠ .tup xs) ∧ ∀ ob u, o ≠ .frz ob u
theorem Kp.sqT {B : Addr → Prop} {K : PySem.W.Frag} {H H' : Hp} {a : Addr} {xs : List V} (k : Kp B H H') (nt : NoTup B H) (h : SqT K H a xs) : SqT K H' a xs := by
  rcases h with (h | ⟨o, h⟩) | h
  · refine .inl (.inl (k _ _ h fun z => ?_))
    obtain ⟨u, e, n, _⟩ := nt a z
    rw [h] at e; cases e; exact n _ rfl
  · refine .inl (.inr ⟨o, k _ _ h fun z => ?_⟩)
    obtain ⟨u, e, _, n⟩ := nt a z
    rw [h] at e; cases e; exact n _ _ rfl
  · exact .inr h
theorem Kp.sqL {B : Addr → Prop} {K : PySem.W.Frag} {H H' : Hp} {a : Addr} {xs : List V} (k : Kp B H H') (n : ¬ B a) (h : SqL K H a xs) : SqL K H' a xs := by
  rcases h with (h | ⟨o, h⟩) | h
  · exact .inl (.inl (k _ _ h n))
  · exact .inl (.inr ⟨o, k _ _ h n⟩)
  · exact .inr h

/-! ### decided tests -/
theorem ifT {A B : Prop} {c : Bool} (e : c = true) (h : A) : if c = true then A else B := by rw [if_pos e]; exact h
theorem ifF {A B : Prop} {c : Bool} (e : c = false) (h : B) : if c = true then A else B := by rw [if_neg (by rw [e]; decide)]; exact h
theorem ifB {A B : Prop} {c : Bool} (h1 : c = true → A) (h2 : c = false → B) : if c = true then A else B := by
  cases e : c with
  | true => exact ifT rfl (h1 e)
  | false => exact ifF rfl (h2 e)
theorem dT {p : Prop} [Decidable p] (h : p) : decide p = true := decide_eq_true h
theorem dF {p : Prop} [Decidable p] (h : ¬ p) : decide p = false := decide_eq_false h
end Lp

/-! L1: take, kinds, above, under. -/
namespace Lp
open PySem PySem.Spec PyProof.Rows L2
def t_law_take (K : PySem.W.Frag) : TS :=
  tSeq (tIfS (tTest (tOp (rEqD K) (tVar 0) (tLst (tNil)))) (tRet (tC (.int 0))) (tNext)) (tSeq (tAsg (tOp (rIxL K) (tVar 0) (tC (.int 0))) (gName 2)) (tSeq (tAsg (tOp rDvW (tVar 2) (tVar 1)) (gSub (tVar 0) (tC (.int 0)) rSetL)) (tSeq (tIfS (tOr (tTest (tOp rEq (tOp (rIxL K) (tVar 0) (tC (.int 0))) (tC (.int 0)))) (tTest (tOp rEq (tOp (rIxL K) (tVar 0) (tC (.int 0))) (tUn rNeg (tC (.int 1)))))) (tDrop (tBM K "list" rPopAt (tVar 0) (tCons (tC (.int 0)) (tNil)))) (tNext)) (tRet (tOp rMdI (tVar 2) (tVar 1))))))

def t_law_kinds (K : PySem.W.Frag) (sp_law_take : Sp) : TS :=
  tSeq (tAsg (tLst (tNil)) (gName 2)) (tSeq (tFor (iRng1 (tCons (tOp rAdI (tC (.int 1)) (tCall sp_law_take [] E0 (tCons (tVar 0) (tCons (tVar 1) (tNil))))) (tNil))) (gName 3) (tSeq (tAsg (tCall sp_law_take [] E0 (tCons (tVar 0) (tCons (tOp rAdI (tVar 3) (tC (.int 1))) (tNil)))) (gName 4)) (tDrop (tBM K "list" rAppend (tVar 2) (tCons (tOp (rIxL K) (tLst (tCons (tC .non) (tCons (tOp rSbI (tVar 4) (tC (.int 1))) (tNil)))) (tCB rInt1 (tCons (tOp rGt (tVar 4) (tC (.int 0))) (tNil)))) (tNil)))))) (tRet (tCB (rTupOf K) (tCons (tVar 2) (tNil)))))

def t_law_above (K : PySem.W.Frag) : TS :=
  tSeq (tAsg (tLst (tCons (tVar 1) (tNil))) (gName 2)) (tSeq (tFor (iRng1 (tCons (tCB (rLenQ K) (tCons (tVar 0) (tNil))) (tNil))) (gName 3) (tSeq (tAsg (tOp (rIxT K) (tVar 0) (tOp (rIxL K) (tVar 2) (tUn rNeg (tC (.int 1))))) (gName 4)) (tIfS (tTest (tOp rNtN (tVar 4) (tC .non))) (tDrop (tBM K "list" rAppend (tVar 2) (tCons (tVar 4) (tNil)))) (tNext)))) (tRet (tVar 2)))

def t_under (K : PySem.W.Frag) : TS :=
  tSeq (tWhile (tAnd (tTest (tOp rNtN (tVar 1) (tC .non))) (tTest (tOp rNe (tVar 1) (tVar 2)))) (tAsg (tOp (rIxT K) (tVar 0) (tVar 1)) (gName 1))) (tRet (tOp rNtN (tVar 1) (tC .non)))

theorem sz_lt1 {n : Nat} (h : n < 1000000) : n < sizeLine := Nat.lt_of_lt_of_le h (by decide)
theorem sz_le1 {n : Nat} (h : n ≤ 1000000) : n ≤ sizeLine := Nat.le_trans h (by decide)
abbrev N_law_take : List Str := ["_law_box", "_law_many", "_law_number"]

theorem dp_ints {K : PySem.W.Frag} {H : Hp} : ∀ l : List Int, DpAll K H (l.map V.int) (l.map PyData.int)
  | [] => .nil
  | i :: r => .cons (.int i) (dp_ints r)
theorem lay_ints : ∀ l : List Int, PyData.canLayAll0 (l.map PyData.int) = true
  | [] => rfl
  | i :: r => by simp [PyData.canLayAll0, PyData.canLay0, lay_ints r]
theorem dep_ints : ∀ l : List Int, PyData.depthAll (l.map PyData.int) ≤ 1
  | [] => by simp [PyData.depthAll]
  | i :: r => by have := dep_ints r; simp [PyData.depthAll, PyData.depth]; omega
theorem shaped_ints (l : List Int) : SeqAt.shaped (.list (l.map PyData.int)) = true := by
  have := dep_ints l
  simp [SeqAt.shaped, PyData.canLay0, lay_ints, PyData.depth]
  omega
theorem eqv_ints_nil (l : List Int) : PyData.eqv (.list (l.map PyData.int)) (.list []) = l.isEmpty := by
  cases l <;> simp [PyData.eqv, PyData.eqvAll]

theorem ixN_n {n j : Nat} (hj : j < n) : ixN n (j : Int) = some j := by
  unfold ixN
  rw [if_pos (by omega), if_pos (by omega)]
  simp
theorem seq0 {n : Nat} : seqIndex? 0 (n + 1) = some 0 := by
  unfold seqIndex?
  simp
/-- the box: a list of ints at b -/
def spTake : Sp := fun vs H Q _ => ∃ (b : Addr) (l : List Int) (m : Int), vs = [.ref b, .int m] ∧ H b = some (.lst (l.map V.int)) ∧ 0 < m ∧ m ≤ 2000000 ∧
  ∀ (r : Int) (l' : List Int) (H' : Hp), 0 ≤ r → r < m → H' b = some (.lst (l'.map V.int)) → Kp (fun x => x = b) H H' → Q (.int r) H'

theorem rd_take {K : PySem.W.Frag} (vs : List V) (H : Hp) (Q : VK) (E : XK) (h : spTake vs H Q E) : t_law_take K { nx := fun _ H' => Q .non H', rt := Q } (start N_law_take vs) H := by
  obtain ⟨b, l, m, rfl, hb, hm, hm2, k⟩ := h
  refine ⟨_, rfl, (by show (0 : Nat) ≤ sizeLine; decide), fun p hp => ?_⟩
  have hb1 : L2.upd H p (.lst []) b = some (.lst (l.map V.int)) := by rw [upd_ne (ne_of_none hb hp)]; exact hb
  refine ⟨_, _, .lst (SqL.of hb1) (dp_ints l), .lst (SqL.of upd_same) .nil, shaped_ints l, rfl, _, rfl, ?_⟩
  rw [eqv_ints_nil]
  refine ifB (fun e => ?_) (fun e => ?_)
  · exact k 0 l _ (by omega) hm hb1 (Kp.new hp)
  · cases l with
    | nil => cases e
    | cons x r =>
      refine ⟨_, rfl, b, _, 0, .int x, rfl, rfl, SqL.of hb1, atI_nat (j := 0) rfl, ?_⟩
      refine ⟨_, rfl, _, rfl, x, m, rfl, rfl, wide_div (b := 30) hm (by omega) (by decide) (by decide), ?_⟩
      refine ⟨_, rfl, b, _, 0, 0, rfl, rfl, hb1, ixN_n (j := 0) (Nat.succ_pos _), ?_⟩
      have hb2 : L2.upd (L2.upd H p (.lst [])) b (.lst ((V.int (x / m)) :: r.map V.int)) b = some (.lst ((V.int (x / m)) :: r.map V.int)) := upd_same
      have kp : Kp (fun y => y = b) H (L2.upd (L2.upd H p (.lst [])) b (.lst ((V.int (x / m)) :: r.map V.int))) := (Kp.new hp).trans (Kp.upd rfl)
      have fin : ∀ H', ((∃ l' : List Int, H' b = some (.lst (l'.map V.int))) ∧ Kp (fun y => y = b) H H') → (tRet (tOp rMdI (tVar 2) (tVar 1))) { nx := fun _ H' => Q .non H', rt := Q } [some (.ref b), some (.int m), some (.int x)] H' := by
        intro H' ⟨⟨l', e⟩, kp'⟩
        exact ⟨_, rfl, _, rfl, x, m, rfl, rfl, hm, k _ l' H' (Int.emod_nonneg _ (by omega)) (Int.emod_lt_of_pos _ hm) e kp'⟩
      have pop : (tSeq (tDrop (tBM K "list" rPopAt (tVar 0) (tCons (tC (.int 0)) tNil))) (tRet (tOp rMdI (tVar 2) (tVar 1)))) { nx := fun _ H' => Q .non H', rt := Q } [some (.ref b), some (.int m), some (.int x)] (L2.upd (L2.upd H p (.lst [])) b (.lst ((V.int (x / m)) :: r.map V.int))) := by
        refine ⟨_, rfl, .inl ⟨rfl, _, SqL.of hb2⟩, b, _, 0, 0, _, rfl, rfl, hb2, by decide, by decide, seq0, rfl, ?_⟩
        exact fin _ ⟨⟨r, upd_same⟩, kp.trans (Kp.upd rfl)⟩
      have go : (tRet (tOp rMdI (tVar 2) (tVar 1))) { nx := fun _ H' => Q .non H', rt := Q } [some (.ref b), some (.int m), some (.int x)] (L2.upd (L2.upd H p (.lst [])) b (.lst ((V.int (x / m)) :: r.map V.int))) := fin _ ⟨⟨(x / m) :: r, hb2⟩, kp⟩
      refine ⟨_, rfl, b, _, 0, _, rfl, rfl, SqL.of hb2, atI_nat (j := 0) rfl, rfl, _, rfl, ifB (fun _ => pop) fun _ => ?_⟩
      refine ⟨_, rfl, b, _, 0, _, rfl, rfl, SqL.of hb2, atI_nat (j := 0) rfl, _, rfl, rfl, _, rfl, ifB (fun _ => pop) fun _ => go⟩

/-! ### heaps that grow alone -/
theorem _root_.L2.Same.sqT {K : PySem.W.Frag} {H H' : Hp} {a : Addr} {xs : List V} (e : Same H H') (h : SqT K H a xs) : SqT K H' a xs := by
  rcases h with (h | ⟨o, h⟩) | h
  · exact .inl (.inl (e _ _ h))
  · exact .inl (.inr ⟨o, e _ _ h⟩)
  · exact .inr h
/-! ### kinds -/
def kindV : Option Nat → V
  | none => .non
  | some j => .int (j : Int)
def WfK (ks : List (Option Nat)) : Prop := ∀ (i j : Nat), ks[i]? = some (some j) → j < i
abbrev N_law_kinds : List Str := ["_law_box", "_law_most", "_law_kinds_here", "_law_k", "_law_above_here"]
def spKinds : Sp := fun vs H Q _ => ∃ (b : Addr) (l : List Int) (m : Int), vs = [.ref b, .int m] ∧ H b = some (.lst (l.map V.int)) ∧ 0 < m ∧ m ≤ 1000 ∧
  ∀ (a : Addr) (ks : List (Option Nat)) (l' : List Int) (H' : Hp), WfK ks → 0 < ks.length → (ks.length : Int) ≤ m → H' a = some (.tup (ks.map kindV)) → H a = none → H' b = some (.lst (l'.map V.int)) → Kp (fun x => x = b) H H' → Q (.ref a) H'
theorem WfK.snoc {ks : List (Option Nat)} (w : WfK ks) {o : Option Nat} (h : ∀ j, o = some j → j < ks.length) : WfK (ks ++ [o]) := by
  intro i j e
  by_cases hi : i < ks.length
  · rw [List.getElem?_append_left hi] at e
    exact w i j e
  · rw [List.getElem?_append_right (by omega)] at e
    have hi2 : i = ks.length := by
      have := (List.getElem?_eq_some_iff.mp e).1
      simp at this
      omega
    subst hi2
    simp at e
    exact h j e
theorem rd_kinds {K : PySem.W.Frag} (vs : List V) (H : Hp) (Q : VK) (E : XK) (h : spKinds vs H Q E) : t_law_kinds K spTake { nx := fun _ H' => Q .non H', rt := Q } (start N_law_kinds vs) H := by
  obtain ⟨b, l, m, rfl, hb, hm, hm2, k⟩ := h
  refine ⟨(by show (0 : Nat) ≤ sizeLine; decide), fun p hp => ?_⟩
  have hb1 : L2.upd H p (.lst []) b = some (.lst (l.map V.int)) := by rw [upd_ne (ne_of_none hb hp)]; exact hb
  refine ⟨_, rfl, _, rfl, b, l, m, rfl, hb1, hm, by omega, fun r l1 H1 h0 h1 hb2 kp1 => ?_⟩
  have kpH : Kp (fun x => x = b) H H1 := (Kp.new hp).trans kp1
  have pb : p ≠ b := fun e => by rw [e, hb] at hp; cases hp
  refine ⟨_, _, rfl, rfl, _, rfl, by omega, by omega, for_range (lo := 0) (n := (1 + r).toNat) (fun i σ H2 => ∃ (ks : List (Option Nat)) (l2 : List Int) (v3 v4 : Option V), σ = [some (.ref b), some (.int m), some (.ref p), v3, v4] ∧
      ks.length = i ∧ WfK ks ∧ H2 p = some (.lst (ks.map kindV)) ∧ H2 b = some (.lst (l2.map V.int)) ∧ Kp (fun x => x = b) H H2)
    ⟨[], l1, none, none, rfl, rfl, (by intro i j e; simp at e), kp1 p _ upd_same pb, hb2, kpH⟩ ?_ ?_⟩
  · rintro i σ H2 hi ⟨ks, l2, v3, v4, rfl, hl, wf, hp2, hb3, kp2⟩
    refine ⟨_, rfl, _, rfl, _, _, rfl, rfl, b, l2, _, rfl, hb3, by omega, by omega, fun x l3 H3 x0 x1 hb4 kp3 => ?_⟩
    have hp3 := kp3 p _ hp2 pb
    refine ⟨_, rfl, .inl ⟨rfl, _, SqL.of hp3⟩, _, rfl, _, _, rfl, rfl, (by show (2 : Nat) ≤ sizeLine; decide), fun q hq => ?_⟩
    have pq : p ≠ q := ne_of_none hp3 hq
    have bq : b ≠ q := ne_of_none hb4 hq
    have fin : ∀ (o : Option Nat), (∀ j, o = some j → j < ks.length) → (0 : Nat) < 1 → ks.length < sizeLine ∧ (∃ (ks' : List (Option Nat)) (l2 : List Int) (v3 v4 : Option V), [some (V.ref b), some (.int m), some (.ref p), some (.int (0 + (i : Int))), some (.int x)] = [some (.ref b), some (.int m), some (.ref p), v3, v4] ∧
      ks'.length = i + 1 ∧ WfK ks' ∧ (L2.upd (L2.upd H3 q (.lst [.non, .int (x - 1)])) p (.lst (ks.map kindV ++ [kindV o]))) p = some (.lst (ks'.map kindV)) ∧ (L2.upd (L2.upd H3 q (.lst [.non, .int (x - 1)])) p (.lst (ks.map kindV ++ [kindV o]))) b = some (.lst (l2.map V.int)) ∧ Kp (fun x => x = b) H (L2.upd (L2.upd H3 q (.lst [.non, .int (x - 1)])) p (.lst (ks.map kindV ++ [kindV o])))) := by
      intro o ho _
      refine ⟨sz_lt1 (by omega), ks ++ [o], l3, _, _, rfl, by simp; omega, wf.snoc ho, by rw [upd_same, List.map_append]; rfl, by rw [upd_ne pb.symm, upd_ne bq]; exact hb4, ?_⟩
      exact ((kp2.trans kp3).trans (Kp.new hq)).late hp
    refine ⟨_, rfl, _, _, rfl, rfl, .inr ⟨_, rfl, ?_⟩⟩
    by_cases hx : 0 < x
    · have e1 : (if decide ((0 : Int) < x) = true then (1 : Int) else 0) = 1 := by rw [if_pos (decide_eq_true hx)]
      rw [e1]
      obtain ⟨z1, z2⟩ := fin (some (x - 1).toNat) (fun j e => by cases e; omega) (by decide)
      have e2 : V.int (x - 1) = kindV (some (x - 1).toNat) := by show V.int (x - 1) = V.int ((x - 1).toNat : Int); rw [Int.toNat_of_nonneg (by omega)]
      refine ⟨q, _, 1, .int (x - 1), rfl, rfl, SqL.of upd_same, atI_nat (j := 1) rfl, p, ks.map kindV, _, rfl, rfl, by rw [upd_ne pq]; exact hp3, by rw [List.length_map]; exact z1, ?_⟩
      rw [← e2] at z2
      exact z2
    · have e1 : (if decide ((0 : Int) < x) = true then (1 : Int) else 0) = 0 := by rw [if_neg (by rw [decide_eq_false hx]; decide)]
      rw [e1]
      obtain ⟨z1, z2⟩ := fin none (fun j e => by cases e) (by decide)
      exact ⟨q, _, 0, .non, rfl, rfl, SqL.of upd_same, atI_nat (j := 0) rfl, p, ks.map kindV, _, rfl, rfl, by rw [upd_ne pq]; exact hp3, by rw [List.length_map]; exact z1, z2⟩
  · rintro σ H2 ⟨ks, l2, v3, v4, rfl, hl, wf, hp2, hb3, kp2⟩
    refine ⟨_, rfl, p, _, rfl, .inl ⟨SqL.of hp2, fun q hq => ?_⟩⟩
    have bq : b ≠ q := ne_of_none hb3 hq
    exact k q ks l2 _ wf (by omega) (by omega) upd_same (kp2.free hq fun e => bq e.symm) (by rw [upd_ne bq]; exact hb3) (kp2.trans (Kp.new hq))
/-! ### above, under -/
/-- the kinds that one comes to by going up -/
def chain (ks : List (Option Nat)) : Nat → Nat → List Nat
  | 0, _ => []
  | f + 1, k => k :: (match ks[k]? with
    | some (some j) => chain ks f j
    | _ => [])
theorem chain_fuel {ks : List (Option Nat)} (w : WfK ks) : ∀ (f g k : Nat), k < f → k < g → chain ks f k = chain ks g k
  | 0, _, _, h, _ => absurd h (Nat.not_lt_zero _)
  | _, 0, _, _, h => absurd h (Nat.not_lt_zero _)
  | f + 1, g + 1, k, hf, hg => by
    unfold chain
    cases e : ks[k]? with
    | none => rfl
    | some o =>
      cases o with
      | none => rfl
      | some j =>
        have := w k j e
        show k :: chain ks f j = k :: chain ks g j
        rw [chain_fuel w f g j (by omega) (by omega)]
/-- kind k is other, or lies under it -/
def under (ks : List (Option Nat)) (k o : Nat) : Bool := decide (o ∈ chain ks (k + 1) k)
theorem under_eq {ks : List (Option Nat)} (w : WfK ks) (k o : Nat) : under ks k o = (decide (k = o) || match ks[k]? with
    | some (some j) => under ks j o
    | _ => false) := by
  unfold under
  conv => lhs; unfold chain
  cases e : ks[k]? with
  | none => simp [eq_comm]
  | some q =>
    cases q with
    | none => simp [eq_comm]
    | some j =>
      have := w k j e
      show decide (o ∈ k :: chain ks k j) = (decide (k = o) || decide (o ∈ chain ks (j + 1) j))
      rw [chain_fuel w k (j + 1) j (by omega) (by omega)]
      simp [eq_comm]
/-- under(kinds, kind, other): kinds at a -/
def spUnder (K : PySem.W.Frag) : Sp := fun vs H Q _ => ∃ (a : Addr) (ks : List (Option Nat)) (k o : Nat), vs = [.ref a, .int (k : Int), .int (o : Int)] ∧ SqT K H a (ks.map kindV) ∧ WfK ks ∧ k < ks.length ∧ Q (.bl (under ks k o)) H
abbrev N_under : List Str := ["kinds", "kind", "other"]
theorem rd_under {K : PySem.W.Frag} (vs : List V) (H : Hp) (Q : VK) (E : XK) (h : spUnder K vs H Q E) : t_under K { nx := fun _ H' => Q .non H', rt := Q } (start N_under vs) H := by
  obtain ⟨a, ks, k, o, rfl, hS, wf, hk, q⟩ := h
  refine ⟨fun m σ H' => H' = H ∧ ∃ c : Option Nat, σ = [some (.ref a), some (kindV c), some (.int (o : Int))] ∧ (∀ j, c = some j → j < ks.length ∧ under ks j o = under ks k o) ∧ (c = none → under ks k o = false) ∧ m = (match c with
      | some j => j + 1
      | none => 0), ⟨_, rfl, some k, rfl, (fun j e => by cases e; exact ⟨hk, rfl⟩), (fun e => by cases e), rfl⟩, ?_⟩
  rintro m σ H' ⟨rfl, c, rfl, h1, h2, rfl⟩
  refine ⟨_, rfl, rfl, _, rfl, ?_⟩
  cases c with
  | none =>
    refine ifF rfl (ifF rfl ?_)
    refine ⟨_, rfl, rfl, ?_⟩
    show Q (.bl (!decide (V.non = V.non))) H'
    rw [dT rfl, ← show under ks k o = !true from h2 rfl]
    exact q
  | some j =>
    obtain ⟨hj, ej⟩ := h1 j rfl
    refine ifT rfl ⟨_, rfl, _, rfl, rfl, _, rfl, ?_⟩
    refine ifB (fun e => ?_) (fun e => ?_)
    · have ne : j ≠ o := fun z => by
        rw [z] at e
        simp [kindV] at e
      cases e2 : ks[j]? with
      | none => exact absurd (List.getElem?_eq_none_iff.mp e2) (by omega)
      | some d =>
        refine ⟨fun σ' H2 => ∃ m', m' < j + 1 ∧ (H2 = H' ∧ ∃ c : Option Nat, σ' = [some (.ref a), some (kindV c), some (.int (o : Int))] ∧ (∀ j, c = some j → j < ks.length ∧ under ks j o = under ks k o) ∧ (c = none → under ks k o = false) ∧ m' = (match c with
          | some j => j + 1
          | none => 0)), fun _ _ z => z, ?_⟩
        have eu := under_eq wf j o
        rw [ej, e2, decide_eq_false ne, Bool.false_or] at eu
        refine ⟨_, rfl, _, rfl, a, _, _, kindV d, rfl, rfl, hS, atI_nat (j := j) (by rw [List.getElem?_map, e2]; rfl), ?_⟩
        cases d with
        | none => exact ⟨0, by omega, rfl, none, rfl, (fun _ z => by cases z), (fun _ => eu), rfl⟩
        | some d =>
          have := wf j d e2
          exact ⟨d + 1, by omega, rfl, some d, rfl, (fun _ z => by cases z; exact ⟨by omega, eu.symm⟩), (fun z => by cases z), rfl⟩
    · have eo : j = o := by
        simp [kindV] at e
        omega
      subst eo
      have eu := under_eq wf j j
      rw [ej, dT rfl, Bool.true_or] at eu
      refine ⟨_, rfl, rfl, ?_⟩
      show Q (.bl (!decide (kindV (some j) = V.non))) H'
      rw [dF (by intro z; cases z)]
      rw [eu] at q
      exact q
/-- _law_above(kinds, kind) -/
def spAbove (K : PySem.W.Frag) : Sp := fun vs H Q _ => ∃ (a : Addr) (ks : List (Option Nat)) (k : Nat), vs = [.ref a, .int (k : Int)] ∧ SqT K H a (ks.map kindV) ∧ WfK ks ∧ k < ks.length ∧ ks.length ≤ 1000 ∧
  ∀ (r : Addr) (row : List Nat) (H' : Hp), (∀ o, o ∈ row ↔ under ks k o = true) → H r = none → H' r = some (.lst (row.map fun n : Nat => V.int (n : Int))) → Same H H' → Q (.ref r) H'
abbrev N_law_above : List Str := ["_law_kinds_here", "_law_kind", "_law_row", "_law_k", "_law_last"]
theorem rd_above {K : PySem.W.Frag} (vs : List V) (H : Hp) (Q : VK) (E : XK) (h : spAbove K vs H Q E) : t_law_above K { nx := fun _ H' => Q .non H', rt := Q } (start N_law_above vs) H := by
  obtain ⟨a, ks, k, rfl, hS, wf, hk, hz, q⟩ := h
  refine ⟨_, rfl, (by show (1 : Nat) ≤ sizeLine; decide), fun p hp => ?_⟩
  have s0 : ∀ {o : HO}, Same H (L2.upd H p o) := fun b u e => by rw [upd_ne (ne_of_none e hp)]; exact e
  refine ⟨_, rfl, a, _, rfl, .inr (s0.sqT hS), _, rfl, by omega, by rw [List.length_map]; omega, ?_⟩
  rw [List.length_map, Int.toNat_natCast]
  refine for_range (lo := 0) (n := ks.length) (fun i σ H2 => ∃ (row : List Nat) (c : Nat) (v3 v4 : Option V), σ = [some (.ref a), some (.int (k : Int)), some (.ref p), v3, v4] ∧
      H2 p = some (.lst ((row ++ [c]).map fun n : Nat => V.int (n : Int))) ∧ Same H H2 ∧ c < ks.length ∧ row.length ≤ i ∧ (∀ o, under ks k o = true ↔ (o ∈ row ∨ under ks c o = true)) ∧ (ks[c]? = some none ∨ c + i < ks.length))
    ⟨[], k, none, none, rfl, upd_same, s0, hk, Nat.le_refl _, by simp, .inr (by omega)⟩ ?_ ?_
  · rintro i σ H2 hi ⟨row, c, v3, v4, rfl, hp2, s2, hc, hl, hu, ht⟩
    have hp2' : H2 p = some (.lst (row.map (fun n : Nat => V.int (n : Int)) ++ [V.int (c : Int)])) := by rw [hp2, List.map_append]; rfl
    cases e : ks[c]? with
    | none => exact absurd (List.getElem?_eq_none_iff.mp e) (by omega)
    | some d =>
      refine ⟨_, rfl, _, rfl, _, rfl, p, _, -1, .int (c : Int), rfl, rfl, SqL.of hp2', atI_last _ _, a, _, _, kindV d, rfl, rfl, s2.sqT hS, atI_nat (j := c) (by rw [List.getElem?_map, e]; rfl), ?_⟩
      refine ⟨_, rfl, rfl, _, rfl, ?_⟩
      have eu := fun o => under_eq wf c o
      cases d with
      | none =>
        refine ifF rfl ?_
        exact ⟨row, c, _, _, rfl, hp2, s2, hc, by omega, hu, .inl e⟩
      | some d =>
        have hd := wf c d e
        refine ifT rfl ⟨_, rfl, .inl ⟨rfl, _, SqL.of hp2⟩, _, rfl, p, _, _, rfl, rfl, hp2, sz_lt1 (by simp; omega), ?_⟩
        refine ⟨row ++ [c], d, _, _, rfl, by rw [upd_same]; simp [kindV], fun b u z => by rw [upd_ne (ne_of_none z hp)]; exact s2 b u z, by omega, by simp; omega, fun o => ?_, ?_⟩
        · have e1 := eu o
          rw [e] at e1
          rw [hu o, e1]
          simp only [Bool.or_eq_true, decide_eq_true_eq, List.mem_append, List.mem_singleton]
          constructor
          · rintro (z | z | z)
            · exact .inl (.inl z)
            · exact .inl (.inr z.symm)
            · exact .inr z
          · rintro ((z | z) | z)
            · exact .inl z
            · exact .inr (.inl z.symm)
            · exact .inr (.inr z)
        · rcases ht with ht | ht
          · rw [e] at ht; cases ht
          · exact .inr (by omega)
  · rintro σ H2 ⟨row, c, v3, v4, rfl, hp2, s2, hc, hl, hu, ht⟩
    have hroot : ks[c]? = some none := by
      rcases ht with ht | ht
      · exact ht
      · omega
    refine ⟨_, rfl, q p (row ++ [c]) H2 (fun o => ?_) hp hp2 s2⟩
    have eu := under_eq wf c o
    rw [hroot] at eu
    rw [hu o, eu]
    simp only [Bool.or_false, decide_eq_true_eq, List.mem_append, List.mem_singleton, eq_comm (a := o)]
end Lp

/-! Ld: data that is tuples throughout, and stays; expressions. -/
namespace Lp
open PySem PySem.Spec PyProof.Rows L2

/-! ### what stays by itself: tuples, and what is locked -/
structure Tk (H H' : Hp) : Prop where
  tup : ∀ a xs, H a = some (.tup xs) → H' a = some (.tup xs)
  frz : ∀ a o u, H a = some (.frz o u) → H' a = some (.frz o u)
theorem Tk.refl (H : Hp) : Tk H H := ⟨fun _ _ h => h, fun _ _ _ h => h⟩
theorem Tk.trans {H H1 H2 : Hp} (a : Tk H H1) (b : Tk H1 H2) : Tk H H2 := ⟨fun x xs h => b.tup x xs (a.tup x xs h), fun x o u h => b.frz x o u (a.frz x o u h)⟩
theorem Tk.same {H H' : Hp} (s : Same H H') : Tk H H' := ⟨fun a _ h => s a _ h, fun a _ _ h => s a _ h⟩
theorem Tk.new {H : Hp} {p : Addr} {o : HO} (h : H p = none) : Tk H (upd H p o) := ⟨fun a xs e => by rw [upd_ne (ne_of_none e h)]; exact e, fun a o u e => by rw [upd_ne (ne_of_none e h)]; exact e⟩
theorem Tk.lst {H : Hp} {p : Addr} {xs : List V} {o : HO} (h : H p = some (.lst xs)) : Tk H (upd H p o) :=
  ⟨fun a ys e => by rw [upd_ne (ne_of e h (by intro z; cases z))]; exact e, fun a o u e => by rw [upd_ne (ne_of e h (by intro z; cases z))]; exact e⟩
theorem Tk.ins {H : Hp} {p C dx : Addr} {fs : List (Str × V)} {o : HO} (h : H p = some (.ins C dx fs)) : Tk H (upd H p o) :=
  ⟨fun a ys e => by rw [upd_ne (ne_of e h (by intro z; cases z))]; exact e, fun a o u e => by rw [upd_ne (ne_of e h (by intro z; cases z))]; exact e⟩
/-- of a change of listed things that are lists or instances -/
theorem Kp.tk {B : Addr → Prop} {H H' : Hp} (k : Kp B H H') (nt : NoTup B H) : Tk H H' :=
  ⟨fun a xs e => k a _ e fun z => by obtain ⟨u, e2, n, _⟩ := nt a z; rw [e] at e2; cases e2; exact n _ rfl, fun a o u e => k a _ e fun z => by obtain ⟨v, e2, _, n⟩ := nt a z; rw [e] at e2; cases e2; exact n _ _ rfl⟩
theorem noTup1 {H : Hp} {b : Addr} {xs : List V} (h : H b = some (.lst xs)) : NoTup (fun x => x = b) H := fun a e => by
  cases (show a = b from e)
  exact ⟨.lst xs, h, (fun _ z => by cases z), (fun _ _ z => by cases z)⟩
theorem Kp.tk1 {H H' : Hp} {b : Addr} {xs : List V} (k : Kp (fun x => x = b) H H') (h : H b = some (.lst xs)) : Tk H H' := k.tk (noTup1 h)
theorem Tk.sqT {K : PySem.W.Frag} {H H' : Hp} {a : Addr} {xs : List V} (k : Tk H H') (h : SqT K H a xs) : SqT K H' a xs := by
  rcases h with (h | ⟨o, h⟩) | h
  · exact .inl (.inl (k.tup _ _ h))
  · exact .inl (.inr ⟨o, k.frz _ _ _ h⟩)
  · exact .inr h

/-! ### data of tuples -/
mutual
inductive Tp (K : PySem.W.Frag) (H : Hp) : V → PyData → Prop
  | non : Tp K H .non .none
  | bl (b : Bool) : Tp K H (.bl b) (.bool b)
  | int (i : Int) : Tp K H (.int i) (.int i)
  | str (x : Str) : Tp K H (.str x) (.str x)
  | tup {a : Addr} {xs : List V} {ds : List PyData} : SqT K H a xs → TpAll K H xs ds → Tp K H (.ref a) (.tuple ds)
inductive TpAll (K : PySem.W.Frag) (H : Hp) : List V → List PyData → Prop
  | nil : TpAll K H [] []
  | cons {v : V} {vs : List V} {d : PyData} {ds : List PyData} : Tp K H v d → TpAll K H vs ds → TpAll K H (v :: vs) (d :: ds)
end
section
variable {K : PySem.W.Frag} {H H' : Hp}
mutual
theorem Tp.tk (k : Tk H H') : ∀ (d : PyData) (v : V), Tp K H v d → Tp K H' v d
  | .none, _, h => by cases h; exact .non
  | .bool _, _, h => by cases h; exact .bl _
  | .int _, _, h => by cases h; exact .int _
  | .str _, _, h => by cases h; exact .str _
  | .tuple ds, _, h => by
    cases h with
    | tup hs ha => exact .tup (k.sqT hs) (TpAll.tk k ds _ ha)
  | .list _, _, h => by cases h
  | .dict _, _, h => by cases h
theorem TpAll.tk (k : Tk H H') : ∀ (ds : List PyData) (vs : List V), TpAll K H vs ds → TpAll K H' vs ds
  | [], _, h => by cases h; exact .nil
  | d :: ds, _, h => by
    cases h with
    | cons h1 h2 => exact .cons (Tp.tk k d _ h1) (TpAll.tk k ds _ h2)
end
mutual
theorem Tp.dp : ∀ (d : PyData) (v : V), Tp K H v d → Dp K H v d
  | .none, _, h => by cases h; exact .non
  | .bool _, _, h => by cases h; exact .bl _
  | .int _, _, h => by cases h; exact .int _
  | .str _, _, h => by cases h; exact .str _
  | .tuple ds, _, h => by
    cases h with
    | tup hs ha => exact .tup hs (TpAll.dp ds _ ha)
  | .list _, _, h => by cases h
  | .dict _, _, h => by cases h
theorem TpAll.dp : ∀ (ds : List PyData) (vs : List V), TpAll K H vs ds → DpAll K H vs ds
  | [], _, h => by cases h; exact .nil
  | d :: ds, _, h => by
    cases h with
    | cons h1 h2 => exact .cons (Tp.dp d _ h1) (TpAll.dp ds _ h2)
end
theorem Tp.mono {v : V} {d : PyData} (h : Tp K H v d) (k : Tk H H') : Tp K H' v d := Tp.tk k d v h
theorem TpAll.mono {vs : List V} {ds : List PyData} (h : TpAll K H vs ds) (k : Tk H H') : TpAll K H' vs ds := TpAll.tk k ds vs h
theorem Tp.intE {v : V} {i : Int} (h : Tp K H v (.int i)) : v = .int i := by cases h; rfl
theorem Tp.strE {v : V} {x : Str} (h : Tp K H v (.str x)) : v = .str x := by cases h; rfl
theorem Tp.nonE {v : V} (h : Tp K H v .none) : v = .non := by cases h; rfl
theorem Tp.tupE {v : V} {ds : List PyData} (h : Tp K H v (.tuple ds)) : ∃ a xs, v = .ref a ∧ SqT K H a xs ∧ TpAll K H xs ds := by
  cases h with
  | tup hs ha => exact ⟨_, _, rfl, hs, ha⟩
theorem TpAll.nilE {vs : List V} (h : TpAll K H vs []) : vs = [] := by cases h; rfl
theorem TpAll.consE {vs : List V} {d : PyData} {ds : List PyData} (h : TpAll K H vs (d :: ds)) : ∃ v r, vs = v :: r ∧ Tp K H v d ∧ TpAll K H r ds := by
  cases h with
  | cons h1 h2 => exact ⟨_, _, rfl, h1, h2⟩
theorem TpAll.length : ∀ {vs : List V} {ds : List PyData}, TpAll K H vs ds → vs.length = ds.length
  | _, [], h => by cases h; rfl
  | _, d :: ds, h => by
    cases h with
    | cons h1 h2 => simp [h2.length]
theorem TpAll.get : ∀ {vs : List V} {ds : List PyData} {i : Nat} {v : V}, TpAll K H vs ds → vs[i]? = some v → ∃ d, ds[i]? = some d ∧ Tp K H v d
  | _, [], i, v, h, e => by cases h; simp at e
  | _, d :: ds, 0, v, h, e => by
    cases h with
    | cons h1 h2 => simp at e; subst e; exact ⟨d, rfl, h1⟩
  | _, d :: ds, i + 1, v, h, e => by
    cases h with
    | cons h1 h2 =>
      obtain ⟨d', e', t⟩ := h2.get (i := i) (v := v) (by simpa using e)
      exact ⟨d', by simpa using e', t⟩
theorem TpAll.get' : ∀ {vs : List V} {ds : List PyData} {i : Nat} {d : PyData}, TpAll K H vs ds → ds[i]? = some d → ∃ v, vs[i]? = some v ∧ Tp K H v d
  | _, [], i, d, h, e => by simp at e
  | _, d0 :: ds, 0, d, h, e => by
    cases h with
    | cons h1 h2 => simp at e; subst e; exact ⟨_, rfl, h1⟩
  | _, d0 :: ds, i + 1, d, h, e => by
    cases h with
    | cons h1 h2 =>
      obtain ⟨v, e', t⟩ := h2.get' (i := i) (d := d) (by simpa using e)
      exact ⟨v, by simpa using e', t⟩
theorem TpAll.snoc : ∀ {vs : List V} {ds : List PyData} {v : V} {d : PyData}, TpAll K H vs ds → Tp K H v d → TpAll K H (vs ++ [v]) (ds ++ [d])
  | _, [], v, d, h, t => by cases h; exact .cons t .nil
  | _, d0 :: ds, v, d, h, t => by
    cases h with
    | cons h1 h2 => exact .cons h1 (h2.snoc t)
theorem TpAll.app : ∀ {vs us : List V} {ds es : List PyData}, TpAll K H vs ds → TpAll K H us es → TpAll K H (vs ++ us) (ds ++ es)
  | _, _, [], _, h, t => by cases h; exact t
  | _, _, d0 :: ds, _, h, t => by
    cases h with
    | cons h1 h2 => exact .cons h1 (h2.app t)
/-- two, three, four, five places -/
theorem Tp.tup1 {v : V} {d0 : PyData} (h : Tp K H v (.tuple [d0])) : ∃ a x0, v = .ref a ∧ SqT K H a [x0] ∧ Tp K H x0 d0 := by
  obtain ⟨a, xs, rfl, hs, ha⟩ := h.tupE
  obtain ⟨x0, r0, rfl, h0, ha⟩ := ha.consE
  cases ha.nilE
  exact ⟨a, x0, rfl, hs, h0⟩
theorem Tp.tup2 {v : V} {d0 d1 : PyData} (h : Tp K H v (.tuple [d0, d1])) : ∃ a x0 x1, v = .ref a ∧ SqT K H a [x0, x1] ∧ Tp K H x0 d0 ∧ Tp K H x1 d1 := by
  obtain ⟨a, xs, rfl, hs, ha⟩ := h.tupE
  obtain ⟨x0, r0, rfl, h0, ha⟩ := ha.consE
  obtain ⟨x1, r1, rfl, h1, ha⟩ := ha.consE
  cases ha.nilE
  exact ⟨a, x0, x1, rfl, hs, h0, h1⟩
theorem Tp.tup3 {v : V} {d0 d1 d2 : PyData} (h : Tp K H v (.tuple [d0, d1, d2])) : ∃ a x0 x1 x2, v = .ref a ∧ SqT K H a [x0, x1, x2] ∧ Tp K H x0 d0 ∧ Tp K H x1 d1 ∧ Tp K H x2 d2 := by
  obtain ⟨a, xs, rfl, hs, ha⟩ := h.tupE
  obtain ⟨x0, r0, rfl, h0, ha⟩ := ha.consE
  obtain ⟨x1, r1, rfl, h1, ha⟩ := ha.consE
  obtain ⟨x2, r2, rfl, h2, ha⟩ := ha.consE
  cases ha.nilE
  exact ⟨a, x0, x1, x2, rfl, hs, h0, h1, h2⟩
theorem Tp.tup4 {v : V} {d0 d1 d2 d3 : PyData} (h : Tp K H v (.tuple [d0, d1, d2, d3])) : ∃ a x0 x1 x2 x3, v = .ref a ∧ SqT K H a [x0, x1, x2, x3] ∧ Tp K H x0 d0 ∧ Tp K H x1 d1 ∧ Tp K H x2 d2 ∧ Tp K H x3 d3 := by
  obtain ⟨a, xs, rfl, hs, ha⟩ := h.tupE
  obtain ⟨x0, r0, rfl, h0, ha⟩ := ha.consE
  obtain ⟨x1, r1, rfl, h1, ha⟩ := ha.consE
  obtain ⟨x2, r2, rfl, h2, ha⟩ := ha.consE
  obtain ⟨x3, r3, rfl, h3, ha⟩ := ha.consE
  cases ha.nilE
  exact ⟨a, x0, x1, x2, x3, rfl, hs, h0, h1, h2, h3⟩
theorem Tp.tup5 {v : V} {d0 d1 d2 d3 d4 : PyData} (h : Tp K H v (.tuple [d0, d1, d2, d3, d4])) : ∃ a x0 x1 x2 x3 x4, v = .ref a ∧ SqT K H a [x0, x1, x2, x3, x4] ∧ Tp K H x0 d0 ∧ Tp K H x1 d1 ∧ Tp K H x2 d2 ∧ Tp K H x3 d3 ∧ Tp K H x4 d4 := by
  obtain ⟨a, xs, rfl, hs, ha⟩ := h.tupE
  obtain ⟨x0, r0, rfl, h0, ha⟩ := ha.consE
  obtain ⟨x1, r1, rfl, h1, ha⟩ := ha.consE
  obtain ⟨x2, r2, rfl, h2, ha⟩ := ha.consE
  obtain ⟨x3, r3, rfl, h3, ha⟩ := ha.consE
  obtain ⟨x4, r4, rfl, h4, ha⟩ := ha.consE
  cases ha.nilE
  exact ⟨a, x0, x1, x2, x3, x4, rfl, hs, h0, h1, h2, h3, h4⟩
/-- a new tuple -/
theorem Tp.mk {p : Addr} {xs : List V} {ds : List PyData} (hp : H p = none) (h : TpAll K H xs ds) : Tp K (upd H p (.tup xs)) (.ref p) (.tuple ds) := .tup (.inl (.inl upd_same)) (h.mono (Tk.new hp))
end

/-! ### expressions -/
inductive BOp where | add | sub | mul | less
  deriving DecidableEq
def BOp.s : BOp → Str
  | .add => "add" | .sub => "sub" | .mul => "mul" | .less => "less"
def BOp.ap : BOp → Int → Int → Int
  | .add, i, j => (i + j) % 10007
  | .sub, i, j => (i - j) % 10007
  | .mul, i, j => i * j % 10007
  | .less, i, j => if i < j then 1 else 0
inductive Ex where
  | num (n : Int)
  | var (k : Nat)
  | bin (o : BOp) (a b : Ex)
  deriving DecidableEq
def Ex.d : Ex → PyData
  | .num n => .tuple [.str "num", .int n]
  | .var k => .tuple [.str "var", .int (k : Int)]
  | .bin o a b => .tuple [.str o.s, a.d, b.d]
def Ex.val (σ : List Int) : Ex → Int
  | .num n => n
  | .var k => σ.getD k 0
  | .bin o a b => o.ap (a.val σ) (b.val σ)
def Ex.Wf : Ex → Prop
  | .num n => 0 ≤ n ∧ n < 1000
  | .var k => k < 8
  | .bin _ a b => a.Wf ∧ b.Wf
def Ex.dep : Ex → Nat
  | .num _ => 1
  | .var _ => 1
  | .bin _ a b => max a.dep b.dep + 1
/-- eight numbers from 0 to 10006 -/
def InR (σ : List Int) : Prop := σ.length = 8 ∧ ∀ n ∈ σ, 0 ≤ n ∧ n < 10007
theorem BOp.ap_in (o : BOp) (i j : Int) : 0 ≤ o.ap i j ∧ o.ap i j < 10007 := by
  cases o with
  | less => unfold BOp.ap; split <;> omega
  | _ => exact ⟨Int.emod_nonneg _ (by decide), Int.emod_lt_of_pos _ (by decide)⟩
theorem Ex.val_in {σ : List Int} (r : InR σ) : ∀ {e : Ex}, e.Wf → 0 ≤ e.val σ ∧ e.val σ < 10007
  | .num n, w => by
    have : 0 ≤ n ∧ n < 1000 := w
    show 0 ≤ n ∧ n < 10007
    omega
  | .var k, w => by
    have hk : k < σ.length := by rw [r.1]; exact w
    show 0 ≤ σ.getD k 0 ∧ σ.getD k 0 < 10007
    rw [List.getD_eq_getElem?_getD, List.getElem?_eq_getElem hk]
    exact r.2 _ (List.getElem_mem hk)
  | .bin o a b, _ => o.ap_in _ _
theorem BOp.ne {o : BOp} : (V.str o.s ≠ V.str "num") ∧ (V.str o.s ≠ V.str "var") := by cases o <;> decide
end Lp

/-! L2v: values of expressions: joined, value_of, the law's own, and its drawing of expressions. -/
namespace Lp
open PySem PySem.Spec PyProof.Rows L2
def t_joined (K : PySem.W.Frag) : TS :=
  tSeq (tIfS (tTest (tOp rEq (tVar 0) (tC (.str "add")))) (tRet (tOp rMdI (tOp rAdI (tVar 1) (tVar 2)) (tC (.int 10007)))) (tNext)) (tSeq (tIfS (tTest (tOp rEq (tVar 0) (tC (.str "sub")))) (tRet (tOp rMdI (tOp rSbI (tVar 1) (tVar 2)) (tC (.int 10007)))) (tNext)) (tSeq (tIfS (tTest (tOp rEq (tVar 0) (tC (.str "mul")))) (tRet (tOp rMdI (tOp rMlI (tVar 1) (tVar 2)) (tC (.int 10007)))) (tNext)) (tRet (tCB rInt1 (tCons (tOp rLt (tVar 1) (tVar 2)) (tNil))))))

def t_value_of (K : PySem.W.Frag) (sp_joined : Sp) (sp_value_of : Sp) : TS :=
  tSeq (tIfS (tTest (tOp rEq (tOp (rIxT K) (tVar 0) (tC (.int 0))) (tC (.str "num")))) (tRet (tOp (rIxT K) (tVar 0) (tC (.int 1)))) (tNext)) (tSeq (tIfS (tTest (tOp rEq (tOp (rIxT K) (tVar 0) (tC (.int 0))) (tC (.str "var")))) (tRet (tOp (rIxL K) (tVar 1) (tOp (rIxT K) (tVar 0) (tC (.int 1))))) (tNext)) (tRet (tCall sp_joined [] E0 (tCons (tOp (rIxT K) (tVar 0) (tC (.int 0))) (tCons (tCall sp_value_of [] E0 (tCons (tOp (rIxT K) (tVar 0) (tC (.int 1))) (tCons (tVar 1) (tNil)))) (tCons (tCall sp_value_of [] E0 (tCons (tOp (rIxT K) (tVar 0) (tC (.int 2))) (tCons (tVar 1) (tNil)))) (tNil)))))))

def t_law_part (K : PySem.W.Frag) (sp_law_take : Sp) (sp_law_part : Sp) : TS :=
  tSeq (tAsg (tCall sp_law_take [] E0 (tCons (tVar 0) (tCons (tC (.int 8)) (tNil)))) (gName 2)) (tSeq (tIfS (tTest (tOp rLt (tVar 2) (tC (.int 2)))) (tRet (tTup (tCons (tC (.str "num")) (tCons (tCall sp_law_take [] E0 (tCons (tVar 0) (tCons (tC (.int 1000)) (tNil)))) (tNil))))) (tNext)) (tSeq (tIfS (tOr (tTest (tOp rEq (tVar 1) (tC (.int 0)))) (tTest (tOp rEq (tVar 2) (tC (.int 2))))) (tRet (tTup (tCons (tC (.str "num")) (tCons (tCall sp_law_take [] E0 (tCons (tVar 0) (tCons (tC (.int 3)) (tNil)))) (tNil))))) (tNext)) (tSeq (tIfS (tTest (tOp rLt (tVar 2) (tC (.int 5)))) (tRet (tTup (tCons (tC (.str "var")) (tCons (tCall sp_law_take [] E0 (tCons (tVar 0) (tCons (tC (.int 8)) (tNil)))) (tNil))))) (tNext)) (tSeq (tAsg (tOp (rIxL K) (tLst (tCons (tC (.str "add")) (tCons (tC (.str "sub")) (tCons (tC (.str "mul")) (tCons (tC (.str "less")) (tNil)))))) (tCall sp_law_take [] E0 (tCons (tVar 0) (tCons (tC (.int 4)) (tNil))))) (gName 3)) (tSeq (tAsg (tCall sp_law_part [] E0 (tCons (tVar 0) (tCons (tOp rSbI (tVar 1) (tC (.int 1))) (tNil)))) (gName 4)) (tRet (tTup (tCons (tVar 3) (tCons (tVar 4) (tCons (tCall sp_law_part [] E0 (tCons (tVar 0) (tCons (tOp rSbI (tVar 1) (tC (.int 1))) (tNil)))) (tNil)))))))))))

def t_law_value (K : PySem.W.Frag) (sp_law_value : Sp) : TS :=
  tSeq (tAsg (tOp (rIxT K) (tVar 0) (tC (.int 0))) (gName 2)) (tSeq (tIfS (tTest (tOp rEq (tVar 2) (tC (.str "num")))) (tRet (tOp (rIxT K) (tVar 0) (tC (.int 1)))) (tNext)) (tSeq (tIfS (tTest (tOp rEq (tVar 2) (tC (.str "var")))) (tRet (tOp (rIxL K) (tVar 1) (tOp (rIxT K) (tVar 0) (tC (.int 1))))) (tNext)) (tSeq (tAsg (tCall sp_law_value [] E0 (tCons (tOp (rIxT K) (tVar 0) (tC (.int 1))) (tCons (tVar 1) (tNil)))) (gName 3)) (tSeq (tAsg (tCall sp_law_value [] E0 (tCons (tOp (rIxT K) (tVar 0) (tC (.int 2))) (tCons (tVar 1) (tNil)))) (gName 4)) (tSeq (tIfS (tTest (tOp rEq (tVar 2) (tC (.str "less")))) (tRet (tCB rInt1 (tCons (tOp rLt (tVar 3) (tVar 4)) (tNil)))) (tNext)) (tSeq (tIfS (tTest (tOp rEq (tVar 2) (tC (.str "add")))) (tRet (tOp rMdI (tOp rAdI (tVar 3) (tVar 4)) (tC (.int 10007)))) (tNext)) (tSeq (tIfS (tTest (tOp rEq (tVar 2) (tC (.str "sub")))) (tRet (tOp rMdI (tOp rSbI (tOp rAdI (tVar 3) (tOp rMlI (tC (.int 10007)) (tC (.int 10007)))) (tVar 4)) (tC (.int 10007)))) (tNext)) (tRet (tOp rMdI (tOp rMlI (tVar 3) (tVar 4)) (tC (.int 10007)))))))))))

/-! ### items -/
section
variable {K : PySem.W.Frag} {σ : L2.St} {H : Hp} {i j : Nat} {p : Addr} {xs : List V} {v : V} {Q : VK}
theorem rd_ixT (hs : σ[i]? = some (some (.ref p))) (h : SqT K H p xs) (e : xs[j]? = some v) (q : Q v H) : tOp (rIxT K) (tVar i) (tC (.int (j : Int))) σ H Q := ⟨_, hs, p, xs, _, v, rfl, rfl, h, atI_nat e, q⟩
theorem rd_ixL (hs : σ[i]? = some (some (.ref p))) (h : SqL K H p xs) (e : xs[j]? = some v) (q : Q v H) : tOp (rIxL K) (tVar i) (tC (.int (j : Int))) σ H Q := ⟨_, hs, p, xs, _, v, rfl, rfl, h, atI_nat e, q⟩
end
section
variable {P : Program} {w : World} {K : PySem.W.Frag} {mg : Str → Option Value} {base : Heap} {j : Nat} {x m : Str} {C : Addr} {ps : List Str} {f : Addr} {fd : FuncData}
/-- a def that calls itself: at 0 it can't be asked -/
theorem FnOk.zero {k : Nat} {sp : Sp} (z : ∀ vs H Q E, ¬ sp vs H Q E) : FnOk P w K mg base CX0 k f fd ps sp :=
  ⟨fun vs H Q E h => absurd h (z vs H Q E), fun A outer s H args us vs Q E _ _ _ _ h => absurd h (z vs H Q E)⟩
theorem Cal.rec {sp : Nat → Sp} (b : Binds K fd ps []) (kp : PySem.W.keepIn K (.ref f) = true) (hm : mg x = some (.ref f)) (z : ∀ vs H Q E, ¬ sp 0 vs H Q E)
    (step : ∀ n, Cal P w K mg base (j + n) x ps (sp n) → FnOk P w K mg base CX0 (j + n + 1) f fd ps (sp (n + 1))) : ∀ n, Cal P w K mg base (j + n) x ps (sp n)
  | 0 => ⟨f, fd, FnOk.zero z, b, kp, hm⟩
  | n + 1 => ⟨f, fd, step n (Cal.rec b kp hm z step n), b, kp, hm⟩
end
section
variable {X : Cx} {x : Str} {i : Int} {z : Str} {pos : Pos}
theorem pgi (h : ∃ t, X.mg x = some (.int i t)) (hg : Gl X x := by rfl) (hd : (x == ("__debug__" : Str)) = false := by decide) : PE X (.Name x pos) (tC (.int i)) := by
  obtain ⟨t, e⟩ := h
  exact pe_glob hg e ⟨t, rfl⟩ hd
theorem pgs (h : ∃ t, X.mg x = some (.str z t)) (hg : Gl X x := by rfl) (hd : (x == ("__debug__" : Str)) = false := by decide) : PE X (.Name x pos) (tC (.str z)) := by
  obtain ⟨t, e⟩ := h
  exact pe_glob hg e ⟨t, rfl⟩ hd
end
theorem pos7 : (0 : Int) < 10007 := by decide
theorem cmul_small {i j : Int} (h : 0 ≤ i ∧ i < 100000000) : CMul i j := .inl ⟨by omega, by omega⟩

/-! ### tests that change nothing -/
def PB (t : TT) (σ : L2.St) (H : Hp) (c : Bool) : Prop := ∀ Q : Bool → Hp → Prop, Q c H → t σ H Q
section
variable {σ : L2.St} {H : Hp} {i j : Nat} {a c : Int} {x y : V} {u v : Bool} {t t' : TT} {s s' : TS} {D : Ends}
theorem pb_eqI (hs : σ[i]? = some (some (.int a))) : PB (tTest (tOp rEq (tVar i) (tC (.int c)))) σ H (decide (V.int a = V.int c)) := fun _ q => ⟨_, hs, rfl, _, rfl, q⟩
theorem pb_neI (hs : σ[i]? = some (some (.int a))) : PB (tTest (tOp rNe (tVar i) (tC (.int c)))) σ H (!decide (V.int a = V.int c)) := fun _ q => ⟨_, hs, rfl, _, rfl, q⟩
theorem pb_eqV {i j : Nat} (hs : σ[i]? = some (some x)) (ht : σ[j]? = some (some y)) (h : scal x y = true) : PB (tTest (tOp rEq (tVar i) (tVar j))) σ H (decide (x = y)) := fun _ q => ⟨_, hs, _, ht, h, _, rfl, q⟩
theorem pb_eqS {z w : Str} (hs : σ[i]? = some (some (.str z))) : PB (tTest (tOp rEq (tVar i) (tC (.str w)))) σ H (decide (V.str z = V.str w)) := fun _ q => ⟨_, hs, rfl, _, rfl, q⟩
theorem pb_neS {z w : Str} (hs : σ[i]? = some (some (.str z))) : PB (tTest (tOp rNe (tVar i) (tC (.str w)))) σ H (!decide (V.str z = V.str w)) := fun _ q => ⟨_, hs, rfl, _, rfl, q⟩
theorem pb_lt (hs : σ[i]? = some (some (.int a))) : PB (tTest (tOp rLt (tVar i) (tC (.int c)))) σ H (decide (a < c)) := fun _ q => ⟨_, hs, _, _, rfl, rfl, _, rfl, q⟩
theorem pb_var (hs : σ[i]? = some (some (.bl u))) : PB (tB (tVar i)) σ H u := fun _ q => ⟨_, hs, u, rfl, q⟩
theorem pb_and (h : PB t σ H u) (h' : PB t' σ H v) : PB (tAnd t t') σ H (u && v) := fun Q q => h _ (by
  cases u with
  | true => exact ifT rfl (h' _ q)
  | false => exact ifF rfl q)
theorem pb_or (h : PB t σ H u) (h' : PB t' σ H v) : PB (tOr t t') σ H (u || v) := fun Q q => h _ (by
  cases u with
  | true => exact ifT rfl q
  | false => exact ifF rfl (h' _ q))
theorem pb_not (h : PB t σ H u) : PB (tNot t) σ H (!u) := fun Q q => h _ q
theorem pb_is {w : Bool} (h : PB t σ H u) (e : u = w) : PB t σ H w := by rw [← e]; exact h
theorem r_if (h : PB t σ H u) (h1 : u = true → s D σ H) (h2 : u = false → s' D σ H) : tIfS t s s' D σ H := h _ (ifB h1 h2)
theorem r_ifT (h : PB t σ H true) (h1 : s D σ H) : tIfS t s s' D σ H := h _ (ifT rfl h1)
theorem r_ifF (h : PB t σ H false) (h1 : s' D σ H) : tIfS t s s' D σ H := h _ (ifF rfl h1)
end
/-! ### joined -/
def spJoined : Sp := fun vs H Q _ => ∃ (o : BOp) (i j : Int), vs = [.str o.s, .int i, .int j] ∧ 0 ≤ i ∧ i < 10007 ∧ 0 ≤ j ∧ j < 10007 ∧ Q (.int (o.ap i j)) H
abbrev N_joined : List Str := ["word", "one", "two"]
theorem rd_joined {K : PySem.W.Frag} (vs : List V) (H : Hp) (Q : VK) (E : XK) (h : spJoined vs H Q E) : t_joined K { nx := fun _ H' => Q .non H', rt := Q } (start N_joined vs) H := by
  obtain ⟨o, i, j, rfl, h1, h2, h3, h4, q⟩ := h
  cases o with
  | add =>
    refine ⟨_, rfl, rfl, _, rfl, ifT rfl ?_⟩
    exact ⟨_, rfl, _, rfl, _, _, rfl, rfl, _, _, rfl, rfl, pos7, q⟩
  | sub =>
    refine ⟨_, rfl, rfl, _, rfl, ifF rfl ⟨_, rfl, rfl, _, rfl, ifT rfl ?_⟩⟩
    exact ⟨_, rfl, _, rfl, _, _, rfl, rfl, _, _, rfl, rfl, pos7, q⟩
  | mul =>
    refine ⟨_, rfl, rfl, _, rfl, ifF rfl ⟨_, rfl, rfl, _, rfl, ifF rfl ⟨_, rfl, rfl, _, rfl, ifT rfl ?_⟩⟩⟩
    exact ⟨_, rfl, _, rfl, _, _, rfl, rfl, cmul_small ⟨by omega, by omega⟩, _, _, rfl, rfl, pos7, q⟩
  | less =>
    refine ⟨_, rfl, rfl, _, rfl, ifF rfl ⟨_, rfl, rfl, _, rfl, ifF rfl ⟨_, rfl, rfl, _, rfl, ifF rfl ?_⟩⟩⟩
    refine ⟨_, rfl, _, rfl, _, _, rfl, rfl, .inr ⟨_, rfl, ?_⟩⟩
    have e : (if decide (i < j) = true then (1 : Int) else 0) = BOp.less.ap i j := by
      show (if decide (i < j) = true then (1 : Int) else 0) = if i < j then 1 else 0
      by_cases c : i < j
      · rw [if_pos c, if_pos (dT c)]
      · rw [if_neg c, if_neg (by rw [dF c]; decide)]
    rw [e]
    exact q
/-! ### value_of -/
def spVal (K : PySem.W.Frag) (n : Nat) : Sp := fun vs H Q _ => ∃ (v : V) (s : Addr) (e : Ex) (σ : List Int), vs = [v, .ref s] ∧ Tp K H v e.d ∧ e.Wf ∧ e.dep ≤ n ∧ SqL K H s (σ.map V.int) ∧ InR σ ∧ Q (.int (e.val σ)) H
theorem spVal_zero {K : PySem.W.Frag} (vs : List V) (H : Hp) (Q : VK) (E : XK) : ¬ spVal K 0 vs H Q E := by
  rintro ⟨v, s, e, σ, _, _, _, h, _⟩
  cases e <;> simp [Ex.dep] at h
abbrev N_value_of : List Str := ["part", "slots"]
theorem slot_get {σ : List Int} {k : Nat} (r : InR σ) (h : k < 8) : (σ.map V.int)[k]? = some (.int (σ.getD k 0)) := by
  have hk : k < σ.length := by rw [r.1]; exact h
  rw [List.getElem?_map, List.getD_eq_getElem?_getD, List.getElem?_eq_getElem hk]
  rfl
theorem rd_value_of {K : PySem.W.Frag} {n : Nat} (vs : List V) (H : Hp) (Q : VK) (E : XK) (h : spVal K (n + 1) vs H Q E) : t_value_of K spJoined (spVal K n) { nx := fun _ H' => Q .non H', rt := Q } (start N_value_of vs) H := by
  obtain ⟨v, s, e, σ, rfl, ht, wf, hd, hs, hr, q⟩ := h
  cases e with
  | num k =>
    obtain ⟨a, x0, x1, rfl, hT, h0, h1⟩ := ht.tup2
    cases h0.strE; cases h1.intE
    refine rd_ixT (j := 0) rfl hT rfl ⟨rfl, _, rfl, ifT rfl ?_⟩
    exact rd_ixT (j := 1) rfl hT rfl q
  | var k =>
    obtain ⟨a, x0, x1, rfl, hT, h0, h1⟩ := ht.tup2
    cases h0.strE; cases h1.intE
    refine rd_ixT (j := 0) rfl hT rfl ⟨rfl, _, rfl, ifF rfl ?_⟩
    refine rd_ixT (j := 0) rfl hT rfl ⟨rfl, _, rfl, ifT rfl ?_⟩
    refine ⟨_, rfl, rd_ixT (j := 1) rfl hT rfl ⟨s, _, _, _, rfl, rfl, hs, atI_nat (slot_get hr wf), q⟩⟩
  | bin o e1 e2 =>
    obtain ⟨a, x0, x1, x2, rfl, hT, h0, h1, h2⟩ := ht.tup3
    cases h0.strE
    have hd' : max e1.dep e2.dep + 1 ≤ n + 1 := hd
    obtain ⟨w1, w2⟩ : e1.Wf ∧ e2.Wf := wf
    obtain ⟨a1, a2⟩ := Ex.val_in hr w1
    obtain ⟨b1, b2⟩ := Ex.val_in hr w2
    refine rd_ixT (j := 0) rfl hT rfl ⟨rfl, _, rfl, ifF (dF BOp.ne.1) ?_⟩
    refine rd_ixT (j := 0) rfl hT rfl ⟨rfl, _, rfl, ifF (dF BOp.ne.2) ?_⟩
    refine rd_ixT (j := 0) rfl hT rfl ?_
    refine rd_ixT (j := 1) rfl hT rfl ⟨_, rfl, x1, s, e1, σ, rfl, h1, w1, by omega, hs, hr, ?_⟩
    refine rd_ixT (j := 2) rfl hT rfl ⟨_, rfl, x2, s, e2, σ, rfl, h2, w2, by omega, hs, hr, ?_⟩
    exact ⟨o, _, _, rfl, a1, a2, b1, b2, q⟩
/-! ### _law_value -/
abbrev N_law_value : List Str := ["_law_part_here", "_law_slots", "_law_word", "_law_one", "_law_two"]
theorem rd_law_value {K : PySem.W.Frag} {n : Nat} (vs : List V) (H : Hp) (Q : VK) (E : XK) (h : spVal K (n + 1) vs H Q E) : t_law_value K (spVal K n) { nx := fun _ H' => Q .non H', rt := Q } (start N_law_value vs) H := by
  obtain ⟨v, s, e, σ, rfl, ht, wf, hd, hs, hr, q⟩ := h
  cases e with
  | num k =>
    obtain ⟨a, x0, x1, rfl, hT, h0, h1⟩ := ht.tup2
    cases h0.strE; cases h1.intE
    refine rd_ixT (j := 0) rfl hT rfl ⟨_, rfl, rfl, _, rfl, ifT rfl ?_⟩
    exact rd_ixT (j := 1) rfl hT rfl q
  | var k =>
    obtain ⟨a, x0, x1, rfl, hT, h0, h1⟩ := ht.tup2
    cases h0.strE; cases h1.intE
    refine rd_ixT (j := 0) rfl hT rfl ⟨_, rfl, rfl, _, rfl, ifF rfl ⟨_, rfl, rfl, _, rfl, ifT rfl ?_⟩⟩
    refine ⟨_, rfl, rd_ixT (j := 1) rfl hT rfl ⟨s, _, _, _, rfl, rfl, hs, atI_nat (slot_get hr wf), q⟩⟩
  | bin o e1 e2 =>
    obtain ⟨a, x0, x1, x2, rfl, hT, h0, h1, h2⟩ := ht.tup3
    cases h0.strE
    have hd' : max e1.dep e2.dep + 1 ≤ n + 1 := hd
    obtain ⟨w1, w2⟩ : e1.Wf ∧ e2.Wf := wf
    obtain ⟨a1, a2⟩ := Ex.val_in hr w1
    obtain ⟨b1, b2⟩ := Ex.val_in hr w2
    refine rd_ixT (j := 0) rfl hT rfl ⟨_, rfl, rfl, _, rfl, ifF (dF BOp.ne.1) ⟨_, rfl, rfl, _, rfl, ifF (dF BOp.ne.2) ?_⟩⟩
    refine rd_ixT (j := 1) rfl hT rfl ⟨_, rfl, x1, s, e1, σ, rfl, h1, w1, by omega, hs, hr, ?_⟩
    refine rd_ixT (j := 2) rfl hT rfl ⟨_, rfl, x2, s, e2, σ, rfl, h2, w2, by omega, hs, hr, ?_⟩
    cases o with
    | less =>
      refine ⟨_, rfl, rfl, _, rfl, ifT rfl ⟨_, rfl, _, rfl, _, _, rfl, rfl, .inr ⟨_, rfl, ?_⟩⟩⟩
      have e : (if decide (e1.val σ < e2.val σ) = true then (1 : Int) else 0) = BOp.less.ap (e1.val σ) (e2.val σ) := by
        show (if decide (e1.val σ < e2.val σ) = true then (1 : Int) else 0) = if e1.val σ < e2.val σ then 1 else 0
        by_cases c : e1.val σ < e2.val σ
        · rw [if_pos c, if_pos (dT c)]
        · rw [if_neg c, if_neg (by rw [dF c]; decide)]
      rw [e]
      exact q
    | add =>
      refine ⟨_, rfl, rfl, _, rfl, ifF rfl ⟨_, rfl, rfl, _, rfl, ifT rfl ?_⟩⟩
      exact ⟨_, rfl, _, rfl, _, _, rfl, rfl, _, _, rfl, rfl, pos7, q⟩
    | sub =>
      refine ⟨_, rfl, rfl, _, rfl, ifF rfl ⟨_, rfl, rfl, _, rfl, ifF rfl ⟨_, rfl, rfl, _, rfl, ifT rfl ?_⟩⟩⟩
      refine ⟨_, rfl, _, _, rfl, rfl, cmul_small ⟨by decide, by decide⟩, _, _, rfl, rfl, _, rfl, _, _, rfl, rfl, _, _, rfl, rfl, pos7, ?_⟩
      have e : (e1.val σ + 10007 * 10007 - e2.val σ) % 10007 = (e1.val σ - e2.val σ) % 10007 := by omega
      show Q (.int ((e1.val σ + 10007 * 10007 - e2.val σ) % 10007)) H
      rw [e]
      exact q
    | mul =>
      refine ⟨_, rfl, rfl, _, rfl, ifF rfl ⟨_, rfl, rfl, _, rfl, ifF rfl ⟨_, rfl, rfl, _, rfl, ifF rfl ?_⟩⟩⟩
      exact ⟨_, rfl, _, rfl, _, _, rfl, rfl, cmul_small ⟨by omega, by omega⟩, _, _, rfl, rfl, pos7, q⟩
/-! ### _law_part: some expression, as deep at the most -/
def spPart (K : PySem.W.Frag) (n : Nat) : Sp := fun vs H Q _ => ∃ (b : Addr) (l : List Int) (d : Nat), vs = [.ref b, .int (d : Int)] ∧ H b = some (.lst (l.map V.int)) ∧ d < n ∧
  ∀ (v : V) (e : Ex) (l' : List Int) (H' : Hp), e.Wf → e.dep ≤ d + 1 → Tp K H' v e.d → H' b = some (.lst (l'.map V.int)) → Kp (fun x => x = b) H H' → Q v H'
theorem spPart_zero {K : PySem.W.Frag} (vs : List V) (H : Hp) (Q : VK) (E : XK) : ¬ spPart K 0 vs H Q E := by
  rintro ⟨b, l, d, _, _, h, _⟩
  omega
abbrev N_law_part : List Str := ["_law_box", "_law_deep", "_law_kind", "_law_word", "_law_one"]
theorem bd {b : Addr} {d : Nat} (h : 0 < d) : [V.ref b, V.int ((d : Int) - 1)] = [V.ref b, V.int ((d - 1 : Nat) : Int)] := by
  rw [show ((d : Int) - 1) = ((d - 1 : Nat) : Int) by omega]
theorem opw {r : Int} (h0 : 0 ≤ r) (h4 : r < 4) : ∃ o : BOp, atI ([.str "add", .str "sub", .str "mul", .str "less"] : List V) r = some (.str o.s) := by
  have : r = 0 ∨ r = 1 ∨ r = 2 ∨ r = 3 := by omega
  rcases this with rfl | rfl | rfl | rfl
  · exact ⟨.add, rfl⟩
  · exact ⟨.sub, rfl⟩
  · exact ⟨.mul, rfl⟩
  · exact ⟨.less, rfl⟩
theorem rd_law_part {K : PySem.W.Frag} {n : Nat} (vs : List V) (H : Hp) (Q : VK) (E : XK) (h : spPart K (n + 1) vs H Q E) : t_law_part K spTake (spPart K n) { nx := fun _ H' => Q .non H', rt := Q } (start N_law_part vs) H := by
  obtain ⟨b, l, d, rfl, hb, hd, q⟩ := h
  refine ⟨_, rfl, b, l, 8, rfl, hb, by decide, by decide, fun r l1 H1 r0 r1 hb1 kp1 => ?_⟩
  have small : ∀ (m : Int), 0 < m → m ≤ 1000 → (tRet (tTup (tCons (tC (.str "num")) (tCons (tCall spTake [] E0 (tCons (tVar 0) (tCons (tC (.int m)) (tNil)))) (tNil))))) { nx := fun _ H' => Q .non H', rt := Q } [some (.ref b), some (.int (d : Int)), some (.int r), none, none] H1 := by
    intro m m0 m1
    refine ⟨_, rfl, b, l1, m, rfl, hb1, m0, by omega, fun x l2 H2 x0 x1 hb2 kp2 => ⟨(by show 2 ≤ sizeLine; decide), fun p hp => ?_⟩⟩
    refine q (.ref p) (.num x) l2 _ ⟨x0, by omega⟩ (by show 1 ≤ d + 1; omega) (Tp.mk hp (.cons (.str _) (.cons (.int _) .nil))) (by rw [upd_ne (ne_of_none hb2 hp)]; exact hb2) ((kp1.trans kp2).trans (Kp.new hp))
  refine ⟨_, rfl, _, _, rfl, rfl, _, rfl, ifB (fun _ => small 1000 (by decide) (by decide)) fun _ => ?_⟩
  refine ⟨_, rfl, rfl, _, rfl, ifB (fun _ => small 3 (by decide) (by decide)) fun d0 => ?_⟩
  refine ⟨_, rfl, rfl, _, rfl, ifB (fun _ => small 3 (by decide) (by decide)) fun _ => ?_⟩
  have hd0 : 0 < d := by
    have := of_decide_eq_false d0
    by_cases z : d = 0
    · subst z; exact absurd rfl this
    · omega
  refine ⟨_, rfl, _, _, rfl, rfl, _, rfl, ifB (fun _ => ?_) fun _ => ?_⟩
  · refine ⟨_, rfl, b, l1, 8, rfl, hb1, by decide, by decide, fun x l2 H2 x0 x1 hb2 kp2 => ⟨(by show 2 ≤ sizeLine; decide), fun p hp => ?_⟩⟩
    obtain ⟨k, rfl⟩ : ∃ k : Nat, x = (k : Int) := ⟨x.toNat, by omega⟩
    exact q (.ref p) (.var k) l2 _ (by show k < 8; omega) (by show 1 ≤ d + 1; omega) (Tp.mk hp (.cons (.str _) (.cons (.int _) .nil))) (by rw [upd_ne (ne_of_none hb2 hp)]; exact hb2) ((kp1.trans kp2).trans (Kp.new hp))
  · refine ⟨(by show 4 ≤ sizeLine; decide), fun p hp => ?_⟩
    have hb2 : L2.upd H1 p (.lst [.str "add", .str "sub", .str "mul", .str "less"]) b = some (.lst (l1.map V.int)) := by rw [upd_ne (ne_of_none hb1 hp)]; exact hb1
    refine ⟨_, rfl, b, l1, 4, rfl, hb2, by decide, by decide, fun x l2 H2 x0 x1 hb3 kp3 => ?_⟩
    have pb : p ≠ b := fun e => by rw [e, hb1] at hp; cases hp
    obtain ⟨o, ho⟩ := opw x0 x1
    refine ⟨p, _, x, _, rfl, rfl, SqL.of (kp3 p _ upd_same pb), ho, ?_⟩
    have kpA := (kp1.trans (Kp.new hp)).trans kp3
    refine ⟨_, rfl, _, rfl, _, _, rfl, rfl, b, l2, d - 1, bd hd0, hb3, by omega, fun v1 e1 l3 H3 w1 p1 t1 hb4 kp4 => ?_⟩
    refine ⟨_, rfl, _, rfl, _, rfl, _, rfl, _, _, rfl, rfl, b, l3, d - 1, bd hd0, hb4, by omega, fun v2 e2 l4 H4 w2 p2 t2 hb5 kp5 => ?_⟩
    refine ⟨(by show 3 ≤ sizeLine; decide), fun u hu => ?_⟩
    refine q (.ref u) (.bin o e1 e2) l4 _ ⟨w1, w2⟩ (by show max e1.dep e2.dep + 1 ≤ d + 1; omega) (Tp.mk hu (.cons (.str _) (.cons (t1.mono (kp5.tk1 hb4)) (.cons t2 .nil)))) (by rw [upd_ne (ne_of_none hb5 hu)]; exact hb5) (((kpA.trans kp4).trans kp5).trans (Kp.new hu))
end Lp

/-! Ls: statements and programs as trees, as data; what is well formed. -/
namespace Lp
open PySem PySem.Spec PyProof.Rows L2

mutual
inductive Sm where
  | say (e : Ex)
  | set (k : Nat) (e : Ex)
  | row (ps : Sms)
  | ife (e : Ex) (s t : Sm)
  | whl (e : Ex) (s : Sm)
  | brk
  | cnt
  | ret (e : Ex)
  | call (k f : Nat) (ps : List Ex) (m : Int)
  | rais (kd : Nat) (e : Ex) (m : Int)
  | again
  | tri (s : Sm) (hs : Hds)
  | cln (s c : Sm)
inductive Sms where
  | nil
  | cons (s : Sm) (r : Sms)
inductive Hds where
  | nil
  | cons (k : Option Nat) (x : Nat) (t : Sm) (r : Hds)
end
def kindD : Option Nat → PyData
  | none => .none
  | some j => .int (j : Int)
mutual
def Sm.d : Sm → PyData
  | .say e => .tuple [.str "say", e.d]
  | .set k e => .tuple [.str "set", .int (k : Int), e.d]
  | .row ps => .tuple [.str "row", .tuple ps.ds]
  | .ife e s t => .tuple [.str "if", e.d, s.d, t.d]
  | .whl e s => .tuple [.str "while", e.d, s.d]
  | .brk => .tuple [.str "break"]
  | .cnt => .tuple [.str "continue"]
  | .ret e => .tuple [.str "return", e.d]
  | .call k f ps m => .tuple [.str "call", .int (k : Int), .int (f : Int), .tuple (ps.map Ex.d), .int m]
  | .rais kd e m => .tuple [.str "raise", .int (kd : Int), e.d, .int m]
  | .again => .tuple [.str "again"]
  | .tri s hs => .tuple [.str "try", s.d, .tuple hs.ds]
  | .cln s c => .tuple [.str "clean", s.d, c.d]
def Sms.ds : Sms → List PyData
  | .nil => []
  | .cons s r => s.d :: r.ds
def Hds.ds : Hds → List PyData
  | .nil => []
  | .cons k x t r => .tuple [kindD k, .int (x : Int), t.d] :: r.ds
end
def Sms.ofL : List Sm → Sms
  | [] => .nil
  | s :: r => .cons s (Sms.ofL r)
def Hds.ofL : List (Option Nat × Nat × Sm) → Hds
  | [] => .nil
  | (k, x, t) :: r => .cons k x t (Hds.ofL r)
def hdD (h : Option Nat × Nat × Sm) : PyData := .tuple [kindD h.1, .int (h.2.1 : Int), h.2.2.d]
theorem Sms.ds_ofL : ∀ l : List Sm, (Sms.ofL l).ds = l.map Sm.d
  | [] => rfl
  | s :: r => by show s.d :: (Sms.ofL r).ds = _; rw [Sms.ds_ofL r]; rfl
theorem Hds.ds_ofL : ∀ l : List (Option Nat × Nat × Sm), (Hds.ofL l).ds = l.map hdD
  | [] => rfl
  | (k, x, t) :: r => by show hdD (k, x, t) :: (Hds.ofL r).ds = _; rw [Hds.ds_ofL r]; rfl

/-! ### depth, rows -/
mutual
def Sm.dep : Sm → Nat
  | .row ps => ps.dep + 1
  | .ife _ s t => max s.dep t.dep + 1
  | .whl _ s => s.dep + 1
  | .tri s hs => max s.dep hs.dep + 1
  | .cln s c => max s.dep c.dep + 1
  | _ => 1
def Sms.dep : Sms → Nat
  | .nil => 0
  | .cons s r => max s.dep r.dep
def Hds.dep : Hds → Nat
  | .nil => 0
  | .cons _ _ t r => max t.dep r.dep
end
def Ex.len : Ex → Nat
  | .num _ => 1
  | .var _ => 1
  | .bin _ a b => a.len + b.len + 1
def exsLen : List Ex → Nat
  | [] => 0
  | e :: r => e.len + exsLen r
mutual
/-- how many rows a statement is coded as -/
def Sm.len : Sm → Nat
  | .say e => e.len + 1
  | .set _ e => e.len + 1
  | .row ps => ps.len
  | .ife e s t => e.len + 1 + s.len + 1 + t.len
  | .whl e s => e.len + 2 + s.len + 1
  | .brk => 1
  | .cnt => 1
  | .ret e => e.len + 1
  | .call _ _ ps _ => exsLen ps + 2
  | .rais _ e _ => e.len + 1
  | .again => 1
  | .tri s hs => s.len + 1 + hs.len
  | .cln s c => s.len + 2 + c.len + 1
def Sms.len : Sms → Nat
  | .nil => 0
  | .cons s r => s.len + r.len
def Hds.len : Hds → Nat
  | .nil => 0
  | .cons _ _ t r => 2 + t.len + 2 + r.len
end
theorem Ex.len_le : ∀ {e : Ex} {n : Nat}, e.dep ≤ n + 1 → e.len ≤ 2 ^ (n + 1) - 1
  | .num _, n, _ => by show 1 ≤ _; have := Nat.one_le_two_pow (n := n); rw [Nat.pow_succ]; omega
  | .var _, n, _ => by show 1 ≤ _; have := Nat.one_le_two_pow (n := n); rw [Nat.pow_succ]; omega
  | .bin _ a b, n, h => by
    have h' : max a.dep b.dep + 1 ≤ n + 1 := h
    cases n with
    | zero => cases a <;> simp [Ex.dep] at h' <;> omega
    | succ n =>
      have h1 := Ex.len_le (e := a) (n := n) (by omega)
      have h2 := Ex.len_le (e := b) (n := n) (by omega)
      show a.len + b.len + 1 ≤ _
      have := Nat.one_le_two_pow (n := n + 1)
      rw [Nat.pow_succ 2 (n + 1)]
      omega
theorem exsLen_le : ∀ {ps : List Ex} {n : Nat}, (∀ e ∈ ps, e.len ≤ n) → exsLen ps ≤ ps.length * n
  | [], n, _ => by simp [exsLen]
  | e :: r, n, h => by
    have h1 := h e List.mem_cons_self
    have h2 := exsLen_le (ps := r) (n := n) fun x hx => h x (List.mem_cons_of_mem _ hx)
    show e.len + exsLen r ≤ (r.length + 1) * n
    rw [Nat.succ_mul]
    omega

/-! ### well formed: cs the functions' counts, nk how many kinds, turn: within a while, hand: within a handler -/
mutual
def Sm.Wf (cs : List Nat) (nk : Nat) (turn hand : Bool) : Sm → Prop
  | .say e => e.Wf ∧ e.dep ≤ 5
  | .set k e => k < 8 ∧ e.Wf ∧ e.dep ≤ 5
  | .row ps => ps.Wf cs nk turn hand
  | .ife e s t => (e.Wf ∧ e.dep ≤ 5) ∧ s.Wf cs nk turn hand ∧ t.Wf cs nk turn hand
  | .whl e s => (e.Wf ∧ e.dep ≤ 5) ∧ s.Wf cs nk true hand
  | .brk => turn = true
  | .cnt => turn = true
  | .ret e => e.Wf ∧ e.dep ≤ 5
  | .call k f ps m => k < 8 ∧ cs[f]? = some ps.length ∧ ps.length ≤ 3 ∧ (∀ e ∈ ps, e.Wf ∧ e.dep ≤ 5) ∧ 0 ≤ m ∧ m < 1000
  | .rais kd e m => kd < nk ∧ (e.Wf ∧ e.dep ≤ 5) ∧ 0 ≤ m ∧ m < 1000
  | .again => hand = true
  | .tri s hs => s.Wf cs nk turn hand ∧ hs.Wf cs nk turn
  | .cln s c => s.Wf cs nk turn hand ∧ c.Wf cs nk turn hand
def Sms.Wf (cs : List Nat) (nk : Nat) (turn hand : Bool) : Sms → Prop
  | .nil => True
  | .cons s r => s.Wf cs nk turn hand ∧ r.Wf cs nk turn hand
def Hds.Wf (cs : List Nat) (nk : Nat) (turn : Bool) : Hds → Prop
  | .nil => True
  | .cons k x t r => (∀ j, k = some j → j < nk) ∧ x < 8 ∧ t.Wf cs nk turn true ∧ r.Wf cs nk turn
end
theorem Sms.wf_ofL {cs : List Nat} {nk : Nat} {turn hand : Bool} : ∀ {l : List Sm}, (∀ s ∈ l, s.Wf cs nk turn hand) → (Sms.ofL l).Wf cs nk turn hand
  | [], _ => trivial
  | s :: r, h => ⟨h s List.mem_cons_self, Sms.wf_ofL fun x hx => h x (List.mem_cons_of_mem _ hx)⟩
theorem Sms.dep_ofL {n : Nat} : ∀ {l : List Sm}, (∀ s ∈ l, s.dep ≤ n) → (Sms.ofL l).dep ≤ n
  | [], _ => Nat.zero_le _
  | s :: r, h => Nat.max_le.mpr ⟨h s List.mem_cons_self, Sms.dep_ofL fun x hx => h x (List.mem_cons_of_mem _ hx)⟩
theorem Sms.len_ofL {n : Nat} : ∀ {l : List Sm}, (∀ s ∈ l, s.len ≤ n) → (Sms.ofL l).len ≤ l.length * n
  | [], _ => Nat.zero_le _
  | s :: r, h => by
    have h1 := h s List.mem_cons_self
    have h2 := Sms.len_ofL (l := r) (n := n) fun x hx => h x (List.mem_cons_of_mem _ hx)
    show s.len + (Sms.ofL r).len ≤ (r.length + 1) * n
    rw [Nat.succ_mul]
    omega
def HdWf (cs : List Nat) (nk : Nat) (turn : Bool) (h : Option Nat × Nat × Sm) : Prop := (∀ j, h.1 = some j → j < nk) ∧ h.2.1 < 8 ∧ h.2.2.Wf cs nk turn true
theorem Hds.wf_ofL {cs : List Nat} {nk : Nat} {turn : Bool} : ∀ {l : List (Option Nat × Nat × Sm)}, (∀ h ∈ l, HdWf cs nk turn h) → (Hds.ofL l).Wf cs nk turn
  | [], _ => trivial
  | (k, x, t) :: r, h => by
    obtain ⟨h1, h2, h3⟩ := h (k, x, t) List.mem_cons_self
    exact ⟨h1, h2, h3, Hds.wf_ofL fun y hy => h y (List.mem_cons_of_mem _ hy)⟩
theorem Hds.dep_ofL {n : Nat} : ∀ {l : List (Option Nat × Nat × Sm)}, (∀ h ∈ l, h.2.2.dep ≤ n) → (Hds.ofL l).dep ≤ n
  | [], _ => Nat.zero_le _
  | (k, x, t) :: r, h => Nat.max_le.mpr ⟨h (k, x, t) List.mem_cons_self, Hds.dep_ofL fun y hy => h y (List.mem_cons_of_mem _ hy)⟩
theorem Hds.len_ofL {n : Nat} : ∀ {l : List (Option Nat × Nat × Sm)}, (∀ h ∈ l, h.2.2.len ≤ n) → (Hds.ofL l).len ≤ l.length * (n + 4)
  | [], _ => Nat.zero_le _
  | (k, x, t) :: r, h => by
    have h1 := h (k, x, t) List.mem_cons_self
    have h2 := Hds.len_ofL (l := r) (n := n) fun y hy => h y (List.mem_cons_of_mem _ hy)
    show 2 + t.len + 2 + (Hds.ofL r).len ≤ (r.length + 1) * (n + 4)
    rw [Nat.succ_mul]
    have h1' : t.len ≤ n := h1
    omega

/-! ### programs -/
structure Pg where
  kinds : List (Option Nat)
  funs : List (Nat × Sm)
def funD (f : Nat × Sm) : PyData := .tuple [.int (f.1 : Int), f.2.d]
def Pg.d (p : Pg) : PyData := .tuple [.tuple (p.kinds.map kindD), .tuple (p.funs.map funD)]
def Pg.cs (p : Pg) : List Nat := p.funs.map (·.1)
structure Pg.Wf (p : Pg) : Prop where
  kinds : WfK p.kinds
  k0 : 0 < p.kinds.length
  k8 : p.kinds.length ≤ 8
  f0 : 0 < p.funs.length
  f8 : p.funs.length ≤ 8
  many : ∀ f ∈ p.funs, f.1 ≤ 3
  body : ∀ f ∈ p.funs, f.2.Wf p.cs p.kinds.length false false
/-- as the laws' programs are: five deep, of at most 1,900 rows a function -/
structure Pg.Small (p : Pg) (D R : Nat) : Prop where
  dep : ∀ f ∈ p.funs, f.2.dep ≤ D
  len : ∀ f ∈ p.funs, f.2.len ≤ R
theorem tp_kinds {K : PySem.W.Frag} {H : Hp} : ∀ ks : List (Option Nat), TpAll K H (ks.map kindV) (ks.map kindD)
  | [] => .nil
  | none :: r => .cons .non (tp_kinds r)
  | some j :: r => .cons (.int _) (tp_kinds r)
theorem kinds_of {K : PySem.W.Frag} {H : Hp} : ∀ {ks : List (Option Nat)} {vs : List V}, TpAll K H vs (ks.map kindD) → vs = ks.map kindV
  | [], _, h => h.nilE
  | none :: r, _, h => by
    obtain ⟨v, vs, rfl, h1, h2⟩ := TpAll.consE h
    rw [h1.nonE, kinds_of h2]; rfl
  | some j :: r, _, h => by
    obtain ⟨v, vs, rfl, h1, h2⟩ := TpAll.consE h
    rw [h1.intE, kinds_of h2]; rfl
end Lp

/-! L3g: the law's drawing of statements and programs: some well-formed program comes. -/
namespace Lp
open PySem PySem.Spec PyProof.Rows L2
def t_law_call (K : PySem.W.Frag) (sp_law_take : Sp) (sp_law_part : Sp) : TS :=
  tSeq (tAsg (tCall sp_law_take [] E0 (tCons (tVar 0) (tCons (tCB (rLenQ K) (tCons (tOp (rIxL K) (tVar 1) (tC (.int 0))) (tNil))) (tNil)))) (gName 2)) (tSeq (tAsg (tCall sp_law_take [] E0 (tCons (tVar 0) (tCons (tC (.int 8)) (tNil)))) (gName 3)) (tSeq (tAsg (tLc (iRng1 (tCons (tOp (rIxL K) (tOp (rIxL K) (tVar 1) (tC (.int 0))) (tVar 2)) (tNil))) (gName 5) (tYes) (tCall sp_law_part [] E0 (tCons (tVar 0) (tCons (tC (.int 1)) (tNil)))) [5]) (gName 4)) (tRet (tTup (tCons (tC (.str "call")) (tCons (tVar 3) (tCons (tVar 2) (tCons (tCB (rTupOf K) (tCons (tVar 4) (tNil))) (tCons (tCall sp_law_take [] E0 (tCons (tVar 0) (tCons (tC (.int 1000)) (tNil)))) (tNil))))))))))

def t_law_simple (K : PySem.W.Frag) (sp_law_take : Sp) (sp_law_call : Sp) (sp_law_part : Sp) : TS :=
  tSeq (tAsg (tCall sp_law_take [] E0 (tCons (tVar 0) (tCons (tC (.int 9)) (tNil)))) (gName 4)) (tSeq (tIfS (tAnd (tTest (tOp rEq (tVar 4) (tC (.int 8)))) (tB (tVar 3))) (tRet (tTup (tCons (tC (.str "again")) (tNil)))) (tNext)) (tSeq (tIfS (tAnd (tTest (tOp rEq (tVar 4) (tC (.int 7)))) (tB (tVar 2))) (tRet (tTup (tCons (tOp (rIxL K) (tLst (tCons (tC (.str "break")) (tCons (tC (.str "continue")) (tNil)))) (tCall sp_law_take [] E0 (tCons (tVar 0) (tCons (tC (.int 2)) (tNil))))) (tNil)))) (tNext)) (tSeq (tIfS (tTest (tOp rEq (tVar 4) (tC (.int 6)))) (tRet (tCall sp_law_call [] E0 (tCons (tVar 0) (tCons (tVar 1) (tNil))))) (tNext)) (tSeq (tIfS (tTest (tOp rEq (tVar 4) (tC (.int 5)))) (tSeq (tAsg (tCall sp_law_part [] E0 (tCons (tVar 0) (tCons (tC (.int 1)) (tNil)))) (gName 5)) (tRet (tTup (tCons (tC (.str "raise")) (tCons (tCall sp_law_take [] E0 (tCons (tVar 0) (tCons (tOp (rIxL K) (tVar 1) (tC (.int 1))) (tNil)))) (tCons (tVar 5) (tCons (tCall sp_law_take [] E0 (tCons (tVar 0) (tCons (tC (.int 1000)) (tNil)))) (tNil)))))))) (tNext)) (tSeq (tIfS (tTest (tOp rEq (tVar 4) (tC (.int 4)))) (tRet (tTup (tCons (tC (.str "return")) (tCons (tCall sp_law_part [] E0 (tCons (tVar 0) (tCons (tC (.int 2)) (tNil)))) (tNil))))) (tNext)) (tSeq (tIfS (tTest (tOp rEq (tVar 4) (tC (.int 3)))) (tRet (tTup (tCons (tC (.str "row")) (tCons (tTup (tNil)) (tNil))))) (tNext)) (tSeq (tIfS (tTest (tOp rEq (tVar 4) (tC (.int 2)))) (tRet (tTup (tCons (tC (.str "set")) (tCons (tCall sp_law_take [] E0 (tCons (tVar 0) (tCons (tC (.int 8)) (tNil)))) (tCons (tCall sp_law_part [] E0 (tCons (tVar 0) (tCons (tC (.int 2)) (tNil)))) (tNil)))))) (tNext)) (tRet (tTup (tCons (tC (.str "say")) (tCons (tCall sp_law_part [] E0 (tCons (tVar 0) (tCons (tC (.int 2)) (tNil)))) (tNil))))))))))))

def t_law_handler (K : PySem.W.Frag) (sp_law_take : Sp) (sp_law_statement : Sp) : TS :=
  tSeq (tAsg (tCall sp_law_take [] E0 (tCons (tVar 0) (tCons (tOp rAdI (tOp (rIxL K) (tVar 1) (tC (.int 1))) (tC (.int 1))) (tNil)))) (gName 4)) (tSeq (tAsg (tCall sp_law_take [] E0 (tCons (tVar 0) (tCons (tC (.int 8)) (tNil)))) (gName 5)) (tSeq (tIfS (tTest (tOp rEq (tVar 4) (tOp (rIxL K) (tVar 1) (tC (.int 1))))) (tAsg (tC .non) (gName 4)) (tNext)) (tRet (tTup (tCons (tVar 4) (tCons (tVar 5) (tCons (tCall sp_law_statement [] E0 (tCons (tVar 0) (tCons (tVar 1) (tCons (tVar 2) (tCons (tVar 3) (tCons (tC (.bl true)) (tNil))))))) (tNil))))))))

def t_law_statement (K : PySem.W.Frag) (sp_law_take : Sp) (sp_law_simple : Sp) (sp_law_statement : Sp) (sp_law_part : Sp) (sp_law_handler : Sp) : TS :=
  tSeq (tAsg (tCall sp_law_take [] E0 (tCons (tVar 0) (tCons (tC (.int 14)) (tNil)))) (gName 5)) (tSeq (tIfS (tOr (tTest (tOp rEq (tVar 2) (tC (.int 0)))) (tTest (tOp rLt (tVar 5) (tC (.int 4))))) (tRet (tCall sp_law_simple [] E0 (tCons (tVar 0) (tCons (tVar 1) (tCons (tVar 3) (tCons (tVar 4) (tNil))))))) (tNext)) (tSeq (tIfS (tAnd (tTest (tOp rEq (tVar 5) (tC (.int 4)))) (tTest (tOp rEq (tCall sp_law_take [] E0 (tCons (tVar 0) (tCons (tC (.int 3)) (tNil)))) (tC (.int 1))))) (tRet (tTup (tCons (tC (.str "row")) (tCons (tCB (rTupOf K) (tCons (tLc (iRng1 (tCons (tCall sp_law_take [] E0 (tCons (tVar 0) (tCons (tC (.int 7)) (tNil)))) (tNil))) (gName 6) (tYes) (tCall sp_law_simple [] E0 (tCons (tVar 0) (tCons (tVar 1) (tCons (tVar 3) (tCons (tVar 4) (tNil)))))) [6]) (tNil))) (tNil))))) (tNext)) (tSeq (tIfS (tTest (tOp rLt (tVar 5) (tC (.int 7)))) (tSeq (tAsg (tOp rAdI (tC (.int 2)) (tCall sp_law_take [] E0 (tCons (tVar 0) (tCons (tC (.int 2)) (tNil))))) (gName 7)) (tRet (tTup (tCons (tC (.str "row")) (tCons (tCB (rTupOf K) (tCons (tLc (iRng1 (tCons (tVar 7) (tNil))) (gName 6) (tYes) (tCall sp_law_statement [] E0 (tCons (tVar 0) (tCons (tVar 1) (tCons (tOp rSbI (tVar 2) (tC (.int 1))) (tCons (tVar 3) (tCons (tVar 4) (tNil))))))) [6]) (tNil))) (tNil)))))) (tNext)) (tSeq (tIfS (tTest (tOp rEq (tVar 5) (tC (.int 7)))) (tSeq (tAsg (tCall sp_law_part [] E0 (tCons (tVar 0) (tCons (tC (.int 2)) (tNil)))) (gName 8)) (tSeq (tAsg (tCall sp_law_statement [] E0 (tCons (tVar 0) (tCons (tVar 1) (tCons (tOp rSbI (tVar 2) (tC (.int 1))) (tCons (tVar 3) (tCons (tVar 4) (tNil))))))) (gName 9)) (tRet (tTup (tCons (tC (.str "if")) (tCons (tVar 8) (tCons (tVar 9) (tCons (tCall sp_law_statement [] E0 (tCons (tVar 0) (tCons (tVar 1) (tCons (tOp rSbI (tVar 2) (tC (.int 1))) (tCons (tVar 3) (tCons (tVar 4) (tNil))))))) (tNil))))))))) (tNext)) (tSeq (tIfS (tTest (tOp rLt (tVar 5) (tC (.int 9)))) (tSeq (tAsg (tCall sp_law_part [] E0 (tCons (tVar 0) (tCons (tC (.int 2)) (tNil)))) (gName 8)) (tRet (tTup (tCons (tC (.str "while")) (tCons (tVar 8) (tCons (tCall sp_law_statement [] E0 (tCons (tVar 0) (tCons (tVar 1) (tCons (tOp rSbI (tVar 2) (tC (.int 1))) (tCons (tC (.bl true)) (tCons (tVar 4) (tNil))))))) (tNil))))))) (tNext)) (tSeq (tAsg (tCall sp_law_statement [] E0 (tCons (tVar 0) (tCons (tVar 1) (tCons (tOp rSbI (tVar 2) (tC (.int 1))) (tCons (tVar 3) (tCons (tVar 4) (tNil))))))) (gName 10)) (tSeq (tIfS (tTest (tOp rLt (tVar 5) (tC (.int 12)))) (tSeq (tAsg (tOp rAdI (tC (.int 1)) (tCall sp_law_take [] E0 (tCons (tVar 0) (tCons (tC (.int 2)) (tNil))))) (gName 7)) (tRet (tTup (tCons (tC (.str "try")) (tCons (tVar 10) (tCons (tCB (rTupOf K) (tCons (tLc (iRng1 (tCons (tVar 7) (tNil))) (gName 6) (tYes) (tCall sp_law_handler [] E0 (tCons (tVar 0) (tCons (tVar 1) (tCons (tOp rSbI (tVar 2) (tC (.int 1))) (tCons (tVar 3) (tNil)))))) [6]) (tNil))) (tNil))))))) (tNext)) (tRet (tTup (tCons (tC (.str "clean")) (tCons (tVar 10) (tCons (tCall sp_law_statement [] E0 (tCons (tVar 0) (tCons (tVar 1) (tCons (tOp rSbI (tVar 2) (tC (.int 1))) (tCons (tVar 3) (tCons (tVar 4) (tNil))))))) (tNil)))))))))))))

def t_law_program (K : PySem.W.Frag) (sp_law_kinds : Sp) (sp_law_take : Sp) (sp_law_statement : Sp) : TS :=
  tSeq (tAsg (tCall sp_law_kinds [] E0 (tCons (tVar 0) (tCons (tC (.int 4)) (tNil)))) (gName 1)) (tSeq (tAsg (tLst (tCons (tLc (iRng1 (tCons (tOp rAdI (tC (.int 1)) (tCall sp_law_take [] E0 (tCons (tVar 0) (tCons (tC (.int 4)) (tNil))))) (tNil))) (gName 3) (tYes) (tCall sp_law_take [] E0 (tCons (tVar 0) (tCons (tC (.int 4)) (tNil)))) [3]) (tCons (tCB (rLenQ K) (tCons (tVar 1) (tNil))) (tNil)))) (gName 2)) (tSeq (tAsg (tLst (tNil)) (gName 4)) (tSeq (tFor (iList K (tOp (rIxL K) (tVar 2) (tC (.int 0)))) (gName 5) (tSeq (tAsg (tLc (iRng1 (tCons (tOp rAdI (tC (.int 1)) (tCall sp_law_take [] E0 (tCons (tVar 0) (tCons (tC (.int 3)) (tNil))))) (tNil))) (gName 3) (tYes) (tCall sp_law_statement [] E0 (tCons (tVar 0) (tCons (tVar 2) (tCons (tC (.int 3)) (tCons (tC (.bl false)) (tCons (tC (.bl false)) (tNil))))))) [3]) (gName 6)) (tDrop (tBM K "list" rAppend (tVar 4) (tCons (tTup (tCons (tVar 5) (tCons (tTup (tCons (tC (.str "row")) (tCons (tCB (rTupOf K) (tCons (tVar 6) (tNil))) (tNil)))) (tNil)))) (tNil)))))) (tRet (tTup (tCons (tVar 1) (tCons (tCB (rTupOf K) (tCons (tVar 4) (tNil))) (tNil))))))))

/-! ### what is drawn from the box -/
abbrev Bx (b : Addr) : Addr → Prop := fun x => x = b
/-- a drawn thing: some good one, as data; the box has other numbers; all else stands -/
def Drawn (K : PySem.W.Frag) (b : Addr) (H : Hp) (Q : VK) {α : Type} (dα : α → PyData) (good : α → Prop) : Prop :=
  ∀ (v : V) (x : α) (l' : List Int) (H' : Hp), good x → Tp K H' v (dα x) → H' b = some (.lst (l'.map V.int)) → Kp (Bx b) H H' → Q v H'
section
variable {K : PySem.W.Frag} {b : Addr} {H H1 : Hp} {Q : VK} {α : Type} {dα : α → PyData} {good : α → Prop}
theorem Drawn.mk (q : Drawn K b H Q dα good) (x : α) {l1 : List Int} {xs : List V} {ds : List PyData} (hx : good x) (e : dα x = .tuple ds) (ht : TpAll K H1 xs ds) (hb : H1 b = some (.lst (l1.map V.int))) (kp : Kp (Bx b) H H1) :
    ∀ p, H1 p = none → Q (.ref p) (upd H1 p (.tup xs)) := fun p hp =>
  q (.ref p) x l1 _ hx (by rw [e]; exact Tp.mk hp ht) (by rw [upd_ne (ne_of_none hb hp)]; exact hb) (kp.trans (Kp.new hp))
theorem box_new {o : HO} {p : Addr} {l : List Int} (hb : H b = some (.lst (l.map V.int))) (hp : H p = none) : upd H p o b = some (.lst (l.map V.int)) := by rw [upd_ne (ne_of_none hb hp)]; exact hb
/-- a list of drawn things: [draw for k in range(n)] -/
theorem lc_draw {Qd : Hp → Prop} {D : Addr} {l : List Int} {te : TE} {slot : Nat} {σ : L2.St} (dα : α → PyData) (good : α → Prop) (n : Nat) (hn : n < 1000) (hb : H1 b = some (.lst (l.map V.int))) (hD : H1 D = none)
    (hw : ∀ x, wipe ((wipe σ [slot]).set slot x) [slot] = wipe σ [slot])
    (step : ∀ (i : Nat) (H2 : Hp) (l2 : List Int), i < n → H2 b = some (.lst (l2.map V.int)) → Kp (Bx b) H1 H2 → ∀ Q' : VK, Drawn K b H2 Q' dα good → te ((wipe σ [slot]).set slot (some (.int (0 + (i : Int))))) H2 Q')
    (fin : ∀ (items : List α) (vs : List V) (l' : List Int) (H' : Hp), items.length = n → (∀ a ∈ items, good a) → H' D = some (.lst vs) → TpAll K H' vs (items.map dα) → H' b = some (.lst (l'.map V.int)) → Kp (Bx b) H1 H' → Qd H') :
    ∃ W : Nat → Nat → Hp → Prop, (∃ m, W 0 m (upd H1 D (.lst []))) ∧ ∀ i m H, W i m H →
      ((Itr 0 n).stop i H ∧ Qd H) ∨ ((Itr 0 n).go i H ∧ ∃ Nx : Hp → Prop, (∀ H', Nx H' → ∃ m', m' < m ∧ W (i + 1) m' H') ∧ ∀ x H', (Itr 0 n).yld i H x H' → gName slot x (wipe σ [slot]) H' fun σ2 H2 => wipe σ2 [slot] = wipe σ [slot] ∧ tYes σ2 H2 fun c H3 =>
        if c = true then te σ2 H3 fun y H4 => ∃ acc, H4 D = some (.lst acc) ∧ acc.length < sizeLine ∧ Nx (upd H4 D (.lst (acc ++ [y]))) else Nx H3) := by
  have Db : D ≠ b := fun e => by rw [e, hb] at hD; cases hD
  refine lc_range (lo := 0) (n := n) (Qd := Qd) (fun i H' => ∃ (items : List α) (vs : List V) (l' : List Int), items.length = i ∧ (∀ a ∈ items, good a) ∧ H' D = some (.lst vs) ∧ TpAll K H' vs (items.map dα) ∧ H' b = some (.lst (l'.map V.int)) ∧ Kp (Bx b) H1 H')
    ⟨[], [], l, rfl, (by simp), upd_same, .nil, box_new hb hD, Kp.new hD⟩ ?_ ?_
  · rintro i H2 hi ⟨items, vs, l2, hl, hg, h1, ht, hb2, kp⟩
    refine ⟨hw _, ?_⟩
    show te ((wipe σ [slot]).set slot (some (.int (0 + (i : Int))))) H2 fun y H4 => ∃ acc, H4 D = some (.lst acc) ∧ acc.length < sizeLine ∧ _
    refine step i H2 l2 hi hb2 kp _ fun y a l3 H3 ga ta hb3 kp3 => ?_
    have h3 := kp3 D _ h1 Db
    refine ⟨vs, h3, ?_, items ++ [a], vs ++ [y], l3, by simp [hl], ?_, upd_same, ?_, by rw [upd_ne Db.symm]; exact hb3, (kp.trans kp3).late hD⟩
    · have := ht.length
      rw [List.length_map] at this
      exact sz_lt1 (by omega)
    · intro z hz
      rcases List.mem_append.mp hz with z1 | z1
      · exact hg z z1
      · have e : z = a := by simpa using z1
        rw [e]; exact ga
    · rw [List.map_append]
      exact ((ht.mono (kp3.tk1 hb2)).snoc ta).mono (Tk.lst h3)
  · rintro H' ⟨items, vs, l', hl, hg, h1, ht, hb2, kp⟩
    exact fin items vs l' H' hl hg h1 ht hb2 kp
end
/-! ### the shape: the functions' counts, how many kinds -/
structure ShAt (H : Hp) (b sh : Addr) (cs : List Nat) (nk : Nat) : Prop where
  ex : ∃ c, H sh = some (.lst [.ref c, .int (nk : Int)]) ∧ H c = some (.lst (cs.map fun n : Nat => V.int (n : Int))) ∧ c ≠ b
  ne : sh ≠ b
  n0 : 0 < nk
  n9 : nk ≤ 1000
  c0 : 0 < cs.length
  c9 : cs.length ≤ 1000
  c3 : ∀ n ∈ cs, n ≤ 3
theorem ShAt.mono {H H' : Hp} {b sh : Addr} {cs : List Nat} {nk : Nat} (s : ShAt H b sh cs nk) (k : Kp (Bx b) H H') : ShAt H' b sh cs nk := by
  obtain ⟨c, h1, h2, h3⟩ := s.ex
  exact ⟨⟨c, k _ _ h1 s.ne, k _ _ h2 h3, h3⟩, s.ne, s.n0, s.n9, s.c0, s.c9, s.c3⟩
theorem ShAt.of_box {H : Hp} {b sh : Addr} {cs : List Nat} {nk : Nat} (s : ShAt H b sh cs nk) : True := trivial
/-! ### how wide, and how many cleanups: what is at most so large has few parts and few cleanups -/
mutual
def Sm.wgt : Sm → Nat
  | .say e => e.len + 1
  | .set _ e => e.len + 1
  | .row ps => ps.wgt
  | .ife e s t => e.len + 1 + s.wgt + 1 + t.wgt
  | .whl e s => e.len + 2 + s.wgt + 1
  | .brk => 1
  | .cnt => 1
  | .ret e => e.len + 1
  | .call _ _ ps _ => exsLen ps + 2
  | .rais _ e _ => e.len + 1
  | .again => 1
  | .tri s hs => s.wgt + 1 + hs.wgt
  | .cln s c => s.wgt + c.wgt + 28
def Sms.wgt : Sms → Nat
  | .nil => 0
  | .cons s r => s.wgt + 1 + r.wgt
def Hds.wgt : Hds → Nat
  | .nil => 0
  | .cons _ _ t r => t.wgt + 4 + r.wgt
end
theorem Sms.wgt_ofL {n : Nat} : ∀ {l : List Sm}, (∀ s ∈ l, s.wgt ≤ n) → (Sms.ofL l).wgt ≤ l.length * (n + 1)
  | [], _ => Nat.zero_le _
  | s :: r, h => by
    have h1 := h s List.mem_cons_self
    have h2 := Sms.wgt_ofL (l := r) (n := n) fun x hx => h x (List.mem_cons_of_mem _ hx)
    show s.wgt + 1 + (Sms.ofL r).wgt ≤ (r.length + 1) * (n + 1)
    rw [Nat.succ_mul]
    omega
theorem Hds.wgt_ofL {n : Nat} : ∀ {l : List (Option Nat × Nat × Sm)}, (∀ h ∈ l, h.2.2.wgt ≤ n) → (Hds.ofL l).wgt ≤ l.length * (n + 4)
  | [], _ => Nat.zero_le _
  | (k, x, t) :: r, h => by
    have h1 := h (k, x, t) List.mem_cons_self
    have h2 := Hds.wgt_ofL (l := r) (n := n) fun y hy => h y (List.mem_cons_of_mem _ hy)
    show t.wgt + 4 + (Hds.ofL r).wgt ≤ (r.length + 1) * (n + 4)
    rw [Nat.succ_mul]
    have h1' : t.wgt ≤ n := h1
    omega
def Bw : Nat → Nat
  | 0 => 11
  | d + 1 => max 72 (3 * Bw d + 9)
theorem Bw_ge : ∀ d, 11 ≤ Bw d
  | 0 => Nat.le_refl _
  | d + 1 => by show 11 ≤ max 72 (3 * Bw d + 9); omega
theorem Bw_mono : ∀ {d e : Nat}, d ≤ e → Bw d ≤ Bw e
  | d, 0, h => by
    have : d = 0 := by omega
    subst this; exact Nat.le_refl _
  | d, e + 1, h => by
    by_cases z : d = e + 1
    · subst z; exact Nat.le_refl _
    · have := Bw_mono (d := d) (e := e) (by omega)
      show Bw d ≤ max 72 (3 * Bw e + 9)
      omega
/-! ### the promises -/
def StmtOk (cs : List Nat) (nk : Nat) (turn hand : Bool) (D R : Nat) (s : Sm) : Prop := s.Wf cs nk turn hand ∧ s.dep ≤ D ∧ s.len ≤ R ∧ s.wgt ≤ Bw (D - 1)
def spCallS (K : PySem.W.Frag) : Sp := fun vs H Q _ => ∃ (b sh : Addr) (l : List Int) (cs : List Nat) (nk : Nat), vs = [.ref b, .ref sh] ∧ H b = some (.lst (l.map V.int)) ∧ ShAt H b sh cs nk ∧ Drawn K b H Q Sm.d (fun s => ∀ turn hand, StmtOk cs nk turn hand 1 11 s)
def spSimple (K : PySem.W.Frag) : Sp := fun vs H Q _ => ∃ (b sh : Addr) (l : List Int) (cs : List Nat) (nk : Nat) (turn hand : Bool), vs = [.ref b, .ref sh, .bl turn, .bl hand] ∧ H b = some (.lst (l.map V.int)) ∧ ShAt H b sh cs nk ∧ Drawn K b H Q Sm.d (StmtOk cs nk turn hand 1 11)
/-- at most so many rows at a depth -/
def Bd : Nat → Nat
  | 0 => 11
  | d + 1 => max 66 (3 * Bd d + 9)
theorem Bd_ge : ∀ d, 11 ≤ Bd d
  | 0 => Nat.le_refl _
  | d + 1 => by show 11 ≤ max 66 (3 * Bd d + 9); omega
def spStmt (K : PySem.W.Frag) (n : Nat) : Sp := fun vs H Q _ => ∃ (b sh : Addr) (l : List Int) (cs : List Nat) (nk : Nat) (d : Nat) (turn hand : Bool), vs = [.ref b, .ref sh, .int (d : Int), .bl turn, .bl hand] ∧ H b = some (.lst (l.map V.int)) ∧ ShAt H b sh cs nk ∧ d < n ∧
  Drawn K b H Q Sm.d (StmtOk cs nk turn hand (d + 1) (Bd d))
def HdOk (cs : List Nat) (nk : Nat) (turn : Bool) (D R : Nat) (h : Option Nat × Nat × Sm) : Prop := HdWf cs nk turn h ∧ h.2.2.dep ≤ D ∧ h.2.2.len ≤ R ∧ h.2.2.wgt ≤ Bw (D - 1)
def spHandler (K : PySem.W.Frag) (n : Nat) : Sp := fun vs H Q _ => ∃ (b sh : Addr) (l : List Int) (cs : List Nat) (nk : Nat) (d : Nat) (turn : Bool), vs = [.ref b, .ref sh, .int (d : Int), .bl turn] ∧ H b = some (.lst (l.map V.int)) ∧ ShAt H b sh cs nk ∧ d < n ∧
  Drawn K b H Q hdD (HdOk cs nk turn (d + 1) (Bd d))
section
variable {K : PySem.W.Frag}
theorem spStmt_zero (vs : List V) (H : Hp) (Q : VK) (E : XK) : ¬ spStmt K 0 vs H Q E := by
  rintro ⟨b, sh, l, cs, nk, d, turn, hand, _, _, _, h, _⟩
  omega
abbrev N_law_call : List Str := ["_law_box", "_law_shape", "_law_number", "_law_slot", "_law_parts", "_law_k"]
theorem rd_law_call (vs : List V) (H : Hp) (Q : VK) (E : XK) (h : spCallS K vs H Q E) : t_law_call K spTake (spPart K 5) { nx := fun _ H' => Q .non H', rt := Q } (start N_law_call vs) H := by
  obtain ⟨b, sh, l, cs, nk, rfl, hb, s, q⟩ := h
  obtain ⟨c, h1, h2, cb⟩ := s.ex
  refine ⟨_, rfl, rd_ixL (j := 0) rfl (SqL.of h1) rfl ⟨c, _, rfl, .inl (SqL.of h2), b, l, _, rfl, hb, by rw [List.length_map]; have := s.c0; omega, by rw [List.length_map]; have := s.c9; omega, fun x l1 H1 x0 x1 hb1 kp1 => ?_⟩⟩
  rw [List.length_map] at x1
  obtain ⟨f, rfl⟩ : ∃ f : Nat, x = (f : Int) := ⟨x.toNat, by omega⟩
  have hf : f < cs.length := by omega
  refine ⟨_, rfl, b, l1, 8, rfl, hb1, by decide, by decide, fun y l2 H2 y0 y1 hb2 kp2 => ?_⟩
  obtain ⟨k, rfl⟩ : ∃ k : Nat, y = (k : Int) := ⟨y.toNat, by omega⟩
  have s2 := s.mono (kp1.trans kp2)
  have h1' := (kp1.trans kp2) _ _ h1 s.ne
  have h2' := (kp1.trans kp2) _ _ h2 cb
  have ef : cs[f]? = some cs[f] := List.getElem?_eq_getElem hf
  have h3 : cs[f] ≤ 3 := s.c3 _ (List.getElem_mem hf)
  refine rd_ixL (j := 0) rfl (SqL.of h1') rfl ⟨_, rfl, c, _, _, .int ((cs[f] : Nat) : Int), rfl, rfl, SqL.of h2', atI_nat (j := f) (by rw [List.getElem?_map, ef]; rfl), _, rfl, by omega, by omega, fun D hD => ?_⟩
  refine lc_draw (K := K) (l := l2) Ex.d (fun e => e.Wf ∧ e.dep ≤ 2) _ ?hn hb2 hD ?hw ?_ ?_
  case hn => omega
  case hw => exact fun _ => rfl
  · intro i H3 l3 hi hb3 kp3 Q' dr
    exact ⟨_, rfl, b, l3, 1, rfl, hb3, by decide, fun v e l4 H4 we de te hb4 kp4 => dr v e l4 H4 ⟨we, de⟩ te hb4 kp4⟩
  · intro ps vs l3 H3 hl hg hD3 ht hb3 kp3
    rw [Int.toNat_natCast] at hl
    refine ⟨_, rfl, _, rfl, _, rfl, D, vs, rfl, .inl ⟨SqL.of hD3, fun p hp => ?_⟩⟩
    have hb4 := box_new (o := .tup vs) hb3 hp
    refine ⟨_, rfl, b, l3, 1000, rfl, hb4, by decide, by decide, fun m l4 H4 m0 m1 hb5 kp5 => ⟨(by show 5 ≤ sizeLine; decide), ?_⟩⟩
    have pb : p ≠ b := fun e => by rw [e, hb3] at hp; cases hp
    have hp5 := kp5 p _ upd_same pb
    have le : exsLen ps + 2 ≤ 11 := by
      have := exsLen_le (ps := ps) (n := 3) fun e he => Ex.len_le (n := 1) (hg e he).2
      rw [hl] at this
      omega
    refine Drawn.mk q (.call k f ps m) (fun _ _ => ⟨⟨by omega, by rw [ef, hl], by omega, fun e he => ⟨(hg e he).1, by have := (hg e he).2; omega⟩, m0, m1⟩, Nat.le_refl 1, le, le⟩) rfl ?_ hb5 ((((kp1.trans kp2).trans kp3).trans (Kp.new hp)).trans kp5)
    exact .cons (.str _) (.cons (.int _) (.cons (.int _) (.cons (.tup (.inl (.inl hp5)) ((ht.mono (Tk.new hp)).mono (kp5.tk1 hb4))) (.cons (.int _) .nil))))
abbrev N_law_simple : List Str := ["_law_box", "_law_shape", "_law_turn", "_law_handler_here", "_law_kind", "_law_number"]
theorem rd_law_simple (vs : List V) (H : Hp) (Q : VK) (E : XK) (h : spSimple K vs H Q E) : t_law_simple K spTake (spCallS K) (spPart K 5) { nx := fun _ H' => Q .non H', rt := Q } (start N_law_simple vs) H := by
  obtain ⟨b, sh, l, cs, nk, turn, hand, rfl, hb, s, q⟩ := h
  refine ⟨_, rfl, b, l, 9, rfl, hb, by decide, by decide, fun r l1 H1 r0 r1 hb1 kp1 => ?_⟩
  have s1 := s.mono kp1
  have l7 : ∀ {e : Ex}, e.dep ≤ 3 → e.len ≤ 7 := fun h => Ex.len_le (n := 2) h
  refine r_if (pb_and (pb_eqI rfl) (pb_var rfl)) (fun e => ?_) fun _ => r_if (pb_and (pb_eqI rfl) (pb_var rfl)) (fun e => ?_) fun _ => r_if (pb_eqI rfl) (fun _ => ?_) fun _ => r_if (pb_eqI rfl) (fun _ => ?_) fun _ => r_if (pb_eqI rfl) (fun _ => ?_) fun _ =>
    r_if (pb_eqI rfl) (fun _ => ?_) fun _ => r_if (pb_eqI rfl) (fun _ => ?_) fun _ => ?_
  · have hh : hand = true := (Bool.and_eq_true_iff.mp e).2
    exact ⟨(by show 1 ≤ sizeLine; decide), Drawn.mk q .again ⟨hh, Nat.le_refl 1, (by decide), (by decide)⟩ rfl (.cons (.str _) .nil) hb1 kp1⟩
  · have hh : turn = true := (Bool.and_eq_true_iff.mp e).2
    refine ⟨(by show 2 ≤ sizeLine; decide), fun p hp => ?_⟩
    have hb2 := box_new (o := .lst [.str "break", .str "continue"]) hb1 hp
    have pb : p ≠ b := fun e => by rw [e, hb1] at hp; cases hp
    refine ⟨_, rfl, b, l1, 2, rfl, hb2, by decide, by decide, fun x l2 H2 x0 x1 hb3 kp3 => ?_⟩
    have hp3 := kp3 p _ upd_same pb
    have hx : x = 0 ∨ x = 1 := by omega
    rcases hx with rfl | rfl
    · exact ⟨p, _, 0, .str "break", rfl, rfl, SqL.of hp3, rfl, (by show 1 ≤ sizeLine; decide), Drawn.mk q .brk ⟨hh, Nat.le_refl 1, (by decide), (by decide)⟩ rfl (.cons (.str _) .nil) hb3 ((kp1.trans (Kp.new hp)).trans kp3)⟩
    · exact ⟨p, _, 1, .str "continue", rfl, rfl, SqL.of hp3, rfl, (by show 1 ≤ sizeLine; decide), Drawn.mk q .cnt ⟨hh, Nat.le_refl 1, (by decide), (by decide)⟩ rfl (.cons (.str _) .nil) hb3 ((kp1.trans (Kp.new hp)).trans kp3)⟩
  · exact ⟨_, rfl, _, rfl, b, sh, l1, cs, nk, rfl, hb1, s1, fun v x l' H' gx tx hb' kp' => q v x l' H' (gx turn hand) tx hb' (kp1.trans kp')⟩
  · refine ⟨_, rfl, b, l1, 1, rfl, hb1, by decide, fun v e l2 H2 we de te hb2 kp2 => ?_⟩
    obtain ⟨c, h1, h2, cb⟩ := s1.ex
    have h1' := kp2 _ _ h1 s1.ne
    refine ⟨_, rfl, rd_ixL (j := 1) rfl (SqL.of h1') rfl ⟨b, l2, _, rfl, hb2, by have := s.n0; omega, by have := s.n9; omega, fun x l3 H3 x0 x1 hb3 kp3 => ⟨_, rfl, ?_⟩⟩⟩
    obtain ⟨kd, rfl⟩ : ∃ k : Nat, x = (k : Int) := ⟨x.toNat, by omega⟩
    refine ⟨_, rfl, b, l3, 1000, rfl, hb3, by decide, by decide, fun m l4 H4 m0 m1 hb4 kp4 => ⟨(by show 4 ≤ sizeLine; decide), ?_⟩⟩
    have le := Ex.len_le (n := 1) de
    exact Drawn.mk q (.rais kd e m) ⟨⟨by omega, ⟨we, by omega⟩, m0, m1⟩, Nat.le_refl 1, (by show e.len + 1 ≤ 11; omega), (by show e.len + 1 ≤ 11; omega)⟩ rfl (.cons (.str _) (.cons (.int _) (.cons ((te.mono (kp3.tk1 hb2)).mono (kp4.tk1 hb3)) (.cons (.int _) .nil)))) hb4 (((kp1.trans kp2).trans kp3).trans kp4)
  · refine ⟨_, rfl, b, l1, 2, rfl, hb1, by decide, fun v e l2 H2 we de te hb2 kp2 => ⟨(by show 2 ≤ sizeLine; decide), ?_⟩⟩
    have le := l7 de
    exact Drawn.mk q (.ret e) ⟨⟨we, by omega⟩, Nat.le_refl 1, (by show e.len + 1 ≤ 11; omega), (by show e.len + 1 ≤ 11; omega)⟩ rfl (.cons (.str _) (.cons te .nil)) hb2 (kp1.trans kp2)
  · refine ⟨(by show 0 ≤ sizeLine; decide), fun p hp => ⟨(by show 2 ≤ sizeLine; decide), ?_⟩⟩
    exact Drawn.mk q (.row .nil) ⟨trivial, Nat.le_refl 1, (by show 0 ≤ 11; omega), (by show 0 ≤ 11; omega)⟩ rfl (.cons (.str _) (.cons (.tup (.inl (.inl upd_same)) .nil) .nil)) (box_new hb1 hp) (kp1.trans (Kp.new hp))
  · refine ⟨_, rfl, b, l1, 8, rfl, hb1, by decide, by decide, fun x l2 H2 x0 x1 hb2 kp2 => ?_⟩
    obtain ⟨k, rfl⟩ : ∃ k : Nat, x = (k : Int) := ⟨x.toNat, by omega⟩
    refine ⟨_, rfl, b, l2, 2, rfl, hb2, by decide, fun v e l3 H3 we de te hb3 kp3 => ⟨(by show 3 ≤ sizeLine; decide), ?_⟩⟩
    have le := l7 de
    exact Drawn.mk q (.set k e) ⟨⟨by omega, we, by omega⟩, Nat.le_refl 1, (by show e.len + 1 ≤ 11; omega), (by show e.len + 1 ≤ 11; omega)⟩ rfl (.cons (.str _) (.cons (.int _) (.cons te .nil))) hb3 ((kp1.trans kp2).trans kp3)
  · refine ⟨_, rfl, b, l1, 2, rfl, hb1, by decide, fun v e l2 H2 we de te hb2 kp2 => ⟨(by show 2 ≤ sizeLine; decide), ?_⟩⟩
    have le := l7 de
    exact Drawn.mk q (.say e) ⟨⟨we, by omega⟩, Nat.le_refl 1, (by show e.len + 1 ≤ 11; omega), (by show e.len + 1 ≤ 11; omega)⟩ rfl (.cons (.str _) (.cons te .nil)) hb2 (kp1.trans kp2)
abbrev N_law_handler : List Str := ["_law_box", "_law_shape", "_law_deep", "_law_turn", "_law_kind", "_law_slot"]
theorem rd_law_handler {n : Nat} (vs : List V) (H : Hp) (Q : VK) (E : XK) (h : spHandler K n vs H Q E) : t_law_handler K spTake (spStmt K n) { nx := fun _ H' => Q .non H', rt := Q } (start N_law_handler vs) H := by
  obtain ⟨b, sh, l, cs, nk, d, turn, rfl, hb, s, hd, q⟩ := h
  obtain ⟨c, h1, h2, cb⟩ := s.ex
  refine ⟨_, rfl, rd_ixL (j := 1) rfl (SqL.of h1) rfl ⟨_, _, rfl, rfl, b, l, _, rfl, hb, by have := s.n0; omega, by have := s.n9; omega, fun r l1 H1 r0 r1 hb1 kp1 => ?_⟩⟩
  refine ⟨_, rfl, b, l1, 8, rfl, hb1, by decide, by decide, fun x l2 H2 x0 x1 hb2 kp2 => ?_⟩
  obtain ⟨k, rfl⟩ : ∃ k : Nat, x = (k : Int) := ⟨x.toNat, by omega⟩
  have s2 := s.mono (kp1.trans kp2)
  have h1' := (kp1.trans kp2) _ _ h1 s.ne
  have fin : ∀ o : Option Nat, (∀ j, o = some j → j < nk) → (tRet (tTup (tCons (tVar 4) (tCons (tVar 5) (tCons (tCall (spStmt K n) [] E0 (tCons (tVar 0) (tCons (tVar 1) (tCons (tVar 2) (tCons (tVar 3) (tCons (tC (.bl true)) (tNil))))))) (tNil)))))) { nx := fun _ H' => Q .non H', rt := Q } [some (.ref b), some (.ref sh), some (.int (d : Int)), some (.bl turn), some (kindV o), some (.int (k : Int))] H2 := by
    intro o ho
    refine ⟨_, rfl, _, rfl, _, rfl, _, rfl, _, rfl, _, rfl, b, sh, l2, cs, nk, d, turn, true, rfl, hb2, s2, hd, fun v st l3 H3 g3 t3 hb3 kp3 => ⟨(by show 3 ≤ sizeLine; decide), ?_⟩⟩
    refine Drawn.mk q (o, k, st) ⟨⟨ho, by show k < 8; omega, g3.1⟩, g3.2⟩ rfl ?_ hb3 ((kp1.trans kp2).trans kp3)
    refine .cons ?_ (.cons (.int _) (.cons t3 .nil))
    cases o with
    | none => exact .non
    | some j => exact .int _
  refine ⟨_, rfl, rd_ixL (j := 1) rfl (SqL.of h1') rfl ⟨rfl, _, rfl, ifB (fun _ => fin none fun _ z => by cases z) fun e => ?_⟩⟩
  have hr : r ≠ (nk : Int) := fun z => by rw [z] at e; simp at e
  have := fin (some r.toNat) fun j z => by cases z; omega
  rw [show kindV (some r.toNat) = V.int r by show V.int (r.toNat : Int) = _; rw [Int.toNat_of_nonneg r0]] at this
  exact this
theorem stT {cs : List Nat} {nk : Nat} {turn hand : Bool} {D R D' R' : Nat} {s : Sm} (h : StmtOk cs nk turn hand D R s) (hd : D ≤ D') (hr : R ≤ R') : StmtOk cs nk turn hand D' R' s := ⟨h.1, Nat.le_trans h.2.1 hd, Nat.le_trans h.2.2.1 hr, Nat.le_trans h.2.2.2 (Bw_mono (by omega))⟩
theorem d5 {b sh : Addr} {d : Nat} {t u : Bool} (h : 0 < d) : [V.ref b, .ref sh, V.int ((d : Int) - 1), .bl t, .bl u] = [V.ref b, .ref sh, V.int ((d - 1 : Nat) : Int), .bl t, .bl u] := by
  rw [show ((d : Int) - 1) = ((d - 1 : Nat) : Int) by omega]
theorem d4 {b sh : Addr} {d : Nat} {t : Bool} (h : 0 < d) : [V.ref b, .ref sh, V.int ((d : Int) - 1), .bl t] = [V.ref b, .ref sh, V.int ((d - 1 : Nat) : Int), .bl t] := by
  rw [show ((d : Int) - 1) = ((d - 1 : Nat) : Int) by omega]
abbrev N_law_statement : List Str := ["_law_box", "_law_shape", "_law_deep", "_law_turn", "_law_handler_here", "_law_kind", "_law_k", "_law_many", "_law_part_here", "_law_yes", "_law_inner"]
theorem rd_law_statement {n : Nat} (vs : List V) (H : Hp) (Q : VK) (E : XK) (h : spStmt K (n + 1) vs H Q E) : t_law_statement K spTake (spSimple K) (spStmt K n) (spPart K 5) (spHandler K n) { nx := fun _ H' => Q .non H', rt := Q } (start N_law_statement vs) H := by
  obtain ⟨b, sh, l, cs, nk, d, turn, hand, rfl, hb, s, hd, q⟩ := h
  refine ⟨_, rfl, b, l, 14, rfl, hb, by decide, by decide, fun r l1 H1 r0 r1 hb1 kp1 => ?_⟩
  have s1 := s.mono kp1
  refine r_if (pb_or (pb_eqI rfl) (pb_lt rfl)) (fun _ => ?_) fun e => ?_
  · exact ⟨_, rfl, _, rfl, _, rfl, _, rfl, b, sh, l1, cs, nk, turn, hand, rfl, hb1, s1, fun v x l' H' gx tx hb' kp' => q v x l' H' (stT gx (by omega) (Bd_ge d)) tx hb' (kp1.trans kp')⟩
  obtain ⟨e0, _⟩ := Bool.or_eq_false_iff.mp e
  have hd0 : 0 < d := by
    by_cases z : d = 0
    · subst z; exact absurd rfl (of_decide_eq_false e0)
    · omega
  obtain ⟨d, rfl⟩ : ∃ m, d = m + 1 := ⟨d - 1, by omega⟩
  have eB : Bd (d + 1) = max 66 (3 * Bd d + 9) := rfl
  have gB := Bd_ge d
  have eW : Bw (d + 1) = max 72 (3 * Bw d + 9) := rfl
  have gW := Bw_ge d
  have rest : ∀ (l1 : List Int) (H1 : Hp), H1 b = some (.lst (l1.map V.int)) → Kp (Bx b) H H1 → ShAt H1 b sh cs nk → (tSeq (tIfS (tTest (tOp rLt (tVar 5) (tC (.int 7)))) (tSeq (tAsg (tOp rAdI (tC (.int 2)) (tCall spTake [] E0 (tCons (tVar 0) (tCons (tC (.int 2)) (tNil))))) (gName 7)) (tRet (tTup (tCons (tC (.str "row")) (tCons (tCB (rTupOf K) (tCons (tLc (iRng1 (tCons (tVar 7) (tNil))) (gName 6) (tYes) (tCall (spStmt K n) [] E0 (tCons (tVar 0) (tCons (tVar 1) (tCons (tOp rSbI (tVar 2) (tC (.int 1))) (tCons (tVar 3) (tCons (tVar 4) (tNil))))))) [6]) (tNil))) (tNil)))))) (tNext)) (tSeq (tIfS (tTest (tOp rEq (tVar 5) (tC (.int 7)))) (tSeq (tAsg (tCall (spPart K 5) [] E0 (tCons (tVar 0) (tCons (tC (.int 2)) (tNil)))) (gName 8)) (tSeq (tAsg (tCall (spStmt K n) [] E0 (tCons (tVar 0) (tCons (tVar 1) (tCons (tOp rSbI (tVar 2) (tC (.int 1))) (tCons (tVar 3) (tCons (tVar 4) (tNil))))))) (gName 9)) (tRet (tTup (tCons (tC (.str "if")) (tCons (tVar 8) (tCons (tVar 9) (tCons (tCall (spStmt K n) [] E0 (tCons (tVar 0) (tCons (tVar 1) (tCons (tOp rSbI (tVar 2) (tC (.int 1))) (tCons (tVar 3) (tCons (tVar 4) (tNil))))))) (tNil))))))))) (tNext)) (tSeq (tIfS (tTest (tOp rLt (tVar 5) (tC (.int 9)))) (tSeq (tAsg (tCall (spPart K 5) [] E0 (tCons (tVar 0) (tCons (tC (.int 2)) (tNil)))) (gName 8)) (tRet (tTup (tCons (tC (.str "while")) (tCons (tVar 8) (tCons (tCall (spStmt K n) [] E0 (tCons (tVar 0) (tCons (tVar 1) (tCons (tOp rSbI (tVar 2) (tC (.int 1))) (tCons (tC (.bl true)) (tCons (tVar 4) (tNil))))))) (tNil))))))) (tNext)) (tSeq (tAsg (tCall (spStmt K n) [] E0 (tCons (tVar 0) (tCons (tVar 1) (tCons (tOp rSbI (tVar 2) (tC (.int 1))) (tCons (tVar 3) (tCons (tVar 4) (tNil))))))) (gName 10)) (tSeq (tIfS (tTest (tOp rLt (tVar 5) (tC (.int 12)))) (tSeq (tAsg (tOp rAdI (tC (.int 1)) (tCall spTake [] E0 (tCons (tVar 0) (tCons (tC (.int 2)) (tNil))))) (gName 7)) (tRet (tTup (tCons (tC (.str "try")) (tCons (tVar 10) (tCons (tCB (rTupOf K) (tCons (tLc (iRng1 (tCons (tVar 7) (tNil))) (gName 6) (tYes) (tCall (spHandler K n) [] E0 (tCons (tVar 0) (tCons (tVar 1) (tCons (tOp rSbI (tVar 2) (tC (.int 1))) (tCons (tVar 3) (tNil)))))) [6]) (tNil))) (tNil))))))) (tNext)) (tRet (tTup (tCons (tC (.str "clean")) (tCons (tVar 10) (tCons (tCall (spStmt K n) [] E0 (tCons (tVar 0) (tCons (tVar 1) (tCons (tOp rSbI (tVar 2) (tC (.int 1))) (tCons (tVar 3) (tCons (tVar 4) (tNil))))))) (tNil))))))))))) { nx := fun _ H' => Q .non H', rt := Q } [some (.ref b), some (.ref sh), some (.int ((d + 1 : Nat) : Int)), some (.bl turn), some (.bl hand), some (.int r), none, none, none, none, none] H1 := by
    intro l1 H1 hb1 kp1 s1
    -- a statement one less deep
    have sub : ∀ (t h : Bool) {l2 : List Int} {H2 : Hp} {Q2 : VK}, H2 b = some (.lst (l2.map V.int)) → ShAt H2 b sh cs nk → Drawn K b H2 Q2 Sm.d (StmtOk cs nk t h (d + 1) (Bd d)) → spStmt K n [.ref b, .ref sh, .int (((d + 1 : Nat) : Int) - 1), .bl t, .bl h] H2 Q2 E0 :=
      fun t h {l2 H2 Q2} hb2 s2 dr => ⟨b, sh, l2, cs, nk, d, t, h, by rw [show (((d + 1 : Nat) : Int) - 1) = (d : Int) by omega], hb2, s2, by omega, dr⟩
    refine r_if (pb_lt rfl) (fun _ => ?_) fun _ => r_if (pb_eqI rfl) (fun _ => ?_) fun _ => r_if (pb_lt rfl) (fun _ => ?_) fun _ => ?_
    · -- row
      refine ⟨_, rfl, b, l1, 2, rfl, hb1, by decide, by decide, fun x l2 H2 x0 x1 hb2 kp2 => ⟨_, _, rfl, rfl, ?_⟩⟩
      have s2 := s1.mono kp2
      refine ⟨_, rfl, _, rfl, by omega, by omega, fun D hD => ?_⟩
      refine lc_draw (K := K) (l := l2) Sm.d (StmtOk cs nk turn hand (d + 1) (Bd d)) _ ?hn hb2 hD ?hw ?_ ?_
      case hn => omega
      case hw => exact fun _ => rfl
      · intro i H3 l3 hi hb3 kp3 Q' dr
        exact ⟨_, rfl, _, rfl, _, rfl, _, _, rfl, rfl, _, rfl, _, rfl, sub turn hand hb3 (s2.mono kp3) dr⟩
      · intro items us l3 H3 hl hg hD3 ht hb3 kp3
        refine ⟨D, us, rfl, .inl ⟨SqL.of hD3, fun p hp => ⟨(by show 2 ≤ sizeLine; decide), ?_⟩⟩⟩
        have hl3 : items.length ≤ 3 := by omega
        have len := Sms.len_ofL (n := Bd d) fun s hs => (hg s hs).2.2.1
        have wgt := Sms.wgt_ofL (n := Bw d) fun s hs => (hg s hs).2.2.2
        have : items.length * Bd d ≤ 3 * Bd d := Nat.mul_le_mul_right _ hl3
        have : items.length * (Bw d + 1) ≤ 3 * (Bw d + 1) := Nat.mul_le_mul_right _ hl3
        refine Drawn.mk q (.row (Sms.ofL items)) ⟨Sms.wf_ofL fun s hs => (hg s hs).1, ?_, ?_, ?_⟩ rfl (.cons (.str _) (.cons (.tup (.inl (.inl upd_same)) ?_) .nil)) (box_new hb3 hp) (((kp1.trans kp2).trans kp3).trans (Kp.new hp))
        · show (Sms.ofL items).dep + 1 ≤ d + 1 + 1
          have := Sms.dep_ofL (n := d + 1) fun s hs => (hg s hs).2.1
          omega
        · show (Sms.ofL items).len ≤ Bd (d + 1)
          omega
        · show (Sms.ofL items).wgt ≤ Bw (d + 1)
          omega
        · rw [Sms.ds_ofL]
          exact ht.mono (Tk.new hp)
    · -- if
      refine ⟨_, rfl, b, l1, 2, rfl, hb1, by decide, fun v e l2 H2 we de te hb2 kp2 => ?_⟩
      refine ⟨_, rfl, _, rfl, _, rfl, _, _, rfl, rfl, _, rfl, _, rfl, sub turn hand hb2 (s1.mono kp2) fun v1 y l3 H3 gy ty hb3 kp3 => ?_⟩
      refine ⟨_, rfl, _, rfl, _, rfl, _, rfl, _, rfl, _, _, rfl, rfl, _, rfl, _, rfl, sub turn hand hb3 ((s1.mono kp2).mono kp3) fun v2 z l4 H4 gz tz hb4 kp4 => ⟨(by show 4 ≤ sizeLine; decide), ?_⟩⟩
      have le := Ex.len_le (n := 2) de
      have y2 := gy.2.1; have y3 := gy.2.2.1; have z2 := gz.2.1; have z3 := gz.2.2.1
      have y4 : y.wgt ≤ Bw d := gy.2.2.2
      have z4 : z.wgt ≤ Bw d := gz.2.2.2
      exact Drawn.mk q (.ife e y z) ⟨⟨⟨we, by omega⟩, gy.1, gz.1⟩, by show max y.dep z.dep + 1 ≤ _; omega, by show e.len + 1 + y.len + 1 + z.len ≤ _; omega, by show e.len + 1 + y.wgt + 1 + z.wgt ≤ Bw (d + 1); omega⟩ rfl (.cons (.str _) (.cons ((te.mono (kp3.tk1 hb2)).mono (kp4.tk1 hb3)) (.cons (ty.mono (kp4.tk1 hb3)) (.cons tz .nil)))) hb4 (((kp1.trans kp2).trans kp3).trans kp4)
    · -- while
      refine ⟨_, rfl, b, l1, 2, rfl, hb1, by decide, fun v e l2 H2 we de te hb2 kp2 => ?_⟩
      refine ⟨_, rfl, _, rfl, _, rfl, _, rfl, _, _, rfl, rfl, _, rfl, sub true hand hb2 (s1.mono kp2) fun v1 y l3 H3 gy ty hb3 kp3 => ⟨(by show 3 ≤ sizeLine; decide), ?_⟩⟩
      have le := Ex.len_le (n := 2) de
      have y2 := gy.2.1; have y3 := gy.2.2.1
      have y4 : y.wgt ≤ Bw d := gy.2.2.2
      exact Drawn.mk q (.whl e y) ⟨⟨⟨we, by omega⟩, gy.1⟩, by show y.dep + 1 ≤ _; omega, by show e.len + 2 + y.len + 1 ≤ _; omega, by show e.len + 2 + y.wgt + 1 ≤ Bw (d + 1); omega⟩ rfl (.cons (.str _) (.cons (te.mono (kp3.tk1 hb2)) (.cons ty .nil))) hb3 ((kp1.trans kp2).trans kp3)
    · -- try, clean
      refine ⟨_, rfl, _, rfl, _, rfl, _, _, rfl, rfl, _, rfl, _, rfl, sub turn hand hb1 s1 fun v1 y l2 H2 gy ty hb2 kp2 => ?_⟩
      have s2 := s1.mono kp2
      have y2 := gy.2.1; have y3 := gy.2.2.1
      have y4 : y.wgt ≤ Bw d := gy.2.2.2
      refine r_if (pb_lt rfl) (fun _ => ?_) fun _ => ?_
      · refine ⟨_, rfl, b, l2, 2, rfl, hb2, by decide, by decide, fun x l3 H3 x0 x1 hb3 kp3 => ⟨_, _, rfl, rfl, ?_⟩⟩
        have s3 := s2.mono kp3
        refine ⟨_, rfl, _, rfl, _, rfl, by omega, by omega, fun D hD => ?_⟩
        refine lc_draw (K := K) (l := l3) hdD (HdOk cs nk turn (d + 1) (Bd d)) _ ?hn2 hb3 hD ?hw2 ?_ ?_
        case hn2 => omega
        case hw2 => exact fun _ => rfl
        · intro i H4 l4 hi hb4 kp4 Q' dr
          exact ⟨_, rfl, _, rfl, _, rfl, _, _, rfl, rfl, _, rfl, b, sh, l4, cs, nk, d, turn, by show [V.ref b, .ref sh, V.int (((d + 1 : Nat) : Int) - 1), .bl turn] = _; rw [show (((d + 1 : Nat) : Int) - 1) = (d : Int) by omega], hb4, s3.mono kp4, by omega, dr⟩
        · intro items us l4 H4 hl hg hD4 ht hb4 kp4
          refine ⟨D, us, rfl, .inl ⟨SqL.of hD4, fun p hp => ⟨(by show 3 ≤ sizeLine; decide), ?_⟩⟩⟩
          have hl3 : items.length ≤ 2 := by omega
          have len := Hds.len_ofL (n := Bd d) fun s hs => (hg s hs).2.2.1
          have wgt := Hds.wgt_ofL (n := Bw d) fun s hs => (hg s hs).2.2.2
          have : items.length * (Bw d + 4) ≤ 2 * (Bw d + 4) := Nat.mul_le_mul_right _ hl3
          have : items.length * (Bd d + 4) ≤ 2 * (Bd d + 4) := Nat.mul_le_mul_right _ hl3
          refine Drawn.mk q (.tri y (Hds.ofL items)) ⟨⟨gy.1, Hds.wf_ofL fun s hs => (hg s hs).1⟩, ?_, ?_, ?_⟩ rfl (.cons (.str _) (.cons (((ty.mono (kp3.tk1 hb2)).mono (kp4.tk1 hb3)).mono (Tk.new hp)) (.cons (.tup (.inl (.inl upd_same)) ?_) .nil))) (box_new hb4 hp) ((((kp1.trans kp2).trans kp3).trans kp4).trans (Kp.new hp))
          · show max y.dep (Hds.ofL items).dep + 1 ≤ d + 1 + 1
            have := Hds.dep_ofL (n := d + 1) fun s hs => (hg s hs).2.1
            omega
          · show y.len + 1 + (Hds.ofL items).len ≤ Bd (d + 1)
            omega
          · show y.wgt + 1 + (Hds.ofL items).wgt ≤ Bw (d + 1)
            omega
          · rw [Hds.ds_ofL]
            exact ht.mono (Tk.new hp)
      · refine ⟨_, rfl, _, rfl, _, rfl, _, rfl, _, _, rfl, rfl, _, rfl, _, rfl, sub turn hand hb2 s2 fun v2 z l3 H3 gz tz hb3 kp3 => ⟨(by show 3 ≤ sizeLine; decide), ?_⟩⟩
        have z2 := gz.2.1; have z3 := gz.2.2.1
        have z4 : z.wgt ≤ Bw d := gz.2.2.2
        exact Drawn.mk q (.cln y z) ⟨⟨gy.1, gz.1⟩, by show max y.dep z.dep + 1 ≤ _; omega, by show y.len + 2 + z.len + 1 ≤ _; omega, by show y.wgt + z.wgt + 28 ≤ Bw (d + 1); omega⟩ rfl (.cons (.str _) (.cons (ty.mono (kp3.tk1 hb2)) (.cons tz .nil))) hb3 ((kp1.trans kp2).trans kp3)
  -- kind 4, a row of simple ones
  refine ⟨_, rfl, rfl, _, rfl, ifB (fun _ => ?_) fun _ => rest l1 H1 hb1 kp1 s1⟩
  refine ⟨_, rfl, b, l1, 3, rfl, hb1, by decide, by decide, fun x l2 H2 x0 x1 hb2 kp2 => ⟨rfl, _, rfl, ifB (fun _ => ?_) fun _ => rest l2 H2 hb2 (kp1.trans kp2) (s1.mono kp2)⟩⟩
  refine ⟨_, rfl, b, l2, 7, rfl, hb2, by decide, by decide, fun y l3 H3 y0 y1 hb3 kp3 => ⟨_, rfl, by omega, by omega, fun D hD => ?_⟩⟩
  have s3 := (s1.mono kp2).mono kp3
  refine lc_draw (K := K) (l := l3) Sm.d (StmtOk cs nk turn hand 1 11) _ ?hn hb3 hD ?hw ?_ ?_
  case hn => omega
  case hw => exact fun _ => rfl
  · intro i H4 l4 hi hb4 kp4 Q' dr
    exact ⟨_, rfl, _, rfl, _, rfl, _, rfl, b, sh, l4, cs, nk, turn, hand, rfl, hb4, s3.mono kp4, dr⟩
  · intro items us l4 H4 hl hg hD4 ht hb4 kp4
    refine ⟨D, us, rfl, .inl ⟨SqL.of hD4, fun p hp => ⟨(by show 2 ≤ sizeLine; decide), ?_⟩⟩⟩
    have hl6 : items.length ≤ 6 := by omega
    have len := Sms.len_ofL (n := 11) fun s hs => (hg s hs).2.2.1
    have wgt := Sms.wgt_ofL (n := 11) fun s hs => (hg s hs).2.2.2
    have : items.length * 11 ≤ 6 * 11 := Nat.mul_le_mul_right _ hl6
    have : items.length * (11 + 1) ≤ 6 * (11 + 1) := Nat.mul_le_mul_right _ hl6
    refine Drawn.mk q (.row (Sms.ofL items)) ⟨Sms.wf_ofL fun s hs => (hg s hs).1, ?_, ?_, ?_⟩ rfl (.cons (.str _) (.cons (.tup (.inl (.inl upd_same)) ?_) .nil)) (box_new hb4 hp) ((((kp1.trans kp2).trans kp3).trans kp4).trans (Kp.new hp))
    · show (Sms.ofL items).dep + 1 ≤ d + 1 + 1
      have := Sms.dep_ofL (n := 1) fun s hs => (hg s hs).2.1
      omega
    · show (Sms.ofL items).len ≤ Bd (d + 1)
      omega
    · show (Sms.ofL items).wgt ≤ Bw (d + 1)
      omega
    · rw [Sms.ds_ofL]
      exact ht.mono (Tk.new hp)
/-! ### programs -/
structure PgOk (p : Pg) : Prop where
  wf : p.Wf
  small : p.Small 5 1890
  k4 : p.kinds.length ≤ 4
  f4 : p.funs.length ≤ 4
  wgt : ∀ f ∈ p.funs, f.2.wgt ≤ 2060
def spProgram (K : PySem.W.Frag) : Sp := fun vs H Q _ => ∃ (b : Addr) (l : List Int), vs = [.ref b] ∧ H b = some (.lst (l.map V.int)) ∧ Drawn K b H Q Pg.d PgOk
abbrev N_law_program : List Str := ["_law_box", "_law_kinds_here", "_law_shape", "_law_k", "_law_functions", "_law_many", "_law_parts"]
theorem rd_law_program (vs : List V) (H : Hp) (Q : VK) (E : XK) (h : spProgram K vs H Q E) : t_law_program K spKinds spTake (spStmt K 4) { nx := fun _ H' => Q .non H', rt := Q } (start N_law_program vs) H := by
  obtain ⟨b, l, rfl, hb, q⟩ := h
  refine ⟨_, rfl, b, l, 4, rfl, hb, by decide, by decide, fun a ks l1 H1 wk k0 k4 ha _ hb1 kp1 => ?_⟩
  have ab : a ≠ b := ne_of ha hb1 (by intro z; cases z)
  refine ⟨_, rfl, b, l1, 4, rfl, hb1, by decide, by decide, fun n l2 H2 n0 n1 hb2 kp2 => ⟨_, _, rfl, rfl, ?_⟩⟩
  refine ⟨_, rfl, by omega, by omega, fun c hc => ?_⟩
  have cb : c ≠ b := fun e => by rw [e, hb2] at hc; cases hc
  refine lc_draw (K := K) (l := l2) (fun n : Nat => PyData.int (n : Int)) (fun n : Nat => n ≤ 3) _ ?hn hb2 hc ?hw ?_ ?_
  case hn => omega
  case hw => exact fun _ => rfl
  · intro i H3 l3 hi hb3 kp3 Q' dr
    refine ⟨_, rfl, b, l3, 4, rfl, hb3, by decide, by decide, fun x l4 H4 x0 x1 hb4 kp4 => ?_⟩
    obtain ⟨k, rfl⟩ : ∃ k : Nat, x = (k : Int) := ⟨x.toNat, by omega⟩
    exact dr _ k l4 H4 (by show k ≤ 3; omega) (.int _) hb4 kp4
  · intro cs cvs l3 H3 hl hg hc3 ht hb3 kp3
    have ecs : cvs = cs.map fun n : Nat => V.int (n : Int) := by
      clear hl hg hc3
      induction cs generalizing cvs with
      | nil => exact ht.nilE
      | cons x r ih =>
        obtain ⟨v, us, rfl, h1, h2⟩ := TpAll.consE ht
        rw [h1.intE, ih us h2]; rfl
    subst ecs
    have ha3 := kp3 _ _ (kp2 _ _ ha ab) ab
    refine ⟨_, rfl, a, _, rfl, .inr (SqT.of ha3), (by show 2 ≤ sizeLine; decide), fun sh hsh => ?_⟩
    rw [List.length_map]
    have hc4 : L2.upd H3 sh (.lst [.ref c, .int (ks.length : Int)]) c = some (.lst (cs.map fun n : Nat => V.int (n : Int))) := by rw [upd_ne (ne_of_none hc3 hsh)]; exact hc3
    have hb4 := box_new (o := .lst [.ref c, .int (ks.length : Int)]) hb3 hsh
    have shb : sh ≠ b := fun e => by rw [e, hb3] at hsh; cases hsh
    have shA : ShAt (L2.upd H3 sh (.lst [.ref c, .int (ks.length : Int)])) b sh cs ks.length := ⟨⟨c, upd_same, hc4, cb⟩, shb, k0, by omega, by omega, by omega, hg⟩
    have ha4 : L2.upd H3 sh (.lst [.ref c, .int (ks.length : Int)]) a = some (.tup (ks.map kindV)) := by rw [upd_ne (ne_of_none ha3 hsh)]; exact ha3
    have kp4 : Kp (Bx b) H (L2.upd H3 sh (.lst [.ref c, .int (ks.length : Int)])) := ((kp1.trans kp2).trans kp3).trans (Kp.new hsh)
    refine ⟨(by show 0 ≤ sizeLine; decide), fun F hF => ?_⟩
    have Fb : F ≠ b := fun e => by rw [e, hb4] at hF; cases hF
    have Fsh : F ≠ sh := fun e => by rw [e, upd_same] at hF; cases hF
    have Fc : F ≠ c := fun e => by rw [e, hc4] at hF; cases hF
    have Fa : F ≠ a := fun e => by rw [e, ha4] at hF; cases hF
    have shA5 : ShAt (L2.upd (L2.upd H3 sh (.lst [.ref c, .int (ks.length : Int)])) F (.lst [])) b sh cs ks.length := shA.mono (Kp.new hF)
    obtain ⟨c', hx1, hx2, _⟩ := shA5.ex
    refine rd_ixL (j := 0) rfl (SqL.of hx1) rfl ⟨_, rfl, ⟨_, SqL.of hx2⟩, for_list (K := K) (a := c') (xs := cs.map fun n : Nat => V.int (n : Int))
      (fun i σ H' => ∃ (fs : List (Nat × Sm)) (fvs : List V) (l' : List Int) (v3 v5 v6 : Option V), σ = [some (.ref b), some (.ref a), some (.ref sh), v3, some (.ref F), v5, v6] ∧ fs.map (·.1) = cs.take i ∧
        (∀ f ∈ fs, f.2.Wf cs ks.length false false ∧ f.2.dep ≤ 5 ∧ f.2.len ≤ 1890 ∧ f.2.wgt ≤ 2060) ∧ H' F = some (.lst fvs) ∧ TpAll K H' fvs (fs.map funD) ∧ H' b = some (.lst (l'.map V.int)) ∧ Kp (Bx b) (L2.upd H3 sh (.lst [.ref c, .int (ks.length : Int)])) H' ∧ H' c' = some (.lst (cs.map fun n : Nat => V.int (n : Int))))
      ⟨[], [], l3, none, none, none, rfl, rfl, (by simp), upd_same, .nil, box_new hb4 hF, Kp.new hF, hx2⟩ (fun i σ H' _ ⟨_, _, _, _, _, _, _, _, _, _, _, _, _, h⟩ => SqL.of h) ?_ ?_⟩
    · rintro i y σ H5 hy ⟨fs, fvs, l5, v3, v5, v6, rfl, hf1, hf2, hF5, ht5, hb5, kp5, hc5⟩
      have shA6 := shA.mono kp5
      rw [List.getElem?_map] at hy
      cases ei : cs[i]? with
      | none => rw [ei] at hy; cases hy
      | some m =>
        rw [ei] at hy
        obtain rfl : V.int (m : Int) = y := Option.some.inj hy
        refine ⟨_, rfl, b, l5, 3, rfl, hb5, by decide, by decide, fun x l6 H6 x0 x1 hb6 kp6 => ⟨_, _, rfl, rfl, ?_⟩⟩
        have F6 := kp6 _ _ hF5 Fb
        refine ⟨_, rfl, by omega, by omega, fun D hD => ?_⟩
        have DF : F ≠ D := ne_of_none F6 hD
        refine lc_draw (K := K) (l := l6) Sm.d (StmtOk cs ks.length false false 4 (Bd 3)) _ ?hn hb6 hD ?hw ?_ ?_
        case hn => omega
        case hw => exact fun _ => rfl
        · intro i7 H7 l7 hi hb7 kp7 Q' dr
          exact ⟨_, rfl, _, rfl, b, sh, l7, cs, ks.length, 3, false, false, rfl, hb7, (shA6.mono kp6).mono kp7, by decide, dr⟩
        · intro items us l7 H7 hl7 hg7 hD7 ht7 hb7 kp7
          have F7 := kp7 _ _ F6 Fb
          refine ⟨_, rfl, .inl ⟨rfl, _, SqL.of F7⟩, _, rfl, _, rfl, D, us, rfl, .inl ⟨SqL.of hD7, fun p hp => ⟨(by show 2 ≤ sizeLine; decide), fun p2 hp2 => ⟨(by show 2 ≤ sizeLine; decide), fun p3 hp3 => ?_⟩⟩⟩⟩
          have hb8 := box_new (o := .tup us) hb7 hp
          have hb9 := box_new (o := .tup [.str "row", .ref p]) hb8 hp2
          have hb10 := box_new (o := .tup [.int (m : Int), .ref p2]) hb9 hp3
          have F8 : L2.upd (L2.upd (L2.upd H7 p (.tup us)) p2 (.tup [.str "row", .ref p])) p3 (.tup [.int (m : Int), .ref p2]) F = some (.lst fvs) := by
            have e1 := ne_of_none F7 hp
            have z1 : L2.upd H7 p (.tup us) F = some (.lst fvs) := by rw [upd_ne e1]; exact F7
            have e2 := ne_of_none z1 hp2
            have z2 : L2.upd (L2.upd H7 p (.tup us)) p2 (.tup [.str "row", .ref p]) F = some (.lst fvs) := by rw [upd_ne e2]; exact z1
            rw [upd_ne (ne_of_none z2 hp3)]; exact z2
          have kpX : Kp (Bx b) H5 (L2.upd (L2.upd (L2.upd H7 p (.tup us)) p2 (.tup [.str "row", .ref p])) p3 (.tup [.int (m : Int), .ref p2])) := (((kp6.trans kp7).trans (Kp.new hp)).trans (Kp.new hp2)).trans (Kp.new hp3)
          have tkX : Tk H5 (L2.upd (L2.upd (L2.upd H7 p (.tup us)) p2 (.tup [.str "row", .ref p])) p3 (.tup [.int (m : Int), .ref p2])) := kpX.tk1 hb5
          have tB : TpAll K (L2.upd (L2.upd H7 p (.tup us)) p2 (.tup [.str "row", .ref p])) [.int (m : Int), .ref p2] [.int (m : Int), (Sm.row (Sms.ofL items)).d] := by
            refine .cons (.int _) (.cons (Tp.mk hp2 (.cons (.str _) (.cons (Tp.mk hp ?_) .nil))) .nil)
            rw [Sms.ds_ofL]; exact ht7
          have len := Sms.len_ofL (n := 630) fun s hs => (hg7 s hs).2.2.1
          have wgt := Sms.wgt_ofL (n := 684) fun s hs => (hg7 s hs).2.2.2
          have : items.length * (684 + 1) ≤ 3 * (684 + 1) := Nat.mul_le_mul_right _ (by omega)
          have dep := Sms.dep_ofL (n := 4) fun s hs => (hg7 s hs).2.1
          have : items.length * 630 ≤ 3 * 630 := Nat.mul_le_mul_right _ (by omega)
          have fl : fvs.length = i := by
            have e1 := ht5.length
            have e2 : fs.length = (cs.take i).length := by rw [← hf1, List.length_map]
            have := (List.getElem?_eq_some_iff.mp ei).1
            rw [List.length_map] at e1
            rw [List.length_take] at e2
            omega
          have ilt := (List.getElem?_eq_some_iff.mp ei).1
          refine ⟨F, fvs, .ref p3, rfl, rfl, F8, sz_lt1 (by omega), fs ++ [(m, .row (Sms.ofL items))], fvs ++ [.ref p3], l7, _, _, _, rfl, ?_, ?_, upd_same, ?_, ?_, ?_, ?_⟩
          · rw [List.map_append, hf1, List.take_succ, ei]; rfl
          · intro f hf
            rcases List.mem_append.mp hf with z | z
            · exact hf2 f z
            · obtain rfl : f = (m, .row (Sms.ofL items)) := by simpa using z
              exact ⟨Sms.wf_ofL fun s hs => (hg7 s hs).1, by show (Sms.ofL items).dep + 1 ≤ 5; omega, by show (Sms.ofL items).len ≤ 1890; omega, by show (Sms.ofL items).wgt ≤ 2060; omega⟩
          · rw [List.map_append]
            exact ((ht5.mono tkX).snoc (Tp.mk hp3 tB)).mono (Tk.lst F8)
          · rw [upd_ne Fb.symm]; exact hb10
          · exact (kp5.trans kpX).late hF
          · have cF : c' ≠ F := by
              rintro rfl
              rw [upd_same] at hx2
              have := Option.some.inj hx2
              injection this with e
              have hz := shA.c0
              cases cs with
              | nil => simp at hz
              | cons _ _ => cases e
            have cb' : c' ≠ b := by
              obtain ⟨c2, _, _, h3⟩ := shA5.ex
              assumption
            rw [upd_ne cF]; exact kpX _ _ hc5 cb'
    · rintro σ H5 ⟨fs, fvs, l5, v3, v5, v6, rfl, hf1, hf2, hF5, ht5, hb5, kp5, hc5⟩
      rw [List.length_map, List.take_of_length_le (Nat.le_refl _)] at hf1
      have ha5 := kp5 _ _ ha4 ab
      refine ⟨_, rfl, _, rfl, F, fvs, rfl, .inl ⟨SqL.of hF5, fun p hp => ⟨(by show 2 ≤ sizeLine; decide), ?_⟩⟩⟩
      have hcs : Pg.cs ⟨ks, fs⟩ = cs := hf1
      have lf : fs.length = cs.length := by rw [← hf1, List.length_map]
      refine Drawn.mk q (⟨ks, fs⟩ : Pg) ⟨⟨wk, k0, by show ks.length ≤ 8; omega, by show 0 < fs.length; omega, by show fs.length ≤ 8; omega, fun f hf => hg f.1 (by rw [← hf1]; exact List.mem_map_of_mem hf), fun f hf => by rw [hcs]; exact (hf2 f hf).1⟩, ⟨fun f hf => (hf2 f hf).2.1, fun f hf => (hf2 f hf).2.2.1⟩, by show ks.length ≤ 4; omega, by show fs.length ≤ 4; omega, fun f hf => (hf2 f hf).2.2.2⟩ rfl ?_ (box_new hb5 hp) ((kp4.trans kp5).trans (Kp.new hp))
      exact .cons (.tup (.inl (.inl (by rw [upd_ne (ne_of_none ha5 hp)]; exact ha5))) (tp_kinds ks)) (.cons (Tp.mk hp ht5) .nil)
end
end Lp

/-! Lt: texts: str, join, split. -/
namespace Lp
open PySem PySem.Spec PyProof.Rows L2
/-- str(x), x a number or a text -/
def rStr1 : List V → Hp → VK → Prop := fun xs H Q => (∃ i, xs = [.int i] ∧ i.natAbs.log2 < 1920 ∧ Q (.str (toString i)) H) ∨ ∃ a, xs = [.str a] ∧ Q (.str a) H
def rAddS : R2 := fun x y H Q => ∃ i j, x = .str i ∧ y = .str j ∧ i.length + j.length ≤ sizeLine ∧ Q (.str (i ++ j)) H
def rJoin (K : PySem.W.Frag) : V → List V → Hp → VK → Prop := fun x xs H Q => ∃ a p, ∃ ys : List Str, x = .str a ∧ xs = [.ref p] ∧ (SqL K H p (ys.map V.str) ∨ SqT K H p (ys.map V.str)) ∧ (ys.map (·.length)).sum + ys.length * a.length ≤ 16777216 ∧ Q (.str (Txt.join a ys)) H
def rSplit : V → List V → Hp → VK → Prop := fun x xs H Q => ∃ a b, x = .str a ∧ xs = [.str b] ∧ (b.length == 0) = false ∧ a.length + 2 ≤ sizeLine ∧ ∀ p, H p = none → Q (.ref p) (L2.upd H p (.lst ((Txt.split a b).map V.str)))
section
variable {X : Cx}
theorem call_str1 : CallR X (.type "str") rStr1 := fun pins s σ H xs us Q I r h => h.elim (call_str_int pins s σ H xs us Q I r) (SkE.call_str_str pins s σ H xs us Q I r)
theorem op_addS : OpR X (binaryOp .Add) rAddS := op_add_str
theorem pe_joinR {o e : Expr} {to te : TE} {apos pos : Pos} (ho : PE X o to) (he : PE X e te) (hs : starEach [e] X.env = [(false, eval e X.env)] := by rfl) (hb : attributeBase o "join" X.env (eval o X.env) = eval o X.env := by rfl) (hl : (apos.endLine == pos.line) = true := by rfl) :
    PE X (.Call (.Attribute o "join" apos) [e] [] pos) (tM1 (rJoin X.K) to te) := pe_join ho he hs hb hl
theorem pe_splitR {o e : Expr} {to te : TE} {apos pos : Pos} (ho : PE X o to) (he : PE X e te) (hs : starEach [e] X.env = [(false, eval e X.env)] := by rfl) (hb : attributeBase o "split" X.env (eval o X.env) = eval o X.env := by rfl) (hl : (apos.endLine == pos.line) = true := by rfl) :
    PE X (.Call (.Attribute o "split" apos) [e] [] pos) (tM1 rSplit to te) := pe_split ho he hs hb hl
end
/-! ### words, lines -/
def word : PyData → Str
  | .none => "-"
  | .int i => toString i
  | .str s => s
  | _ => ""
/-- a part of a row that is written as a short word -/
def Wd (d : PyData) : Prop := d = .none ∨ (∃ i, d = .int i ∧ 0 ≤ i ∧ i < 10 ^ 9) ∨ ∃ s, d = .str s ∧ s.length ≤ 12
def rowL (ds : List PyData) : Str := Txt.join " " (ds.map word)
structure Fd where
  many : Int
  rows : List (List PyData)
  tab : List (List PyData)
def Fd.d (f : Fd) : PyData := .tuple [.int f.many, .tuple (f.rows.map .tuple), .tuple (f.tab.map .tuple)]
def fnL (m : Int) : Str := ("function " : Str) ++ (toString m : Str)
def tabL (ds : List PyData) : Str := ("table " : Str) ++ rowL ds
def Fd.lines (f : Fd) : List Str := fnL f.many :: (f.rows.map rowL ++ f.tab.map tabL)
def listingD (c : List Fd) : Str := Txt.join "\n" (c.flatMap Fd.lines)
structure RowOk (ds : List PyData) : Prop where
  few : ds.length ≤ 8
  wd : ∀ d ∈ ds, Wd d
structure FdOk (f : Fd) : Prop where
  many : 0 ≤ f.many ∧ f.many < 10 ^ 9
  rows : ∀ r ∈ f.rows, RowOk r
  tab : ∀ r ∈ f.tab, RowOk r
  few : f.rows.length ≤ 2100
  fewT : f.tab.length ≤ 2100
theorem num_len {i : Int} (h0 : 0 ≤ i) (h1 : i < 10 ^ 9) : (toString i : Str).length ≤ 9 := by
  obtain ⟨m, rfl⟩ := Int.eq_ofNat_of_zero_le h0
  show (Str.ofString (toString (Int.ofNat m))).length ≤ 9
  rw [text_ofNat]
  show (((Nat.toDigits 10 m).map Char.toNat).toArray).size ≤ 9
  rw [List.size_toArray, List.length_map]
  exact digits10_le (by decide) (by omega)
theorem log_small {i : Int} (h0 : 0 ≤ i) (h1 : i < 10 ^ 9) : i.natAbs.log2 < 1920 := by
  have h : i.natAbs < 2 ^ 30 := by omega
  by_cases z : i.natAbs = 0
  · rw [z]; decide
  · have := (Nat.log2_lt z).mpr h
    omega
theorem wd_len {d : PyData} (h : Wd d) : (word d).length ≤ 12 := by
  rcases h with rfl | ⟨i, rfl, h0, h1⟩ | ⟨s, rfl, h⟩
  · decide
  · have := num_len h0 h1
    show (toString i : Str).length ≤ 12
    omega
  · exact h
theorem sum_le {n : Nat} : ∀ {ys : List Str}, (∀ y ∈ ys, y.length ≤ n) → (ys.map (·.length)).sum ≤ ys.length * n
  | [], _ => Nat.zero_le _
  | y :: ys, h => by
    have h1 := h y List.mem_cons_self
    have h2 := sum_le (ys := ys) fun z hz => h z (List.mem_cons_of_mem _ hz)
    rw [List.map_cons, List.sum_cons, List.length_cons, Nat.succ_mul]
    omega
theorem join_len {sep : Str} {ys : List Str} {n : Nat} (h : ∀ y ∈ ys, y.length ≤ n) : (Txt.join sep ys).length ≤ ys.length * n + ys.length * sep.length := by
  have h1 := StrLaws.join_length_le sep ys
  have h2 := sum_le h
  have e : Txt.join sep ys = Str.join sep ys := StrLaws.glued_eq_join ..
  rw [e]
  omega
theorem row_len {ds : List PyData} (h : RowOk ds) : (rowL ds).length ≤ 104 := by
  have h1 := join_len (sep := " ") (ys := ds.map word) (n := 12) fun y hy => by
    obtain ⟨d, hd, rfl⟩ := List.mem_map.mp hy
    exact wd_len (h.wd d hd)
  have h2 := h.few
  rw [List.length_map] at h1
  have : (" " : Str).length = 1 := by decide
  unfold rowL
  rw [this] at h1
  omega
end Lp

/-! LyE: raising defs, written and made dicts, more of texts. -/
namespace L2
open PySem PySem.Spec PyProof.Rows PySem.SeqAt
/-- xs == [], whatever xs holds -/
def rEqE (K : PySem.W.Frag) : R2 := fun x y H Q => ∃ a b xs, x = .ref a ∧ y = .ref b ∧ SqL K H a xs ∧ SqL K H b [] ∧ Q (.bl xs.isEmpty) H
def rNeE (K : PySem.W.Frag) : R2 := fun x y H Q => ∃ a b xs, x = .ref a ∧ y = .ref b ∧ SqL K H a xs ∧ SqL K H b [] ∧ Q (.bl (!xs.isEmpty)) H
section
variable {X : Cx}
theorem op_eqE (hu : X.A.units + 64 < cLine) : OpR X (compareOp .Eq) (rEqE X.K) := by
  intro pins s σ H x y v u Q I rx ry h
  obtain ⟨a, b, xs, rfl, rfl, ha, hb, q⟩ := h
  cases (show v = Value.ref a from rx)
  cases (show u = Value.ref b from ry)
  obtain ⟨us, r1, p1, _⟩ := I.list ha
  obtain ⟨ws, r2, p2, _⟩ := I.list hb
  cases r2
  cases xs with
  | nil =>
    cases r1
    exact RcAt.lists (e := fun _ => true) p1.isList p2.isList rfl (by omega) (fun j h1 _ => absurd h1 (Nat.not_lt_zero j)) X.prog X.w _ _ ⟨.bl true, H, I, rfl, q⟩
  | cons x0 xs =>
    cases r1 with
    | cons ra rb => exact RcAt.lists_lengths p1.isList p2.isList (by simp) (by omega) X.prog X.w _ _ ⟨.bl false, H, I, rfl, q⟩
theorem op_neE (hu : X.A.units + 64 < cLine) : OpR X (compareOp .NotEq) (rNeE X.K) := by
  intro pins s σ H x y v u Q I rx ry h
  obtain ⟨a, b, xs, rfl, rfl, ha, hb, q⟩ := h
  cases (show v = Value.ref a from rx)
  cases (show u = Value.ref b from ry)
  obtain ⟨us, r1, p1, _⟩ := I.list ha
  obtain ⟨ws, r2, p2, _⟩ := I.list hb
  cases r2
  cases xs with
  | nil =>
    cases r1
    exact RcNeAt.lists (e := fun _ => true) p1.isList p2.isList rfl (by omega) (fun j h1 _ => absurd h1 (Nat.not_lt_zero j)) X.prog X.w _ _ ⟨.bl false, H, I, rfl, q⟩
  | cons x0 xs =>
    cases r1 with
    | cons ra rb => exact RcNeAt.lists_lengths p1.isList p2.isList (by simp) (by omega) X.prog X.w _ _ ⟨.bl true, H, I, rfl, q⟩
end
end L2
namespace Lp
open PySem PySem.Spec PyProof.Rows L2
/-! ### callees that may raise -/
/-- a def of the module that may raise -/
def CalX (P : Program) (w : World) (K : PySem.W.Frag) (mg : Str → Option Value) (base : Heap) (k : Nat) (x : Str) (ps : List Str) (sp : Sp) : Prop :=
  ∃ f fd, FnOk P w K mg base (L2.CX P w) k f fd ps sp ∧ Binds K fd ps [] ∧ PySem.W.keepIn K (.ref f) = true ∧ mg x = some (.ref f)
section
variable {P : Program} {w : World} {K : PySem.W.Frag} {mg : Str → Option Value} {base : Heap} {j k : Nat} {x : Str} {ps : List Str} {sp sp' : Sp}
theorem CalX.mono (c : CalX P w K mg base j x ps sp) (h : j ≤ k) : CalX P w K mg base k x ps sp :=
  let ⟨f, fd, F, r⟩ := c; ⟨f, fd, F.mono h, r⟩
/-- where it raises nothing -/
theorem CalX.calm (c : CalX P w K mg base k x ps sp) (h : ∀ vs H Q E, sp' vs H Q E → sp vs H Q E0) : Cal P w K mg base k x ps sp' := by
  obtain ⟨f, fd, F, r⟩ := c
  refine ⟨f, fd, ⟨fun vs H Q E q => F.len vs H Q E0 (h _ _ _ _ q), fun A outer s H args us vs Q E hr he hb hv hs => codeAny_mono (F.run A outer s H args us vs Q E0 hr he hb hv (h _ _ _ _ hs)) fun r s' z => ?_⟩, r⟩
  cases r with
  | ok fl => cases fl <;> exact z
  | error e =>
    obtain ⟨_, _, _, _, _, _, _, _, _, _, _, _, q⟩ := z
    exact q.elim
end
section
variable {X : Cx} {k : Nat} {x m : Str} {ps : List Str} {sp : Sp} {E : XK} {p pos p2 pos2 : Pos} {e : Expr} {es : List Expr} {t : TA} {C : Addr} {j : Nat}
abbrev tCallX (sp : Sp) (E : XK) (t : TA) : TE := tCallS sp (fun _ => E) t
theorem pcX (c : CalX X.prog X.w X.K X.mg X.base k x ps sp) (hr : Room k X.A) (tk : Takes X (fun cls d _ H => E cls d H)) (ha : PA X (e :: es) t) (hg : Gl X x := by rfl) (hdb : (x == ("__debug__" : Str)) = false := by decide)
    (he : starEach (e :: es) X.env = (false, eval e X.env) :: starEach es X.env := by rfl) (hpl : (backTo pos (starEach es X.env)).any (·.1) = false := by rfl) : PE X (.Call (.Name x p) (e :: es) [] pos) (tCallX sp E t) := by
  obtain ⟨f, fd, F, b, kp, hm⟩ := c
  exact pe_callS F hr hg hm kp b (fun σ => passAt tk σ) ha hdb he hpl
/-- an own class of errors, with no __init__ of its own, under ValueError -/
structure ExU (K : PySem.W.Frag) (mg : Str → Option Value) (x : Str) (C : Addr) : Prop where
  g : mg x = some (.ref C)
  q : PySem.W.excIn K C He.veBase "ValueError.__new__" = true
  kp : PySem.W.keepIn K (.ref C) = true
  sb : PySem.W.subIn K (.ref C) (.type "BaseException") = some true
  ty : PySem.W.typeIn K (.ref C) = some (.type "type")
/-- raise C('..') -/
def tRz (C : Addr) (E : XK) : TS := fun _ _ H => E (.ref C) none H
theorem ps_rz (u : ExU X.K X.mg x C) (tk : Takes X (fun cls d _ H => E cls d H)) (hc : X.calm = true := by rfl) (hg : Gl X x := by rfl) (hdb : (x == ("__debug__" : Str)) = false := by decide) :
    PS X (.Raise (some (.Call (.Name x p) [.Constant (.str m) j p2] [] pos)) none pos2) (tRz C E) :=
  ps_raise hc tk (pmk_own PySem.F.excBase_ValueError u.q u.g u.kp (raises_own u.sb u.ty) hg hdb)
end
/-! ### a written dict with text keys and numbers -/
structure KdF (K : PySem.W.Frag) (w : World) (d : Addr) (tbl : List (Str × Nat)) : Prop where
  at_ : ∃ es n, KDict K w d es n
  has : ∀ z n, tbl.lookup z = some n → ∃ u, PySem.W.nsIn K d z = some (some u) ∧ RelV (.int (n : Int)) u
  no : ∀ z, tbl.lookup z = none → PySem.W.nsIn K d z = some none
def rNiK (d : Addr) (tbl : List (Str × Nat)) : R2 := fun x y H Q => ∃ z, x = .str z ∧ y = .ref d ∧ Q (.bl (!(tbl.lookup z).isSome)) H
def rIxK (d : Addr) (tbl : List (Str × Nat)) : R2 := fun x y H Q => ∃ z n, x = .ref d ∧ y = .str z ∧ tbl.lookup z = some n ∧ Q (.int (n : Int)) H
section
variable {X : Cx} {d : Addr} {tbl : List (Str × Nat)}
theorem op_niK (T : KdF X.K X.w d tbl) : OpR X (compareOp .NotIn) (rNiK d tbl) := by
  intro pins s σ H x y v u Q I rx ry h
  obtain ⟨es, n, D⟩ := T.at_
  obtain ⟨z, rfl, rfl, q⟩ := h
  cases e : tbl.lookup z with
  | none =>
    rw [e] at q
    exact op_notIn_kd D pins s σ H _ _ v u Q I rx ry ⟨z, none, rfl, rfl, T.no z e, q⟩
  | some m =>
    rw [e] at q
    obtain ⟨u0, e2, _⟩ := T.has z m e
    exact op_notIn_kd D pins s σ H _ _ v u Q I rx ry ⟨z, some u0, rfl, rfl, e2, q⟩
theorem ix_K (T : KdF X.K X.w d tbl) : IxR X (rIxK d tbl) := by
  intro value slice pins s σ H x y v u Q I rx ry h hs
  obtain ⟨es, n, D⟩ := T.at_
  obtain ⟨z, m, rfl, rfl, e, q⟩ := h
  obtain ⟨u0, e2, r⟩ := T.has z m e
  exact ix_kdict value slice pins s σ H _ _ v u Q I rx ry ⟨d, z, .int (m : Int), rfl, rfl, ⟨es, n, u0, D.at_, D.lit, e2, r⟩, q⟩ hs
end
/-- the table's rows in the hook: its keys and values -/
theorem kdF_of {K : PySem.W.Frag} {w : World} {d : Addr} {tbl : List (Str × Nat)} (h : He.dicW K d = some (He.keysIn w.params (tbl.map (·.1)))) (hv : He.valsB K d (tbl.map fun q => (q.1, .int (q.2 : Int))) = true) : KdF K w d tbl := by
  refine ⟨He.dicW_ok h, fun z n e => ?_, fun z e => ?_⟩
  · have hm : (z, n) ∈ tbl := by
      clear h hv
      induction tbl with
      | nil => cases e
      | cons p r ih =>
        obtain ⟨a, m⟩ := p
        have e : (match z == a with | true => some m | false => r.lookup z) = some n := e
        cases q : (z == a) with
        | true =>
          rw [q] at e
          injection e with e
          rw [eq_of_beq q, e]
          exact List.mem_cons_self
        | false =>
          rw [q] at e
          exact List.mem_cons_of_mem _ (ih e)
    obtain ⟨u, e1, r⟩ := He.valsB_ok hv (q := (z, .int (n : Int))) (List.mem_map.mpr ⟨_, hm, rfl⟩)
    exact ⟨u, e1, r⟩
  · obtain ⟨es, n, D⟩ := He.dicW_ok h
    unfold He.dicW at h
    rw [D.at_] at h
    have h1 : (match decide ("dict" = "dict") && ((#[] : Array (Option Value)).isEmpty && !(d == sysModules)) with | true => some (es.toList.map He.keyOf) | false => none) = some (He.keysIn w.params (tbl.map (·.1))) := h
    rw [D.low] at h1
    have h2 : es.toList.map He.keyOf = He.keysIn w.params (tbl.map (·.1)) := Option.some.inj h1
    unfold PySem.W.nsIn
    rw [D.at_]
    have key : ∀ {l : List DictEntry} {ks : List Str}, l.map He.keyOf = He.keysIn w.params ks → z ∉ ks → l.find? (·.key.isStr z) = none ∧ l.any (·.refKey) = false := by
      intro l
      induction l with
      | nil => intro ks _ _; exact ⟨rfl, rfl⟩
      | cons a l ih =>
        intro ks hk hz
        cases ks with
        | nil => cases hk
        | cons k ks =>
          have hk : He.keyOf a :: l.map He.keyOf = some (k, PyData.keyHash w.params k) :: He.keysIn w.params ks := hk
          injection hk with h3 h4
          obtain ⟨i1, i2⟩ := ih h4 fun hm => hz (List.mem_cons_of_mem _ hm)
          unfold He.keyOf at h3
          split at h3
          · rename_i y t q
            have h5 := (Prod.mk.inj (Option.some.inj h3)).1
            have e1 : a.key.isStr z = false := by
              rw [q]
              show (y == z) = false
              rw [h5]
              exact beq_eq_false_iff_ne.mpr fun e => hz (by rw [e]; exact List.mem_cons_self)
            have e2 : a.refKey = false := by unfold DictEntry.refKey; rw [q]; try rfl
            refine ⟨?_, ?_⟩
            · rw [List.find?_cons, e1]; exact i1
            · rw [List.any_cons, e2]; exact i2
          · cases h3
    have hz : z ∉ tbl.map (·.1) := by
      clear h h1 h2 hv key
      induction tbl with
      | nil => intro hm; cases hm
      | cons p r ih =>
        obtain ⟨a, m⟩ := p
        have e : (match z == a with | true => some m | false => r.lookup z) = none := e
        cases q : (z == a) with
        | true => rw [q] at e; cases e
        | false =>
          rw [q] at e
          intro hm
          rcases List.mem_cons.mp hm with hm | hm
          · rw [hm] at q
            have : (a == a) = true := beq_self_eq_true a
            rw [this] at q; cases q
          · exact ih e hm
    obtain ⟨k1, k2⟩ := key h2 hz
    dsimp only
    rw [k1, k2]
    rfl
/-! ### texts -/
abbrev rLenStr : List V → Hp → VK → Prop := fun xs H Q => ∃ z, xs = [.str z] ∧ z.length ≤ sizeLine ∧ Q (.int z.length) H
theorem _root_.L2.Room.units1 {k : Nat} {A : Around} (r : Room k A) : A.units + 1 < cLine := by have := r.units; omega
def rStarts : V → List V → Hp → VK → Prop := fun x xs H Q => ∃ a b, x = .str a ∧ xs = [.str b] ∧ Q (.bl (Txt.startswith a b)) H
def rIntS : List V → Hp → VK → Prop := fun xs H Q => ∃ a n, xs = [.str a] ∧ PySem.intText? a = some n ∧ a.length ≤ 640 ∧ Q (.int n) H
def rNiSg : R2 := fun x y H Q => ∃ (c : Nat) (z : Str), x = .str ⟨#[c]⟩ ∧ y = .str z ∧ Q (.bl (!decide (c ∈ z.cps.toList))) H
section
variable {X : Cx}
theorem pe_startsR {o e : Expr} {to te : TE} {apos pos : Pos} (ho : PE X o to) (he : PE X e te) (hs : starEach [e] X.env = [(false, eval e X.env)] := by rfl) (hb : attributeBase o "startswith" X.env (eval o X.env) = eval o X.env := by rfl) (hl : (apos.endLine == pos.line) = true := by rfl) :
    PE X (.Call (.Attribute o "startswith" apos) [e] [] pos) (tM1 rStarts to te) := pe_m1 PySem.F.slot_str_startswith PySem.F.type_str_startswith mt_startswith ho he hs hb hl
theorem call_intS : CallR X (.type "int") rIntS := call_int_str
theorem op_niSg : OpR X (compareOp .NotIn) rNiSg := op_notIn_sign
end
/-! ### d.update(e) -/
def tDUpd (td te : TE) : TE := fun σ H Q => td σ H fun x H1 => ∃ a, x = .ref a ∧ IsD H1 a ∧ te σ H1 fun y H2 => ∃ b kvs more, y = .ref b ∧ a ≠ b ∧ H2 a = some (.dK kvs) ∧ H2 b = some (.dK more) ∧ kvs.length + more.length ≤ 1000 ∧ Q .non (upd H2 a (.dK (mergeK kvs more)))
section
variable {X : Cx}
theorem d_update {pins : List (Addr × Obj)} {σ : L2.St} {H : Hp} {s : Shared} {a b : Addr} {kvs more : List (Key × V)} {A : Around} {E : Value → Shared → Prop} {Q : Value → Shared → Prop} (I : Inv X pins σ H s) (ne : a ≠ b) (e : H a = some (.dK kvs)) (e2 : H b = some (.dK more)) (hl : kvs.length + more.length ≤ 1000)
    (h : ∀ s', Inv X pins σ (upd H a (.dK (mergeK kvs more))) s' → Q .none s') : wpAny (model X.prog X.w) A (call (.builtin "dict.update") [.ref a, .ref b]) Q E s := by
  obtain ⟨z, hd, vs, rel, dd⟩ := dk_of I.hok e
  obtain ⟨z2, hd2, vs2, rel2, dd2⟩ := dk_of I.hok e2
  refine call_meetsIn PySem.F.slot_dict_update dd.typeIs PySem.F.entry_dict_update (PySem.F.args_dict_update_2 _ _) (meets_dict_update (mixKind X.prog X.w) a b ne hd2)
    ⟨vs, vs2, dd, dd2, by rw [← rel.length, ← rel2.length, sizeLine_eq]; omega, fun h' dd' _ hs => h _ ?_⟩
  have he : ∃ q, h'.get? a = some q := let ⟨q, _, _, hq, _⟩ := dd'; ⟨q, hq⟩
  have hz : (mergeK kvs more).length ≤ sizeLine := by
    have := length_mergeK more kvs
    rw [sizeLine_eq]; omega
  exact d_write (t' := s.toks) I (by rw [e]; exact True.intro) hs he (dk_new hz hd (rel2.merge rel) dd')
theorem pe_dupd {o e : Expr} {apos cpos : Pos} {td te : TE} (ho : PE X o td) (he : PE X e te) (m : M1 X o "update" apos e cpos) : PE X (.Call (.Attribute o "update" apos) [e] [] cpos) (tDUpd td te) := by
  refine ⟨fun pins s σ H Q I h => ?_⟩
  refine wpAny_Call_method m.base m.few m.line PySem.F.plainAttrs_dict PySem.F.slot_dict_update PySem.F.type_dict_update (thn (ho.run pins s σ H _ I h) fun u s1 ⟨x, H1, I1, rx, a, ex, d, q1⟩ => ?_)
  subst ex
  obtain rfl : u = Value.ref a := rx
  obtain ⟨t1, t2, _⟩ := isD_at I1 d
  refine ⟨t1, t2, ?_⟩
  rw [m.trees]
  refine Calls.callWith_builtin rfl (Calls.evalArgs_plain (Calls.spliced_cons (thn (he.run pins s1 σ H1 _ I1 q1) fun iv s2 ⟨y, H2, I2, ry, b, kvs, more, ey, ne, ea, eb, hl, q2⟩ => Calls.spliced_nil ?_)))
  subst ey
  obtain rfl : iv = Value.ref b := ry
  exact d_update I2 ne ea eb hl fun s3 I3 => ⟨.non, _, I3, rfl, q2⟩
end
/-! ### sorted(d) -/
def rSortD : List V → Hp → VK → Prop := fun xs H Q => ∃ (a : Addr) (kvs : List (Key × V)) (ks : List Str), xs = [.ref a] ∧ Rd H a (.dK kvs) ∧ kvs.map (·.1) = ks.map Sum.inr ∧ ks.length < 64 ∧
    ∀ ys p, ys.Perm ks → sortedS ys = true → H p = none → Q (.ref p) (upd H p (.lst (ys.map V.str)))
theorem call_sortD {X : Cx} (hc : X.calm = true) : CallR X (.builtin "sorted") rSortD := call_sortedD hc
end Lp

/-! LyX: try, and isinstance of what was caught. -/
namespace Lp
open PySem PySem.Spec PyProof.Rows L2
section
variable {X : Cx} {k : Nat} {x n : Str} {ps : List Str} {sp : Sp} {W : WX} {p pos pos' np : Pos} {e : Expr} {es : List Expr} {t : TA} {C : Addr} {i : Nat} {body suite : List Stmt} {b₀ : Stmt} {tb : WX → TS} {ts : Addr → Value → Option Addr → TS}
theorem pcW (c : CalX X.prog X.w X.K X.mg X.base k x ps sp) (hr : Room k X.A) (tk : Takes X W) (ha : PA X (e :: es) t) (hg : Gl X x := by rfl) (hdb : (x == ("__debug__" : Str)) = false := by decide)
    (he : starEach (e :: es) X.env = (false, eval e X.env) :: starEach es X.env := by rfl) (hpl : (backTo pos (starEach es X.env)).any (·.1) = false := by rfl) : PE X (.Call (.Name x p) (e :: es) [] pos) (tCallS sp (WE W) t) := by
  obtain ⟨f, fd, F, b, kp, hm⟩ := c
  exact pe_callS F hr hg hm kp b (fun σ => passAt tk σ) ha hdb he hpl
/-- try: .. except C as n: .. -/
def tTryAs (K : PySem.W.Frag) (C : Addr) (i : Nat) (tb : WX → TS) (ts : Addr → Value → Option Addr → TS) : TS := fun D σ H => tb (wAs K (.ref C) i ts (fun _ _ _ _ => False) D) D σ H
theorem ps_tryAs (hs : X.stack = X.env :: X.outer) (hf : X.env.frame = some X.env.locals) (hN : X.N.Nodup) (hi : X.N[i]? = some n) (hln : X.env.kindOf n = some .local) (hc : Names X x (.ref C))
    (hb : ∀ (W : WX) (pn : List (Addr × Obj)) (xe : Value → Shared → Prop), Takes (X.tr pn xe) W → PassesOwn (model X.prog X.w) X.A X.env xe → PSs (X.tr pn xe) body (tb W))
    (hsu : ∀ (a : Addr) (oe : Obj) (cls : Value) (d : Option Addr) (pn : List (Addr × Obj)), Zc cls d oe → (∃ vs, oe.data = .fields vs) → PSs (X.suite a ((a, oe) :: pn)) (b₀ :: suite) (ts a cls d)) :
    PS X (.Try body [.ExceptHandler (some (.Name x np)) (some n) (b₀ :: suite) pos'] [] [] pos) (tTryAs X.K C i tb ts) := ps_try_as hs hf hN hi hln hc takes0 hb hsu
/-- try: .. except C: .. -/
def tTryOnly (K : PySem.W.Frag) (C : Addr) (tb : WX → TS) (ts : Addr → Value → Option Addr → TS) : TS := fun D σ H => tb (wOnly K (.ref C) ts (fun _ _ _ _ => False) D) D σ H
theorem ps_tryOnly (hs : X.stack = X.env :: X.outer) (hf : X.env.frame = some X.env.locals) (hc : Names X x (.ref C))
    (hb : ∀ (W : WX) (pn : List (Addr × Obj)) (xe : Value → Shared → Prop), Takes (X.tr pn xe) W → PassesOwn (model X.prog X.w) X.A X.env xe → PSs (X.tr pn xe) body (tb W))
    (hsu : ∀ (a : Addr) (oe : Obj) (cls : Value) (d : Option Addr) (pn : List (Addr × Obj)), Zc cls d oe → (∃ vs, oe.data = .fields vs) → PSs (X.suite a ((a, oe) :: pn)) (b₀ :: suite) (ts a cls d)) :
    PS X (.Try body [.ExceptHandler (some (.Name x np)) none (b₀ :: suite) pos'] [] [] pos) (tTryOnly X.K C tb ts) := ps_try_only hs hf hc takes0 hb hsu
end
/-- isinstance(e, c), e what the suite holds: an error of an own class D -/
def rIsEx (K : PySem.W.Frag) (a : Addr) (cls : Value) (d : Option Addr) : List V → Hp → VK → Prop := fun xs H Q => ∃ D, cls = .ref D ∧ d = none ∧ ExcC K D ∧ rIsE K D a xs H Q
theorem call_isEx {X : Cx} {a : Addr} {oe : Obj} {cls : Value} {d : Option Addr} {pn : List (Addr × Obj)} (hz : Zc cls d oe) (hf : ∃ vs, oe.data = .fields vs) : CallR (X.suite a ((a, oe) :: pn)) (.builtin "isinstance") (rIsEx X.K a cls d) := by
  intro pins s σ H xs us Q I r h
  obtain ⟨D, rfl, rfl, C, h⟩ := h
  exact call_isE C hz hf pins s σ H xs us Q I r h
/-- what the hook looks at -/
def excB (K : PySem.W.Frag) (x : Str) : Bool :=
  decide (PySem.W.findIn K (.ref (He.ga K x)) "__getattribute__" = some (some (.builtin "BaseException.__getattribute__"))) && (decide (PySem.W.findIn K (.ref (He.ga K x)) "__getattr__" = some none) && (decide (PySem.W.subIn K (.ref (He.ga K x)) (.type "BaseException") = some true) &&
    (PySem.W.hasDictIn K (He.ga K x) && (decide (PySem.W.findIn K (.ref (He.ga K x)) "__class__" = some (some (.builtin "object.__class__"))) && (decide (PySem.W.specialIn K (.builtin "object.__class__") "__get__" = some (some (.builtin "getset_descriptor.__get__"))) &&
      (decide (PySem.W.takesIn K (.builtin "object.__class__") = some true) && decide (PySem.W.mroIn K (He.ga K x) (.type "object") = some true)))))))
theorem excB_ok {K : PySem.W.Frag} {x : Str} (h : excB K x = true) : ExcC K (He.ga K x) := by
  obtain ⟨h1, h⟩ := Bool.and_eq_true_iff.mp h
  obtain ⟨h2, h⟩ := Bool.and_eq_true_iff.mp h
  obtain ⟨h3, h⟩ := Bool.and_eq_true_iff.mp h
  obtain ⟨h4, h⟩ := Bool.and_eq_true_iff.mp h
  obtain ⟨h5, h⟩ := Bool.and_eq_true_iff.mp h
  obtain ⟨h6, h⟩ := Bool.and_eq_true_iff.mp h
  obtain ⟨h7, h8⟩ := Bool.and_eq_true_iff.mp h
  exact ⟨of_decide_eq_true h1, of_decide_eq_true h2, of_decide_eq_true h3, h4, of_decide_eq_true h5, of_decide_eq_true h6, of_decide_eq_true h7, of_decide_eq_true h8⟩
/-- an error of the class x is one of y, or not -/
def kitB (K : PySem.W.Frag) (x y : Str) (b : Bool) : Bool := decide (PySem.W.kitOne K (.ref (He.ga K x)) (.ref (He.ga K y)) = some b)
def kitT (K : PySem.W.Frag) (x : Str) (y : String) (b : Bool) : Bool := decide (PySem.W.kitOne K (.ref (He.ga K x)) (.type y) = some b)
theorem kitB_ok {K : PySem.W.Frag} {x y : Str} {b : Bool} (h : kitB K x y b = true) : PySem.W.kitOne K (.ref (He.ga K x)) (.ref (He.ga K y)) = some b := of_decide_eq_true h
theorem kitT_ok {K : PySem.W.Frag} {x : Str} {y : String} {b : Bool} (h : kitT K x y b = true) : PySem.W.kitOne K (.ref (He.ga K x)) (.type y) = some b := of_decide_eq_true h
theorem rIsE_ref {K : PySem.W.Frag} {D a C : Addr} {b : Bool} {H : Hp} {Q : VK} (h : PySem.W.kitOne K (.ref D) (.ref C) = some b) (q : Q (.bl b) H) : rIsE K D a [.ref a, .ref C] H Q := ⟨.ref C, .ref C, b, rfl, fun u r => r, h, q⟩
theorem rIsE_ty {K : PySem.W.Frag} {D a : Addr} {n : String} {b : Bool} {H : Hp} {Q : VK} (h : PySem.W.kitOne K (.ref D) (.type n) = some b) (q : Q (.bl b) H) : rIsE K D a [.ref a, .ty n] H Q := ⟨.ty n, .type n, b, rfl, fun u r => r, h, q⟩
end Lp

/-! LvX: methods that raise; list.count of flat items. -/
namespace Lp
open PySem PySem.Spec PyProof.Rows L2
/-- a method of the class at C that may raise -/
def CalXM (P : Program) (w : World) (K : PySem.W.Frag) (mg : Str → Option Value) (base : Heap) (k : Nat) (C : Addr) (m : Str) (ps : List Str) (sp : Sp) : Prop :=
  ∃ f fd, FnOk P w K mg base (L2.CX P w) k f fd ps sp ∧ Binds K fd ps [] ∧ Cls K C ∧ Meth K C m f
section
variable {P : Program} {w : World} {K : PySem.W.Frag} {mg : Str → Option Value} {base : Heap} {j k : Nat} {m : Str} {C f : Addr} {fd : FuncData} {ps : List Str} {sp sp' : Sp}
theorem CalXM.mono (c : CalXM P w K mg base j C m ps sp) (h : j ≤ k) : CalXM P w K mg base k C m ps sp :=
  let ⟨f, fd, F, r⟩ := c; ⟨f, fd, F.mono h, r⟩
theorem CalXM.imp (c : CalXM P w K mg base j C m ps sp) (h : ∀ vs H Q E, sp' vs H Q E → sp vs H Q E) : CalXM P w K mg base j C m ps sp' :=
  let ⟨f, fd, F, r⟩ := c; ⟨f, fd, F.imp h, r⟩
theorem FnOk.zeroX (z : ∀ vs H Q E, ¬ sp vs H Q E) : FnOk P w K mg base (L2.CX P w) k f fd ps sp :=
  ⟨fun vs H Q E h => absurd h (z vs H Q E), fun A outer s H args us vs Q E _ _ _ _ h => absurd h (z vs H Q E)⟩
end
section
variable {X : Cx} {k : Nat} {C : Addr} {m : Str} {ps : List Str} {sp : Sp} {E : XK} {pos apos : Pos} {e o : Expr} {es : List Expr} {ta : TE} {t : TA}
theorem pmX {pl : Sem Bool} (c : CalXM X.prog X.w X.K X.mg X.base k C m ps sp) (hr : Room k X.A) (tk : Takes X (fun cls d _ H => E cls d H)) (he : PE X o ta) (ha : PA X (e :: es) t)
    (hst : starEach (e :: es) X.env = (false, eval e X.env) :: starEach es X.env := by rfl) (hpl : (backTo pos (starEach es X.env)).any (·.1) = false := by rfl)
    (ht : eval (.Call (.Attribute o m apos) (e :: es) [] pos) X.env = (do
      let ov ← eval o X.env
      standAt apos.atName
      let (f, first) ← holding [ov] (getMethod ov m pl)
      callWith pos f first (backTo pos (starEach (e :: es) X.env)) (backToKw pos (keywordEach [] X.env))) := by rfl) :
    PE X (.Call (.Attribute o m apos) (e :: es) [] pos) (tMeth C m sp [] E ta t) := by
  obtain ⟨f, fd, F, b, cl, hm⟩ := c
  exact pe_meth he cl hm F hr b .nil (passes_call tk fun _ _ _ _ h => h) ha hst hpl ht
end
/-! ### xs.count(y), flat items -/
def rCntV (K : PySem.W.Frag) : V → List V → Hp → VK → Prop := fun x xs H Q => ∃ (a : Addr) (ys : List V) (y : V), x = .ref a ∧ xs = [y] ∧ SqL K H a ys ∧ flatV y = true ∧ ys.all flatV = true ∧ Q (.int ((ys.countP fun z => eqV z y) : Nat)) H
theorem count_eqU {y : V} : ∀ {ys : List V} {us : List Value}, Vals ys us → ys.all flatV = true → us.countP (eqU y) = ys.countP fun z => eqV z y := by
  intro ys us r
  induction r with
  | nil => intro _; rfl
  | cons a b ih =>
    intro h
    obtain ⟨h1, h2⟩ := Bool.and_eq_true_iff.mp (show (flatV _ && List.all _ flatV) = true from h)
    rw [List.countP_cons, List.countP_cons, ih h2, eqU_of a h1]
theorem mt_countV {X : Cx} : MtR X "list.count" (rCntV X.K) := by
  intro pins s σ H x xs v us Q I rx rxs h
  obtain ⟨a, ys, y, rfl, rfl, hs, fy, fys, q⟩ := h
  cases rx
  cases rxs with
  | cons ry rt =>
    rename_i uy ut
    cases rt
    obtain ⟨its, rv, ⟨⟨cls, dd, data, sl⟩, n, ho, hc, hdn, hd⟩, hlen⟩ := I.list hs
    simp only at hc hd
    subst hc hd
    refine call_meets PySem.F.slot_list_count ⟨_, ho, rfl⟩ PySem.F.entry_list_count (PySem.F.args_list_count_2 _ _)
      (SeqAt.list_countAt a its.toArray n dd sl uy (eqU y)) ⟨ho, fun u' hu' => mem_eqAt ry fy rv fys u' (by simpa using hu'), ?_⟩
    refine ⟨.int ((ys.countP fun z => eqV z y) : Nat), H, I.tok _, ⟨s.toks, ?_⟩, q⟩
    show Value.int ((its.toArray.toList.countP (eqU y) : Nat) : Int) s.toks = Value.int (((ys.countP fun z => eqV z y) : Nat) : Int) s.toks
    rw [List.toList_toArray, count_eqU rv fys]
end Lp

/-! LvY: the first wrong in a program's order. -/
namespace Lp
open PySem PySem.Spec PyProof.Rows L2
inductive Wr where
  | stray | unknown | uneven
  deriving DecidableEq
def Wr.s : Wr → Str
  | .stray => "stray"
  | .unknown => "unknown"
  | .uneven => "uneven"
def wrS : Option Wr → Str
  | none => ""
  | some w => w.s
theorem wrS_ne {w : Wr} : w.s ≠ "" := by cases w <;> decide
theorem wrS_inj {a b : Option Wr} (h : wrS a = wrS b) : a = b := by
  cases a with
  | none => cases b with
    | none => rfl
    | some w => exact absurd h.symm wrS_ne
  | some v => cases b with
    | none => exact absurd h wrS_ne
    | some w => cases v <;> cases w <;> first | rfl | (exfalso; revert h; decide)
def Hds.bad (nk : Nat) : Hds → Bool
  | .nil => false
  | .cons k _ _ r => (match k with | some j => decide (nk ≤ j) | none => false) || r.bad nk
mutual
def Sm.wrong (cs : List Nat) (nk : Nat) (turn hand : Bool) : Sm → Option Wr
  | .row ps => ps.wrong cs nk turn hand
  | .ife _ s t => (s.wrong cs nk turn hand).or (t.wrong cs nk turn hand)
  | .whl _ s => s.wrong cs nk true hand
  | .tri s hs => if hs.bad nk = true then some .unknown else (s.wrong cs nk turn hand).or (hs.wrong cs nk turn)
  | .cln s c => (s.wrong cs nk turn hand).or (c.wrong cs nk turn hand)
  | .call _ f ps _ => match cs[f]? with
    | none => some .unknown
    | some n => if ps.length = n then none else some .uneven
  | .rais kd _ _ => if nk ≤ kd then some .unknown else none
  | .brk => if turn = true then none else some .stray
  | .cnt => if turn = true then none else some .stray
  | .again => if hand = true then none else some .stray
  | _ => none
def Sms.wrong (cs : List Nat) (nk : Nat) (turn hand : Bool) : Sms → Option Wr
  | .nil => none
  | .cons s r => (s.wrong cs nk turn hand).or (r.wrong cs nk turn hand)
def Hds.wrong (cs : List Nat) (nk : Nat) (turn : Bool) : Hds → Option Wr
  | .nil => none
  | .cons _ _ t r => (t.wrong cs nk turn true).or (r.wrong cs nk turn)
end
/-- the first wrong of all functions -/
def Pg.wrong (p : Pg) : Option Wr := p.funs.foldr (fun f r => (f.2.wrong p.cs p.kinds.length false false).or r) none
theorem foldr_or_none {α : Type} {f : α → Option Wr} : ∀ {l : List α}, (l.foldr (fun x r => (f x).or r) none = none) ↔ ∀ x ∈ l, f x = none
  | [] => by simp
  | a :: l => by
    have ih := foldr_or_none (f := f) (l := l)
    rw [List.foldr_cons]
    cases h : f a with
    | none => rw [Option.none_or, ih]; simp [h]
    | some w => simp [h]
/-- what is told: the first that is not empty -/
def firstS : List Str → Str
  | [] => ""
  | s :: r => if s = "" then firstS r else s
theorem firstS_wr {α : Type} {f : α → Option Wr} : ∀ {l : List α}, firstS (l.map fun x => wrS (f x)) = wrS (l.foldr (fun x r => (f x).or r) none)
  | [] => rfl
  | a :: l => by
    rw [List.map_cons, List.foldr_cons]
    show (if wrS (f a) = "" then firstS _ else wrS (f a)) = _
    cases h : f a with
    | none => rw [if_pos (show wrS none = ("" : Str) from rfl), firstS_wr, Option.none_or]
    | some w => rw [if_neg (show wrS (some w) ≠ ("" : Str) from wrS_ne)]; rfl
end Lp

/-! LvZ: the readings of the Looker. -/
namespace Lp
open PySem PySem.Spec PyProof.Rows L2
def t_Looker_kind (K : PySem.W.Frag) (C_Unknown : Addr) (E : XK) : TS :=
  tIfS (tAnd (tTest (tOp rNtN (tVar 1) (tC .non))) (tTest (tOp rGe (tVar 1) (tCB (rLenQ K) (tCons (tFld K (tVar 0) "kinds") (tNil)))))) (tRz C_Unknown E) (tNext)

def t_Looker_call (K : PySem.W.Frag) (C_Unknown : Addr) (C_Uneven : Addr) (E : XK) : TS :=
  tSeq (tIfS (tTest (tOp rGe (tOp (rIxT K) (tVar 1) (tC (.int 2))) (tCB (rLenQ K) (tCons (tFld K (tVar 0) "functions") (tNil))))) (tRz C_Unknown E) (tNext)) (tIfS (tTest (tOp rNe (tCB (rLenQ K) (tCons (tOp (rIxT K) (tVar 1) (tC (.int 3))) (tNil))) (tOp (rIxT K) (tOp (rIxT K) (tFld K (tVar 0) "functions") (tOp (rIxT K) (tVar 1) (tC (.int 2)))) (tC (.int 0))))) (tRz C_Uneven E) (tNext))

namespace K3
theorem gn {k : Nat} {v : V} {σ : L2.St} {H : Hp} {Q : L2.St → Hp → Prop} (h : Q (σ.set k (some v)) H) : gName k v σ H Q := h
theorem seq {s t : TS} {D : Ends} {σ : L2.St} {H : Hp} (h : s { D with nx := t D } σ H) : tSeq s t D σ H := h
/-- what the top has of the class -/
structure LkTxt (K : PySem.W.Frag) (C : Addr) : Prop where
  cl : Cls K C
  kinds : NoAttr K C "kinds"
  functions : NoAttr K C "functions"
structure LkSt (K : PySem.W.Frag) (C : Addr) (p : Pg) (H : Hp) (lk : Addr) : Prop where
  ex : ∃ dx kv fv, H lk = some (.ins C dx [("kinds", kv), ("functions", fv)]) ∧ Tp K H kv (.tuple (p.kinds.map kindD)) ∧ Tp K H fv (.tuple (p.funs.map funD))
section
variable {K : PySem.W.Frag} {C CS CK CE : Addr}
theorem LkSt.same {p : Pg} {H H' : Hp} {lk : Addr} (r : LkSt K C p H lk) (s : Same H H') : LkSt K C p H' lk := by
  obtain ⟨dx, kv, fv, h, tk, tf⟩ := r.ex
  exact ⟨dx, kv, fv, s _ _ h, tk.mono (Tk.same s), tf.mono (Tk.same s)⟩
structure KindP (K : PySem.W.Frag) (C CK : Addr) (vs : List V) (H : Hp) (Q : VK) (E : XK) : Prop where
  ex : ∃ (lk : Addr) (p : Pg) (k : Option Nat), vs = [.ref lk, kindV k] ∧ LkSt K C p H lk ∧ ((∀ j, k = some j → j < p.kinds.length) → Q .non H) ∧ (∀ j, k = some j → p.kinds.length ≤ j → E (.ref CK) none H)
def spKind (K : PySem.W.Frag) (C CK : Addr) : Sp := KindP K C CK
theorem rd_kind (T : LkTxt K C) (vs : List V) (H : Hp) (Q : VK) (E : XK) (hh : spKind K C CK vs H Q E) : t_Looker_kind K CK E { nx := fun _ H' => Q .non H', rt := Q } (start ["self", "number"] vs) H := by
  obtain ⟨lk, p, k, rfl, r, q, e⟩ := hh.ex
  obtain ⟨dx, kv, fv, hi, tk, tf⟩ := r.ex
  obtain ⟨ka, ks, rfl, hK, tks⟩ := tk.tupE
  have lks : ks.length = p.kinds.length := by rw [tks.length, List.length_map]
  cases k with
  | none =>
    have p1 : PB (tTest (tOp rNtN (tVar 1) (tC .non))) [some (V.ref lk), some .non] H false := fun Q' q' => ⟨_, rfl, rfl, _, rfl, q'⟩
    exact r_ifF (fun Q' q' => p1 _ (ifF rfl q')) (q fun j h => by cases h)
  | some j =>
    have p1 : PB (tTest (tOp rNtN (tVar 1) (tC .non))) [some (V.ref lk), some (.int (j : Int))] H true := fun Q' q' => ⟨_, rfl, rfl, _, rfl, q'⟩
    have p2 : PB (tTest (tOp rGe (tVar 1) (tCB (rLenQ K) (tCons (tFld K (tVar 0) "kinds") (tNil))))) [some (V.ref lk), some (.int (j : Int))] H (decide ((ks.length : Int) ≤ (j : Int))) :=
      fun Q' q' => ⟨_, rfl, _, rfl, lk, C, dx, _, _, rfl, hi, T.cl, T.kinds, rfl, ka, ks, rfl, .inr hK, _, _, rfl, rfl, _, rfl, q'⟩
    refine r_if (pb_and p1 p2) (fun hu => ?_) (fun hu => ?_)
    · have := of_decide_eq_true (show decide ((ks.length : Int) ≤ (j : Int)) = true from hu)
      exact e j rfl (by omega)
    · have := of_decide_eq_false (show decide ((ks.length : Int) ≤ (j : Int)) = false from hu)
      exact q fun j' h => by injection h with h; omega
/-! ### call -/
structure CallP (K : PySem.W.Frag) (C CK CE : Addr) (vs : List V) (H : Hp) (Q : VK) (E : XK) : Prop where
  ex : ∃ (lk : Addr) (p : Pg) (v : V) (x f : Nat) (ps : List Ex) (m : Int), vs = [.ref lk, v] ∧ LkSt K C p H lk ∧ Tp K H v (Sm.call x f ps m).d ∧
    (∀ n, p.cs[f]? = some n → ps.length = n → Q .non H) ∧ (∀ n, p.cs[f]? = some n → ps.length ≠ n → E (.ref CE) none H) ∧ (p.cs[f]? = none → E (.ref CK) none H)
def spLCall (K : PySem.W.Frag) (C CK CE : Addr) : Sp := CallP K C CK CE
theorem rd_lcall (T : LkTxt K C) (vs : List V) (H : Hp) (Q : VK) (E : XK) (hh : spLCall K C CK CE vs H Q E) : t_Looker_call K CK CE E { nx := fun _ H' => Q .non H', rt := Q } (start ["self", "one"] vs) H := by
  obtain ⟨lk, p, v, x, f, ps, m, rfl, r, tv, q, e1, e2⟩ := hh.ex
  obtain ⟨dx, kv, fv, hi, tk, tf⟩ := r.ex
  obtain ⟨fa, fs, rfl, hF, tfs⟩ := tf.tupE
  have lfs : fs.length = p.funs.length := by rw [tfs.length, List.length_map]
  have lcs : p.cs.length = p.funs.length := by unfold Pg.cs; rw [List.length_map]
  obtain ⟨a, x0, x1, x2, x3, x4, rfl, hT, t0, t1, t2, t3, t4⟩ := (show Tp K H v (.tuple [.str "call", .int (x : Int), .int (f : Int), .tuple (ps.map Ex.d), .int m]) from tv).tup5
  cases t0.strE; cases t1.intE; cases t2.intE
  obtain ⟨pa, pvs, rfl, hP, tps⟩ := t3.tupE
  have lps : pvs.length = ps.length := by rw [tps.length, List.length_map]
  have p1 : PB (tTest (tOp rGe (tOp (rIxT K) (tVar 1) (tC (.int 2))) (tCB (rLenQ K) (tCons (tFld K (tVar 0) "functions") (tNil))))) [some (V.ref lk), some (.ref a)] H (decide ((fs.length : Int) ≤ (f : Int))) :=
    fun Q' q' => rd_ixT (j := 2) rfl hT rfl ⟨_, rfl, lk, C, dx, _, _, rfl, hi, T.cl, T.functions, rfl, fa, fs, rfl, .inr hF, _, _, rfl, rfl, _, rfl, q'⟩
  refine seq (r_if p1 (fun hu => ?_) (fun hu => ?_))
  · have := of_decide_eq_true hu
    exact e2 (List.getElem?_eq_none (by omega))
  · have hlt := of_decide_eq_false hu
    have hf : f < p.funs.length := by omega
    have ef : p.funs[f]? = some p.funs[f] := List.getElem?_eq_getElem hf
    have ec : p.cs[f]? = some (p.funs[f]).1 := by unfold Pg.cs; rw [List.getElem?_map, ef]; rfl
    obtain ⟨y, hy, ty⟩ := tfs.get' (i := f) (d := funD p.funs[f]) (by rw [List.getElem?_map, ef]; rfl)
    generalize p.funs[f] = g at ec ty
    obtain ⟨ga, y0, y1, rfl, hG, g0, g1⟩ := (show Tp K H y (.tuple [.int (g.1 : Int), g.2.d]) from ty).tup2
    cases g0.intE
    dsimp only [tNext]
    have p2 : PB (tTest (tOp rNe (tCB (rLenQ K) (tCons (tOp (rIxT K) (tVar 1) (tC (.int 3))) (tNil))) (tOp (rIxT K) (tOp (rIxT K) (tFld K (tVar 0) "functions") (tOp (rIxT K) (tVar 1) (tC (.int 2)))) (tC (.int 0))))) [some (V.ref lk), some (.ref a)] H (!decide (V.int (pvs.length : Nat) = V.int (g.1 : Int))) :=
      fun Q' q' => rd_ixT (j := 3) rfl hT rfl ⟨pa, pvs, rfl, .inr hP, _, rfl, lk, C, dx, _, _, rfl, hi, T.cl, T.functions, rfl, rd_ixT (j := 2) rfl hT rfl ⟨fa, fs, _, _, rfl, rfl, hF, atI_nat hy, ga, _, ((0 : Nat) : Int), _, rfl, rfl, hG, atI_nat rfl, rfl, _, rfl, q'⟩⟩
    refine r_if p2 (fun hu => ?_) (fun hu => ?_)
    · refine e1 _ ec fun h => ?_
      rw [lps, h, decide_eq_true rfl] at hu
      cases hu
    · refine q _ ec ?_
      have : decide (V.int (pvs.length : Nat) = V.int (g.1 : Int)) = true := by
        cases h : decide (V.int (pvs.length : Nat) = V.int (g.1 : Int)) with
        | true => rfl
        | false => rw [h] at hu; cases hu
      have := of_decide_eq_true this
      injection this with this
      omega
end
end K3
end Lp

/-! Lc: rows, code, tables, as data; the two ways of filling in what is behind. -/
namespace Lp
open PySem PySem.Spec PyProof.Rows L2

inductive Rw where
  | num (n : Int)
  | var (k : Nat)
  | op (o : BOp)
  | say
  | set (k : Nat)
  | unless (q : Int)
  | go (z : Int)
  | turn
  | leap (q D : Int)
  | ret
  | rais (kd : Nat) (m : Int)
  | again
  | call (f n : Nat) (m : Int)
  | hand (b x : Int) (kd : Option Nat) (D : Int)
  | settled
  | mend
  | cup (b x D : Int)
  | resume
  deriving DecidableEq
def Rw.d : Rw → PyData
  | .num n => .tuple [.str "num", .int n]
  | .var k => .tuple [.str "var", .int (k : Int)]
  | .op o => .tuple [.str o.s]
  | .say => .tuple [.str "say"]
  | .set k => .tuple [.str "set", .int (k : Int)]
  | .unless q => .tuple [.str "unless", .int q]
  | .go z => .tuple [.str "go", .int z]
  | .turn => .tuple [.str "turn"]
  | .leap q D => .tuple [.str "leap", .int q, .int D]
  | .ret => .tuple [.str "return"]
  | .rais kd m => .tuple [.str "raise", .int (kd : Int), .int m]
  | .again => .tuple [.str "again"]
  | .call f n m => .tuple [.str "call", .int (f : Int), .int (n : Int), .int m]
  | .hand b x kd D => .tuple [.str "handler", .int b, .int x, kindD kd, .int D]
  | .settled => .tuple [.str "settled"]
  | .mend => .tuple [.str "mend"]
  | .cup b x D => .tuple [.str "cleanup", .int b, .int x, .int D]
  | .resume => .tuple [.str "resume"]
def Ex.code : Ex → List Rw
  | .num n => [.num n]
  | .var k => [.var k]
  | .bin o a b => a.code ++ b.code ++ [.op o]
def exsCode : List Ex → List Rw
  | [] => []
  | e :: r => e.code ++ exsCode r
/-- the innermost while: its top, the place behind, its depth -/
abbrev Tn : Type := Int × Int × Int
mutual
def Sm.code (base D : Int) (tn : Tn) : Sm → List Rw
  | .say e => e.code ++ [.say]
  | .set k e => e.code ++ [.set k]
  | .row ps => ps.code base D tn
  | .ife e s t => e.code ++ [.unless (base + e.len + 1 + s.len + 1)] ++ s.code (base + e.len + 1) D tn ++ [.go (base + e.len + 1 + s.len + 1 + t.len)] ++ t.code (base + e.len + 1 + s.len + 1) D tn
  | .whl e s => e.code ++ [.unless (base + e.len + 2 + s.len + 1), .turn] ++ s.code (base + e.len + 2) D (base, base + e.len + 2 + s.len + 1, D) ++ [.go base]
  | .brk => [.leap tn.2.1 tn.2.2]
  | .cnt => [.leap tn.1 tn.2.2]
  | .ret e => e.code ++ [.ret]
  | .call k f ps m => exsCode ps ++ [.call f ps.length m, .set k]
  | .rais kd e m => e.code ++ [.rais kd m]
  | .again => [.again]
  | .tri s hs => s.code base D tn ++ [.go (base + s.len + 1 + hs.len)] ++ hs.code base (base + s.len) (base + s.len + 1 + hs.len) (base + s.len + 1) D tn
  | .cln s c => s.code base D tn ++ [.mend, .cup base (base + s.len + 1) D] ++ c.code (base + s.len + 2) (D + 1) tn ++ [.resume]
def Sms.code (base D : Int) (tn : Tn) : Sms → List Rw
  | .nil => []
  | .cons s r => s.code base D tn ++ r.code (base + s.len) D tn
/-- handlers of the stretch b, x, from the place at_ on; z: the place behind all -/
def Hds.code (b x z at_ D : Int) (tn : Tn) : Hds → List Rw
  | .nil => []
  | .cons k sl t r => [.hand b x k D, .set sl] ++ t.code (at_ + 2) (D + 1) tn ++ [.settled, .go z] ++ r.code b x z (at_ + 2 + t.len + 2) D tn
end
theorem Ex.code_len : ∀ e : Ex, e.code.length = e.len
  | .num _ => rfl
  | .var _ => rfl
  | .bin _ a b => by simp [Ex.code, Ex.len, Ex.code_len a, Ex.code_len b]; omega
theorem exsCode_len : ∀ ps : List Ex, (exsCode ps).length = exsLen ps
  | [] => rfl
  | e :: r => by simp [exsCode, exsLen, Ex.code_len, exsCode_len r]
mutual
theorem Sm.code_len : ∀ (s : Sm) (base D : Int) (tn : Tn), (s.code base D tn).length = s.len
  | .say e, _, _, _ => by simp [Sm.code, Sm.len, Ex.code_len]
  | .set _ e, _, _, _ => by simp [Sm.code, Sm.len, Ex.code_len]
  | .row ps, _, _, _ => by simp [Sm.code, Sm.len, Sms.code_len ps]
  | .ife e s t, _, _, _ => by simp [Sm.code, Sm.len, Ex.code_len, Sm.code_len s, Sm.code_len t]; omega
  | .whl e s, _, _, _ => by simp [Sm.code, Sm.len, Ex.code_len, Sm.code_len s]; omega
  | .brk, _, _, _ => rfl
  | .cnt, _, _, _ => rfl
  | .ret e, _, _, _ => by simp [Sm.code, Sm.len, Ex.code_len]
  | .call _ _ ps _, _, _, _ => by simp [Sm.code, Sm.len, exsCode_len]
  | .rais _ e _, _, _, _ => by simp [Sm.code, Sm.len, Ex.code_len]
  | .again, _, _, _ => rfl
  | .tri s hs, _, _, _ => by simp [Sm.code, Sm.len, Sm.code_len s, Hds.code_len hs]; omega
  | .cln s c, _, _, _ => by simp [Sm.code, Sm.len, Sm.code_len s, Sm.code_len c]; omega
theorem Sms.code_len : ∀ (ps : Sms) (base D : Int) (tn : Tn), (ps.code base D tn).length = ps.len
  | .nil, _, _, _ => rfl
  | .cons s r, _, _, _ => by simp [Sms.code, Sms.len, Sm.code_len s, Sms.code_len r]
theorem Hds.code_len : ∀ (hs : Hds) (b x z at_ D : Int) (tn : Tn), (hs.code b x z at_ D tn).length = hs.len
  | .nil, _, _, _, _, _, _ => rfl
  | .cons k sl t r, _, _, _, _, _, _ => by simp [Hds.code, Hds.len, Sm.code_len t, Hds.code_len r]; omega
end

/-! ### no place is below nought, but where it is handed in -/
def Nng : Rw → Prop
  | .unless q => 0 ≤ q
  | .go z => 0 ≤ z
  | .leap q _ => 0 ≤ q
  | _ => True
theorem Ex.nng : ∀ (e : Ex), ∀ r ∈ e.code, ∀ w D z, r ≠ .leap w D ∧ r ≠ .go z
  | .num _, r, h, w, D, z => by simp [Ex.code] at h; subst h; simp
  | .var _, r, h, w, D, z => by simp [Ex.code] at h; subst h; simp
  | .bin o a b, r, h, w, D, z => by
    simp [Ex.code] at h
    rcases h with h | h | h
    · exact Ex.nng a r h w D z
    · exact Ex.nng b r h w D z
    · subst h; simp
theorem exsCode_nng : ∀ (ps : List Ex), ∀ r ∈ exsCode ps, ∀ w D z, r ≠ .leap w D ∧ r ≠ .go z
  | [], r, h, _, _, _ => by simp [exsCode] at h
  | e :: ps, r, h, w, D, z => by
    rcases List.mem_append.mp (show r ∈ e.code ++ exsCode ps from h) with h | h
    · exact Ex.nng e r h w D z
    · exact exsCode_nng ps r h w D z

/-! ### the law's way: a mark below nought, filled in behind by a look at each row -/
def subL (w z D : Int) (r : Rw) : Rw := if r = .leap w D then .leap z D else r
def subG (z : Int) (r : Rw) : Rw := if r = .go (-1) then .go z else r
theorem map_idL {w z D : Int} {l : List Rw} (h : ∀ r ∈ l, ∀ w D z, r ≠ .leap w D ∧ r ≠ .go z) : l.map (subL w z D) = l := by
  have : l.map (subL w z D) = l.map id := List.map_congr_left fun r hr => by
    unfold subL
    rw [if_neg (h r hr w D 0).1]; rfl
  rw [this, List.map_id]
theorem map_idG {z : Int} {l : List Rw} (h : ∀ r ∈ l, ∀ w D z, r ≠ .leap w D ∧ r ≠ .go z) : l.map (subG z) = l := by
  have : l.map (subG z) = l.map id := List.map_congr_left fun r hr => by
    unfold subG
    rw [if_neg (h r hr 0 0 (-1)).2]; rfl
  rw [this, List.map_id]
mutual
theorem Sm.subL {w z p D0 : Int} (hw : w < 0) (hp : 0 ≤ p) : ∀ (s : Sm) (base D : Int), 0 ≤ base → (s.code base D (p, w, D0)).map (subL w z D0) = s.code base D (p, z, D0)
  | .say e, _, _, _ => by simp [Sm.code, map_idL (Ex.nng e)]; rfl
  | .set _ e, _, _, _ => by simp [Sm.code, map_idL (Ex.nng e)]; rfl
  | .row ps, base, D, h => Sms.subL hw hp ps base D h
  | .ife e s t, base, D, h => by
    simp only [Sm.code, List.map_append, List.map_cons, List.map_nil, map_idL (Ex.nng e)]
    rw [Sm.subL hw hp s _ _ (by omega), Sm.subL hw hp t _ _ (by omega)]; rfl
  | .whl e s, base, D, h => by
    simp only [Sm.code, List.map_append, List.map_cons, List.map_nil, map_idL (Ex.nng e)]
    rw [Sm.subL_id hw s _ _ _ _ _ (by omega) h (by omega)]; rfl
  | .brk, _, _, _ => by simp [Sm.code, Lp.subL]
  | .cnt, _, _, _ => by
    have : p ≠ w := by omega
    simp [Sm.code, Lp.subL, this]
  | .ret e, _, _, _ => by simp [Sm.code, map_idL (Ex.nng e)]; rfl
  | .call _ _ ps _, _, _, _ => by simp [Sm.code, map_idL (exsCode_nng ps)]; exact ⟨rfl, rfl⟩
  | .rais _ e _, _, _, _ => by simp [Sm.code, map_idL (Ex.nng e)]; rfl
  | .again, _, _, _ => rfl
  | .tri s hs, base, D, h => by
    simp only [Sm.code, List.map_append, List.map_cons, List.map_nil]
    rw [Sm.subL hw hp s _ _ h, Hds.subL hw hp hs _ _ _ _ _ (by omega)]; rfl
  | .cln s c, base, D, h => by
    simp only [Sm.code, List.map_append, List.map_cons, List.map_nil]
    rw [Sm.subL hw hp s _ _ h, Sm.subL hw hp c _ _ (by omega)]; rfl
theorem Sms.subL {w z p D0 : Int} (hw : w < 0) (hp : 0 ≤ p) : ∀ (ps : Sms) (base D : Int), 0 ≤ base → (ps.code base D (p, w, D0)).map (subL w z D0) = ps.code base D (p, z, D0)
  | .nil, _, _, _ => rfl
  | .cons s r, base, D, h => by
    simp only [Sms.code, List.map_append]
    rw [Sm.subL hw hp s _ _ h, Sms.subL hw hp r _ _ (by omega)]
theorem Hds.subL {w z p D0 : Int} (hw : w < 0) (hp : 0 ≤ p) : ∀ (hs : Hds) (b x y at_ D : Int), 0 ≤ at_ → (hs.code b x y at_ D (p, w, D0)).map (subL w z D0) = hs.code b x y at_ D (p, z, D0)
  | .nil, _, _, _, _, _, _ => rfl
  | .cons k sl t r, b, x, y, at_, D, h => by
    simp only [Hds.code, List.map_append, List.map_cons, List.map_nil]
    rw [Sm.subL hw hp t _ _ (by omega), Hds.subL hw hp r _ _ _ _ _ (by omega)]; rfl
theorem Sm.subL_id {w z D0 : Int} (hw : w < 0) : ∀ (s : Sm) (base D p q Dq : Int), 0 ≤ base → 0 ≤ p → 0 ≤ q → (s.code base D (p, q, Dq)).map (Lp.subL w z D0) = s.code base D (p, q, Dq)
  | .say e, _, _, _, _, _, _, _, _ => by simp [Sm.code, map_idL (Ex.nng e)]; rfl
  | .set _ e, _, _, _, _, _, _, _, _ => by simp [Sm.code, map_idL (Ex.nng e)]; rfl
  | .row ps, base, D, p, q, Dq, h, hp, hq => Sms.subL_id hw ps base D p q Dq h hp hq
  | .ife e s t, base, D, p, q, Dq, h, hp, hq => by
    simp only [Sm.code, List.map_append, List.map_cons, List.map_nil, map_idL (Ex.nng e)]
    rw [Sm.subL_id hw s _ _ _ _ _ (by omega) hp hq, Sm.subL_id hw t _ _ _ _ _ (by omega) hp hq]; rfl
  | .whl e s, base, D, p, q, Dq, h, hp, hq => by
    simp only [Sm.code, List.map_append, List.map_cons, List.map_nil, map_idL (Ex.nng e)]
    rw [Sm.subL_id hw s _ _ _ _ _ (by omega) h (by omega)]; rfl
  | .brk, _, _, p, q, Dq, h, hp, hq => by
    have : q ≠ w := by omega
    simp [Sm.code, Lp.subL, this]
  | .cnt, _, _, p, q, Dq, h, hp, hq => by
    have : p ≠ w := by omega
    simp [Sm.code, Lp.subL, this]
  | .ret e, _, _, _, _, _, _, _, _ => by simp [Sm.code, map_idL (Ex.nng e)]; rfl
  | .call _ _ ps _, _, _, _, _, _, _, _, _ => by simp [Sm.code, map_idL (exsCode_nng ps)]; exact ⟨rfl, rfl⟩
  | .rais _ e _, _, _, _, _, _, _, _, _ => by simp [Sm.code, map_idL (Ex.nng e)]; rfl
  | .again, _, _, _, _, _, _, _, _ => rfl
  | .tri s hs, base, D, p, q, Dq, h, hp, hq => by
    simp only [Sm.code, List.map_append, List.map_cons, List.map_nil]
    rw [Sm.subL_id hw s _ _ _ _ _ h hp hq, Hds.subL_id hw hs _ _ _ _ _ _ _ _ (by omega) hp hq]; rfl
  | .cln s c, base, D, p, q, Dq, h, hp, hq => by
    simp only [Sm.code, List.map_append, List.map_cons, List.map_nil]
    rw [Sm.subL_id hw s _ _ _ _ _ h hp hq, Sm.subL_id hw c _ _ _ _ _ (by omega) hp hq]; rfl
theorem Sms.subL_id {w z D0 : Int} (hw : w < 0) : ∀ (ps : Sms) (base D p q Dq : Int), 0 ≤ base → 0 ≤ p → 0 ≤ q → (ps.code base D (p, q, Dq)).map (Lp.subL w z D0) = ps.code base D (p, q, Dq)
  | .nil, _, _, _, _, _, _, _, _ => rfl
  | .cons s r, base, D, p, q, Dq, h, hp, hq => by
    simp only [Sms.code, List.map_append]
    rw [Sm.subL_id hw s _ _ _ _ _ h hp hq, Sms.subL_id hw r _ _ _ _ _ (by omega) hp hq]
theorem Hds.subL_id {w z D0 : Int} (hw : w < 0) : ∀ (hs : Hds) (b x y at_ D p q Dq : Int), 0 ≤ at_ → 0 ≤ p → 0 ≤ q → (hs.code b x y at_ D (p, q, Dq)).map (Lp.subL w z D0) = hs.code b x y at_ D (p, q, Dq)
  | .nil, _, _, _, _, _, _, _, _, _, _, _ => rfl
  | .cons k sl t r, b, x, y, at_, D, p, q, Dq, h, hp, hq => by
    simp only [Hds.code, List.map_append, List.map_cons, List.map_nil]
    rw [Sm.subL_id hw t _ _ _ _ _ (by omega) hp hq, Hds.subL_id hw r _ _ _ _ _ _ _ _ (by omega) hp hq]; rfl
end
mutual
theorem Sm.subG {y : Int} : ∀ (s : Sm) (base D : Int) (tn : Tn), 0 ≤ base → (s.code base D tn).map (subG y) = s.code base D tn
  | .say e, _, _, _, _ => by simp [Sm.code, map_idG (Ex.nng e)]; rfl
  | .set _ e, _, _, _, _ => by simp [Sm.code, map_idG (Ex.nng e)]; rfl
  | .row ps, base, D, tn, h => Sms.subG ps base D tn h
  | .ife e s t, base, D, tn, h => by
    simp only [Sm.code, List.map_append, List.map_cons, List.map_nil, map_idG (Ex.nng e)]
    rw [Sm.subG s _ _ _ (by omega), Sm.subG t _ _ _ (by omega)]
    rw [show Lp.subG y (.go (base + e.len + 1 + s.len + 1 + t.len)) = .go (base + e.len + 1 + s.len + 1 + t.len) from if_neg (by simp; omega)]; rfl
  | .whl e s, base, D, tn, h => by
    simp only [Sm.code, List.map_append, List.map_cons, List.map_nil, map_idG (Ex.nng e)]
    rw [Sm.subG s _ _ _ (by omega)]
    rw [show Lp.subG y (.go base) = .go base from if_neg (by simp; omega)]; rfl
  | .brk, _, _, _, _ => rfl
  | .cnt, _, _, _, _ => rfl
  | .ret e, _, _, _, _ => by simp [Sm.code, map_idG (Ex.nng e)]; rfl
  | .call _ _ ps _, _, _, _, _ => by simp [Sm.code, map_idG (exsCode_nng ps)]; exact ⟨rfl, rfl⟩
  | .rais _ e _, _, _, _, _ => by simp [Sm.code, map_idG (Ex.nng e)]; rfl
  | .again, _, _, _, _ => rfl
  | .tri s hs, base, D, tn, h => by
    simp only [Sm.code, List.map_append, List.map_cons, List.map_nil]
    rw [Sm.subG s _ _ _ h, Hds.subG hs _ _ _ _ _ _ (by omega) (by omega)]
    rw [show Lp.subG y (.go (base + s.len + 1 + hs.len)) = .go (base + s.len + 1 + hs.len) from if_neg (by simp; omega)]
  | .cln s c, base, D, tn, h => by
    simp only [Sm.code, List.map_append, List.map_cons, List.map_nil]
    rw [Sm.subG s _ _ _ h, Sm.subG c _ _ _ (by omega)]; rfl
theorem Sms.subG {y : Int} : ∀ (ps : Sms) (base D : Int) (tn : Tn), 0 ≤ base → (ps.code base D tn).map (subG y) = ps.code base D tn
  | .nil, _, _, _, _ => rfl
  | .cons s r, base, D, tn, h => by
    simp only [Sms.code, List.map_append]
    rw [Sm.subG s _ _ _ h, Sms.subG r _ _ _ (by omega)]
theorem Hds.subG {y : Int} : ∀ (hs : Hds) (b x z at_ D : Int) (tn : Tn), 0 ≤ at_ → 0 ≤ z → (hs.code b x z at_ D tn).map (subG y) = hs.code b x z at_ D tn
  | .nil, _, _, _, _, _, _, _, _ => rfl
  | .cons k sl t r, b, x, z, at_, D, tn, h, hz => by
    simp only [Hds.code, List.map_append, List.map_cons, List.map_nil]
    rw [Sm.subG t _ _ _ (by omega), Hds.subG r _ _ _ _ _ _ (by omega) hz]
    rw [show Lp.subG y (.go z) = .go z from if_neg (by simp; omega)]; rfl
end
/-- handlers with the mark -1, filled in -/
theorem Hds.fill {y : Int} : ∀ (hs : Hds) (b x at_ D : Int) (tn : Tn), 0 ≤ at_ → (hs.code b x (-1) at_ D tn).map (Lp.subG y) = hs.code b x y at_ D tn
  | .nil, _, _, _, _, _, _ => rfl
  | .cons k sl t r, b, x, at_, D, tn, h => by
    simp only [Hds.code, List.map_append, List.map_cons, List.map_nil]
    rw [Sm.subG t _ _ _ (by omega), Hds.fill r _ _ _ _ _ (by omega)]
    rw [show Lp.subG y (.go (-1)) = .go y from if_pos rfl]; rfl

/-! ### the program's way: places of the breaks, filled in behind -/
mutual
def Sm.bks (base : Int) : Sm → List Int
  | .row ps => ps.bks base
  | .ife e s t => s.bks (base + e.len + 1) ++ t.bks (base + e.len + 1 + s.len + 1)
  | .brk => [base]
  | .tri s hs => s.bks base ++ hs.bks (base + s.len + 1)
  | .cln s c => s.bks base ++ c.bks (base + s.len + 2)
  | _ => []
def Sms.bks (base : Int) : Sms → List Int
  | .nil => []
  | .cons s r => s.bks base ++ r.bks (base + s.len)
def Hds.bks (at_ : Int) : Hds → List Int
  | .nil => []
  | .cons _ _ t r => t.bks (at_ + 2) ++ r.bks (at_ + 2 + t.len + 2)
end
def fillAt (row : Rw) (ps : List Int) (l : List Rw) : List Rw := ps.foldl (fun l p => l.set p.toNat row) l
theorem fillAt_app (row : Rw) (ps qs : List Int) (l : List Rw) : fillAt row (ps ++ qs) l = fillAt row qs (fillAt row ps l) := by
  unfold fillAt; rw [List.foldl_append]
mutual
theorem Sm.fill {p z D0 : Int} : ∀ (s : Sm) (base D : Int) (pre post : List Rw), (pre.length : Int) = base →
    fillAt (.leap z D0) (s.bks base) (pre ++ s.code base D (p, 0, D0) ++ post) = pre ++ s.code base D (p, z, D0) ++ post
  | .say e, _, _, _, _, _ => rfl
  | .set _ e, _, _, _, _, _ => rfl
  | .row ps, base, D, pre, post, h => Sms.fill ps base D pre post h
  | .ife e s t, base, D, pre, post, h => by
    have h1 := Sm.fill (p := p) (z := z) (D0 := D0) s (base + e.len + 1) D (pre ++ e.code ++ [.unless (base + e.len + 1 + s.len + 1)]) ([.go (base + e.len + 1 + s.len + 1 + t.len)] ++ t.code (base + e.len + 1 + s.len + 1) D (p, 0, D0) ++ post) (by simp [Ex.code_len]; omega)
    have h2 := Sm.fill (p := p) (z := z) (D0 := D0) t (base + e.len + 1 + s.len + 1) D (pre ++ e.code ++ [.unless (base + e.len + 1 + s.len + 1)] ++ s.code (base + e.len + 1) D (p, z, D0) ++ [.go (base + e.len + 1 + s.len + 1 + t.len)]) post (by simp [Ex.code_len, Sm.code_len]; omega)
    simp only [Sm.bks, Sm.code, fillAt_app, List.append_assoc] at h1 h2 ⊢
    rw [h1, h2]
  | .whl e s, _, _, _, _, _ => rfl
  | .brk, base, D, pre, post, h => by
    have : base.toNat = pre.length := by omega
    simp [Sm.bks, Sm.code, fillAt, this]
  | .cnt, _, _, _, _, _ => rfl
  | .ret e, _, _, _, _, _ => rfl
  | .call _ _ ps _, _, _, _, _, _ => rfl
  | .rais _ e _, _, _, _, _, _ => rfl
  | .again, _, _, _, _, _ => rfl
  | .tri s hs, base, D, pre, post, h => by
    have h1 := Sm.fill (p := p) (z := z) (D0 := D0) s base D pre ([.go (base + s.len + 1 + hs.len)] ++ hs.code base (base + s.len) (base + s.len + 1 + hs.len) (base + s.len + 1) D (p, 0, D0) ++ post) h
    have h2 := Hds.fillB (p := p) (z := z) (D0 := D0) hs base (base + s.len) (base + s.len + 1 + hs.len) (base + s.len + 1) D (pre ++ s.code base D (p, z, D0) ++ [.go (base + s.len + 1 + hs.len)]) post (by simp [Sm.code_len]; omega)
    simp only [Sm.bks, Sm.code, fillAt_app, List.append_assoc] at h1 h2 ⊢
    rw [h1, h2]
  | .cln s c, base, D, pre, post, h => by
    have h1 := Sm.fill (p := p) (z := z) (D0 := D0) s base D pre ([.mend, .cup base (base + s.len + 1) D] ++ c.code (base + s.len + 2) (D + 1) (p, 0, D0) ++ [.resume] ++ post) h
    have h2 := Sm.fill (p := p) (z := z) (D0 := D0) c (base + s.len + 2) (D + 1) (pre ++ s.code base D (p, z, D0) ++ [.mend, .cup base (base + s.len + 1) D]) ([.resume] ++ post) (by simp [Sm.code_len]; omega)
    simp only [Sm.bks, Sm.code, fillAt_app, List.append_assoc] at h1 h2 ⊢
    rw [h1, h2]
theorem Sms.fill {p z D0 : Int} : ∀ (ps : Sms) (base D : Int) (pre post : List Rw), (pre.length : Int) = base →
    fillAt (.leap z D0) (ps.bks base) (pre ++ ps.code base D (p, 0, D0) ++ post) = pre ++ ps.code base D (p, z, D0) ++ post
  | .nil, _, _, _, _, _ => rfl
  | .cons s r, base, D, pre, post, h => by
    have h1 := Sm.fill (p := p) (z := z) (D0 := D0) s base D pre (r.code (base + s.len) D (p, 0, D0) ++ post) h
    have h2 := Sms.fill (p := p) (z := z) (D0 := D0) r (base + s.len) D (pre ++ s.code base D (p, z, D0)) post (by simp [Sm.code_len]; omega)
    simp only [Sms.bks, Sms.code, fillAt_app, List.append_assoc] at h1 h2 ⊢
    rw [h1, h2]
theorem Hds.fillB {p z D0 : Int} : ∀ (hs : Hds) (b x y at_ D : Int) (pre post : List Rw), (pre.length : Int) = at_ →
    fillAt (.leap z D0) (hs.bks at_) (pre ++ hs.code b x y at_ D (p, 0, D0) ++ post) = pre ++ hs.code b x y at_ D (p, z, D0) ++ post
  | .nil, _, _, _, _, _, _, _, _ => rfl
  | .cons k sl t r, b, x, y, at_, D, pre, post, h => by
    have h1 := Sm.fill (p := p) (z := z) (D0 := D0) t (at_ + 2) (D + 1) (pre ++ [.hand b x k D, .set sl]) ([.settled, .go y] ++ r.code b x y (at_ + 2 + t.len + 2) D (p, 0, D0) ++ post) (by simp; omega)
    have h2 := Hds.fillB (p := p) (z := z) (D0 := D0) r b x y (at_ + 2 + t.len + 2) D (pre ++ [.hand b x k D, .set sl] ++ t.code (at_ + 2) (D + 1) (p, z, D0) ++ [.settled, .go y]) post (by simp [Sm.code_len]; omega)
    simp only [Hds.bks, Hds.code, fillAt_app, List.append_assoc] at h1 h2 ⊢
    rw [h1, h2]
end

/-! ### tables -/
structure Tb where
  b : Int
  x : Int
  kd : Option (Option Nat)   -- some: a handler of that kind; none: a cleanup
  p : Int
  D : Int
  deriving DecidableEq
def Tb.d (t : Tb) : PyData := .tuple [.int t.b, .int t.x, .str (match t.kd with | some _ => "handler" | none => "cleanup"), (match t.kd with | some k => kindD k | none => .none), .int t.p, .int t.D]
def tbOf (p : Int) : Rw → List Tb
  | .hand b x k D => [⟨b, x, some k, p, D⟩]
  | .cup b x D => [⟨b, x, none, p, D⟩]
  | _ => []
def tabAt (p : Int) : List Rw → List Tb
  | [] => []
  | r :: rs => tbOf p r ++ tabAt (p + 1) rs
theorem tabAt_app : ∀ (l m : List Rw) (p : Int), tabAt p (l ++ m) = tabAt p l ++ tabAt (p + l.length) m
  | [], m, p => by simp [tabAt]
  | r :: l, m, p => by
    show tbOf p r ++ tabAt (p + 1) (l ++ m) = (tbOf p r ++ tabAt (p + 1) l) ++ _
    rw [tabAt_app l m (p + 1), List.append_assoc]
    have : p + 1 + (l.length : Int) = p + ((r :: l).length : Int) := by simp; omega
    rw [this]
theorem tabAt_len : ∀ (l : List Rw) (p : Int), (tabAt p l).length ≤ l.length
  | [], _ => Nat.le_refl _
  | r :: l, p => by
    have := tabAt_len l (p + 1)
    have h2 : (tbOf p r).length ≤ 1 := by cases r <;> simp [tbOf]
    simp [tabAt]; omega
/-- a function's code, a program's -/
structure Fc where
  many : Nat
  rows : List Rw
def Fc.tab (f : Fc) : List Tb := tabAt 0 f.rows
def Fc.d (f : Fc) : PyData := .tuple [.int (f.many : Int), .tuple (f.rows.map Rw.d), .tuple (f.tab.map Tb.d)]
def bodyRows (s : Sm) : List Rw := s.code 0 0 (0, 0, 0) ++ [.num 0, .ret]
def Pg.code (p : Pg) : List Fc := p.funs.map fun f => ⟨f.1, bodyRows f.2⟩
def codeD (c : List Fc) : PyData := .tuple (c.map Fc.d)

/-! ### rows as data are told apart -/
theorem eqvAll_len {xs ys : List PyData} (h : xs.length ≠ ys.length) : PyData.eqvAll xs ys = false := by
  induction xs generalizing ys with
  | nil => cases ys with
    | nil => exact absurd rfl h
    | cons _ _ => rfl
  | cons x xs ih => cases ys with
    | nil => rfl
    | cons y ys =>
      have := ih (ys := ys) (by simpa using h)
      simp [PyData.eqvAll, this]
theorem Rw.eqv_leap (r : Rw) (w D : Int) : PyData.eqv r.d (Rw.leap w D).d = decide (r = .leap w D) := by
  cases r <;> simp [Rw.d, PyData.eqv, PyData.eqvAll]
  all_goals first
    | rfl
    | (intro h; exact absurd h (by decide))
theorem Rw.eqv_go (r : Rw) (z : Int) : PyData.eqv r.d (Rw.go z).d = decide (r = .go z) := by
  cases r <;> simp [Rw.d, PyData.eqv, PyData.eqvAll]
  all_goals first
    | rfl
    | (intro h; exact absurd h (by decide))
end Lp

/-! L4a: the law's own coding, and its look at two things alike. -/
namespace Lp
open PySem PySem.Spec PyProof.Rows L2
def t_law_alike (K : PySem.W.Frag) (sp_law_alike : Sp) : TS :=
  tSeq (tIfS (tTest (tOp rIsN (tVar 1) (tC .non))) (tRet (tOp rIsN (tVar 0) (tC .non))) (tNext)) (tSeq (tIfS (tB (tCB (rIsi K) (tCons (tVar 1) (tCons (tC (.ty "bool")) (tNil))))) (tRet (tAndV (tCB (rIsi K) (tCons (tVar 0) (tCons (tC (.ty "bool")) (tNil)))) (tOp rEq (tVar 0) (tVar 1)))) (tNext)) (tSeq (tIfS (tB (tCB (rIsi K) (tCons (tVar 1) (tCons (tC (.ty "int")) (tNil))))) (tRet (tAndV (tCB (rIsi K) (tCons (tVar 0) (tCons (tC (.ty "int")) (tNil)))) (tAndV (tNotV (tCB (rIsi K) (tCons (tVar 0) (tCons (tC (.ty "bool")) (tNil))))) (tOp rEq (tVar 0) (tVar 1))))) (tNext)) (tSeq (tIfS (tB (tCB (rIsi K) (tCons (tVar 1) (tCons (tC (.ty "str")) (tNil))))) (tRet (tAndV (tCB (rIsi K) (tCons (tVar 0) (tCons (tC (.ty "str")) (tNil)))) (tOp rEq (tVar 0) (tVar 1)))) (tNext)) (tSeq (tIfS (tOr (tTest (tOp rNe (tCB (rIsi K) (tCons (tVar 1) (tCons (tC (.ty "tuple")) (tNil)))) (tCB (rIsi K) (tCons (tVar 0) (tCons (tC (.ty "tuple")) (tNil)))))) (tTest (tOp rNe (tCB (rIsi K) (tCons (tVar 1) (tCons (tC (.ty "list")) (tNil)))) (tCB (rIsi K) (tCons (tVar 0) (tCons (tC (.ty "list")) (tNil))))))) (tRet (tC (.bl false))) (tNext)) (tSeq (tIfS (tTest (tOp rNe (tCB (rLenQ K) (tCons (tVar 0) (tNil))) (tCB (rLenQ K) (tCons (tVar 1) (tNil))))) (tRet (tC (.bl false))) (tNext)) (tSeq (tFor (iRng1 (tCons (tCB (rLenQ K) (tCons (tVar 1) (tNil))) (tNil))) (gName 2) (tIfS (tNot (tB (tCall sp_law_alike [] E0 (tCons (tOp (rIx K) (tVar 0) (tVar 2)) (tCons (tOp (rIx K) (tVar 1) (tVar 2)) (tNil)))))) (tRet (tC (.bl false))) (tNext))) (tRet (tC (.bl true)))))))))

def t_law_part_code (K : PySem.W.Frag) (sp_law_part_code : Sp) : TS :=
  tSeq (tIfS (tTest (tOp (rIn K false) (tOp (rIxT K) (tVar 0) (tC (.int 0))) (tTup (tCons (tC (.str "num")) (tCons (tC (.str "var")) (tNil)))))) (tRet (tLst (tCons (tVar 0) (tNil)))) (tNext)) (tRet (tOp rCat (tOp rCat (tCall sp_law_part_code [] E0 (tCons (tOp (rIxT K) (tVar 0) (tC (.int 1))) (tNil))) (tCall sp_law_part_code [] E0 (tCons (tOp (rIxT K) (tVar 0) (tC (.int 2))) (tNil)))) (tLst (tCons (tTup (tCons (tOp (rIxT K) (tVar 0) (tC (.int 0))) (tNil))) (tNil)))))

def t_law_loop_code (K : PySem.W.Frag) (sp_law_part_code : Sp) (sp_law_code : Sp) : TS :=
  tSeq (tAsg (tCall sp_law_part_code [] E0 (tCons (tOp (rIxT K) (tVar 0) (tC (.int 1))) (tNil))) (gName 3)) (tSeq (tAsg (tOp rAdI (tOp rAdI (tVar 1) (tCB (rLenQ K) (tCons (tVar 3) (tNil)))) (tC (.int 2))) (gName 4)) (tSeq (tAsg (tCall sp_law_code [] E0 (tCons (tOp (rIxT K) (tVar 0) (tC (.int 2))) (tCons (tVar 4) (tCons (tVar 2) (tCons (tTup (tCons (tVar 1) (tCons (tOp rSbI (tUn rNeg (tC (.int 1))) (tVar 1)) (tCons (tVar 2) (tNil))))) (tNil)))))) (gName 5)) (tSeq (tAsg (tOp rAdI (tOp rAdI (tVar 4) (tCB (rLenQ K) (tCons (tVar 5) (tNil)))) (tC (.int 1))) (gName 6)) (tSeq (tAsg (tLc (iList K (tVar 5)) (gName 7) (tYes) (tOp (rIxL K) (tLst (tCons (tVar 7) (tCons (tTup (tCons (tC (.str "leap")) (tCons (tVar 6) (tCons (tVar 2) (tNil))))) (tNil)))) (tCB rInt1 (tCons (tOp (rEqD K) (tVar 7) (tTup (tCons (tC (.str "leap")) (tCons (tOp rSbI (tUn rNeg (tC (.int 1))) (tVar 1)) (tCons (tVar 2) (tNil)))))) (tNil)))) [7]) (gName 5)) (tRet (tOp rCat (tOp rCat (tOp rCat (tVar 3) (tLst (tCons (tTup (tCons (tC (.str "unless")) (tCons (tVar 6) (tNil)))) (tCons (tTup (tCons (tC (.str "turn")) (tNil))) (tNil))))) (tVar 5)) (tLst (tCons (tTup (tCons (tC (.str "go")) (tCons (tVar 1) (tNil)))) (tNil)))))))))

def t_law_try_code (K : PySem.W.Frag) (sp_law_code : Sp) : TS :=
  tSeq (tAsg (tCall sp_law_code [] E0 (tCons (tOp (rIxT K) (tVar 0) (tC (.int 1))) (tCons (tVar 1) (tCons (tVar 2) (tCons (tVar 3) (tNil)))))) (gName 4)) (tSeq (tAsg (tOp rAdI (tVar 1) (tCB (rLenQ K) (tCons (tVar 4) (tNil)))) (gName 5)) (tSeq (tAsg (tOp rCat (tVar 4) (tLst (tCons (tTup (tCons (tC (.str "go")) (tCons (tUn rNeg (tC (.int 1))) (tNil)))) (tNil)))) (gName 6)) (tSeq (tFor (iTup K (tOp (rIxT K) (tVar 0) (tC (.int 2)))) (gName 7) (tSeq (tAsg (tOp rCat (tVar 6) (tLst (tCons (tTup (tCons (tC (.str "handler")) (tCons (tVar 1) (tCons (tVar 5) (tCons (tOp (rIxT K) (tVar 7) (tC (.int 0))) (tCons (tVar 2) (tNil))))))) (tCons (tTup (tCons (tC (.str "set")) (tCons (tOp (rIxT K) (tVar 7) (tC (.int 1))) (tNil)))) (tNil))))) (gName 6)) (tSeq (tAsg (tOp rCat (tVar 6) (tCall sp_law_code [] E0 (tCons (tOp (rIxT K) (tVar 7) (tC (.int 2))) (tCons (tOp rAdI (tVar 1) (tCB (rLenQ K) (tCons (tVar 6) (tNil)))) (tCons (tOp rAdI (tVar 2) (tC (.int 1))) (tCons (tVar 3) (tNil))))))) (gName 6)) (tAsg (tOp rCat (tVar 6) (tLst (tCons (tTup (tCons (tC (.str "settled")) (tNil))) (tCons (tTup (tCons (tC (.str "go")) (tCons (tUn rNeg (tC (.int 1))) (tNil)))) (tNil))))) (gName 6))))) (tSeq (tAsg (tOp rAdI (tVar 1) (tCB (rLenQ K) (tCons (tVar 6) (tNil)))) (gName 8)) (tRet (tLc (iList K (tVar 6)) (gName 9) (tYes) (tOp (rIxL K) (tLst (tCons (tVar 9) (tCons (tTup (tCons (tC (.str "go")) (tCons (tVar 8) (tNil)))) (tNil)))) (tCB rInt1 (tCons (tOp (rEqD K) (tVar 9) (tTup (tCons (tC (.str "go")) (tCons (tUn rNeg (tC (.int 1))) (tNil))))) (tNil)))) [9]))))))

def t_law_if_code (K : PySem.W.Frag) (sp_law_part_code : Sp) (sp_law_code : Sp) : TS :=
  tSeq (tAsg (tCall sp_law_part_code [] E0 (tCons (tOp (rIxT K) (tVar 0) (tC (.int 1))) (tNil))) (gName 4)) (tSeq (tAsg (tCall sp_law_code [] E0 (tCons (tOp (rIxT K) (tVar 0) (tC (.int 2))) (tCons (tOp rAdI (tOp rAdI (tVar 1) (tCB (rLenQ K) (tCons (tVar 4) (tNil)))) (tC (.int 1))) (tCons (tVar 2) (tCons (tVar 3) (tNil)))))) (gName 5)) (tSeq (tAsg (tOp rAdI (tOp rAdI (tOp rAdI (tVar 1) (tCB (rLenQ K) (tCons (tVar 4) (tNil)))) (tCB (rLenQ K) (tCons (tVar 5) (tNil)))) (tC (.int 2))) (gName 6)) (tSeq (tAsg (tCall sp_law_code [] E0 (tCons (tOp (rIxT K) (tVar 0) (tC (.int 3))) (tCons (tVar 6) (tCons (tVar 2) (tCons (tVar 3) (tNil)))))) (gName 7)) (tRet (tOp rCat (tOp rCat (tOp rCat (tOp rCat (tVar 4) (tLst (tCons (tTup (tCons (tC (.str "unless")) (tCons (tVar 6) (tNil)))) (tNil)))) (tVar 5)) (tLst (tCons (tTup (tCons (tC (.str "go")) (tCons (tOp rAdI (tVar 6) (tCB (rLenQ K) (tCons (tVar 7) (tNil)))) (tNil)))) (tNil)))) (tVar 7))))))

def t_law_clean_code (K : PySem.W.Frag) (sp_law_code : Sp) : TS :=
  tSeq (tAsg (tOp rCat (tCall sp_law_code [] E0 (tCons (tOp (rIxT K) (tVar 0) (tC (.int 1))) (tCons (tVar 1) (tCons (tVar 2) (tCons (tVar 3) (tNil)))))) (tLst (tCons (tTup (tCons (tC (.str "mend")) (tNil))) (tNil)))) (gName 4)) (tSeq (tAsg (tOp rAdI (tVar 1) (tCB (rLenQ K) (tCons (tVar 4) (tNil)))) (gName 5)) (tSeq (tAsg (tCall sp_law_code [] E0 (tCons (tOp (rIxT K) (tVar 0) (tC (.int 2))) (tCons (tOp rAdI (tVar 5) (tC (.int 1))) (tCons (tOp rAdI (tVar 2) (tC (.int 1))) (tCons (tVar 3) (tNil)))))) (gName 6)) (tRet (tOp rCat (tOp rCat (tOp rCat (tVar 4) (tLst (tCons (tTup (tCons (tC (.str "cleanup")) (tCons (tVar 1) (tCons (tVar 5) (tCons (tVar 2) (tNil)))))) (tNil)))) (tVar 6)) (tLst (tCons (tTup (tCons (tC (.str "resume")) (tNil))) (tNil)))))))

def t_law_plain_code (K : PySem.W.Frag) (sp_law_part_code : Sp) : TS :=
  tSeq (tAsg (tOp (rIxT K) (tVar 0) (tC (.int 0))) (gName 2)) (tSeq (tIfS (tTest (tOp rEq (tVar 2) (tC (.str "break")))) (tRet (tLst (tCons (tTup (tCons (tC (.str "leap")) (tCons (tOp (rIxT K) (tVar 1) (tC (.int 1))) (tCons (tOp (rIxT K) (tVar 1) (tC (.int 2))) (tNil))))) (tNil)))) (tNext)) (tSeq (tIfS (tTest (tOp rEq (tVar 2) (tC (.str "continue")))) (tRet (tLst (tCons (tTup (tCons (tC (.str "leap")) (tCons (tOp (rIxT K) (tVar 1) (tC (.int 0))) (tCons (tOp (rIxT K) (tVar 1) (tC (.int 2))) (tNil))))) (tNil)))) (tNext)) (tSeq (tIfS (tTest (tOp rEq (tVar 2) (tC (.str "again")))) (tRet (tLst (tCons (tVar 0) (tNil)))) (tNext)) (tSeq (tIfS (tTest (tOp rEq (tVar 2) (tC (.str "set")))) (tRet (tOp rCat (tCall sp_law_part_code [] E0 (tCons (tOp (rIxT K) (tVar 0) (tC (.int 2))) (tNil))) (tLst (tCons (tTup (tCons (tC (.str "set")) (tCons (tOp (rIxT K) (tVar 0) (tC (.int 1))) (tNil)))) (tNil))))) (tNext)) (tSeq (tIfS (tTest (tOp rEq (tVar 2) (tC (.str "raise")))) (tRet (tOp rCat (tCall sp_law_part_code [] E0 (tCons (tOp (rIxT K) (tVar 0) (tC (.int 2))) (tNil))) (tLst (tCons (tTup (tCons (tC (.str "raise")) (tCons (tOp (rIxT K) (tVar 0) (tC (.int 1))) (tCons (tOp (rIxT K) (tVar 0) (tC (.int 3))) (tNil))))) (tNil))))) (tNext)) (tSeq (tIfS (tTest (tOp rEq (tVar 2) (tC (.str "call")))) (tSeq (tAsg (tLst (tNil)) (gName 3)) (tSeq (tFor (iTup K (tOp (rIxT K) (tVar 0) (tC (.int 3)))) (gName 4) (tAsg (tOp rCat (tVar 3) (tCall sp_law_part_code [] E0 (tCons (tVar 4) (tNil)))) (gName 3))) (tRet (tOp rCat (tVar 3) (tLst (tCons (tTup (tCons (tC (.str "call")) (tCons (tOp (rIxT K) (tVar 0) (tC (.int 2))) (tCons (tCB (rLenQ K) (tCons (tOp (rIxT K) (tVar 0) (tC (.int 3))) (tNil))) (tCons (tOp (rIxT K) (tVar 0) (tC (.int 4))) (tNil)))))) (tCons (tTup (tCons (tC (.str "set")) (tCons (tOp (rIxT K) (tVar 0) (tC (.int 1))) (tNil)))) (tNil)))))))) (tNext)) (tRet (tOp rCat (tCall sp_law_part_code [] E0 (tCons (tOp (rIxT K) (tVar 0) (tC (.int 1))) (tNil))) (tLst (tCons (tTup (tCons (tVar 2) (tNil))) (tNil)))))))))))

def t_law_code (K : PySem.W.Frag) (sp_law_code : Sp) (sp_law_if_code : Sp) (sp_law_loop_code : Sp) (sp_law_try_code : Sp) (sp_law_clean_code : Sp) (sp_law_plain_code : Sp) : TS :=
  tSeq (tAsg (tOp (rIxT K) (tVar 0) (tC (.int 0))) (gName 4)) (tSeq (tIfS (tTest (tOp rEq (tVar 4) (tC (.str "row")))) (tSeq (tAsg (tLst (tNil)) (gName 5)) (tSeq (tFor (iTup K (tOp (rIxT K) (tVar 0) (tC (.int 1)))) (gName 6) (tAsg (tOp rCat (tVar 5) (tCall sp_law_code [] E0 (tCons (tVar 6) (tCons (tOp rAdI (tVar 1) (tCB (rLenQ K) (tCons (tVar 5) (tNil)))) (tCons (tVar 2) (tCons (tVar 3) (tNil))))))) (gName 5))) (tRet (tVar 5)))) (tNext)) (tSeq (tIfS (tTest (tOp rEq (tVar 4) (tC (.str "if")))) (tRet (tCall sp_law_if_code [] E0 (tCons (tVar 0) (tCons (tVar 1) (tCons (tVar 2) (tCons (tVar 3) (tNil))))))) (tNext)) (tSeq (tIfS (tTest (tOp rEq (tVar 4) (tC (.str "while")))) (tRet (tCall sp_law_loop_code [] E0 (tCons (tVar 0) (tCons (tVar 1) (tCons (tVar 2) (tNil)))))) (tNext)) (tSeq (tIfS (tTest (tOp rEq (tVar 4) (tC (.str "try")))) (tRet (tCall sp_law_try_code [] E0 (tCons (tVar 0) (tCons (tVar 1) (tCons (tVar 2) (tCons (tVar 3) (tNil))))))) (tNext)) (tSeq (tIfS (tTest (tOp rEq (tVar 4) (tC (.str "clean")))) (tRet (tCall sp_law_clean_code [] E0 (tCons (tVar 0) (tCons (tVar 1) (tCons (tVar 2) (tCons (tVar 3) (tNil))))))) (tNext)) (tRet (tCall sp_law_plain_code [] E0 (tCons (tVar 0) (tCons (tVar 3) (tNil))))))))))

def t_law_table (K : PySem.W.Frag) : TS :=
  tSeq (tAsg (tLst (tNil)) (gName 1)) (tSeq (tFor (iRng1 (tCons (tCB (rLenQ K) (tCons (tVar 0) (tNil))) (tNil))) (gName 2) (tSeq (tAsg (tOp (rIxT K) (tVar 0) (tVar 2)) (gName 3)) (tSeq (tIfS (tTest (tOp rEq (tOp (rIxT K) (tVar 3) (tC (.int 0))) (tC (.str "handler")))) (tDrop (tBM K "list" rAppend (tVar 1) (tCons (tTup (tCons (tOp (rIxT K) (tVar 3) (tC (.int 1))) (tCons (tOp (rIxT K) (tVar 3) (tC (.int 2))) (tCons (tC (.str "handler")) (tCons (tOp (rIxT K) (tVar 3) (tC (.int 3))) (tCons (tVar 2) (tCons (tOp (rIxT K) (tVar 3) (tC (.int 4))) (tNil)))))))) (tNil)))) (tNext)) (tIfS (tTest (tOp rEq (tOp (rIxT K) (tVar 3) (tC (.int 0))) (tC (.str "cleanup")))) (tDrop (tBM K "list" rAppend (tVar 1) (tCons (tTup (tCons (tOp (rIxT K) (tVar 3) (tC (.int 1))) (tCons (tOp (rIxT K) (tVar 3) (tC (.int 2))) (tCons (tC (.str "cleanup")) (tCons (tC .non) (tCons (tVar 2) (tCons (tOp (rIxT K) (tVar 3) (tC (.int 3))) (tNil)))))))) (tNil)))) (tNext))))) (tRet (tCB (rTupOf K) (tCons (tVar 1) (tNil)))))

def t_law_coded (K : PySem.W.Frag) (sp_law_code : Sp) (sp_law_table : Sp) : TS :=
  tSeq (tAsg (tLst (tNil)) (gName 1)) (tSeq (tFor (iTup K (tOp (rIxT K) (tVar 0) (tC (.int 1)))) (gName 2) (tSeq (tAsg (tCB (rTupOf K) (tCons (tOp rCat (tCall sp_law_code [] E0 (tCons (tOp (rIxT K) (tVar 2) (tC (.int 1))) (tCons (tC (.int 0)) (tCons (tC (.int 0)) (tCons (tC .non) (tNil)))))) (tLst (tCons (tTup (tCons (tC (.str "num")) (tCons (tC (.int 0)) (tNil)))) (tCons (tTup (tCons (tC (.str "return")) (tNil))) (tNil))))) (tNil))) (gName 3)) (tDrop (tBM K "list" rAppend (tVar 1) (tCons (tTup (tCons (tOp (rIxT K) (tVar 2) (tC (.int 0))) (tCons (tVar 3) (tCons (tCall sp_law_table [] E0 (tCons (tVar 3) (tNil))) (tNil))))) (tNil)))))) (tRet (tCB (rTupOf K) (tCons (tVar 1) (tNil)))))

/-! ### alike -/
mutual
/-- the longest list or tuple within -/
def wid : PyData → Nat
  | .list xs => max xs.length (widAll xs)
  | .tuple xs => max xs.length (widAll xs)
  | .none | .bool _ | .int _ | .str _ | .dict _ => 0
def widAll : List PyData → Nat
  | [] => 0
  | x :: xs => max (wid x) (widAll xs)
end
theorem wid_mem : ∀ {ds : List PyData} {d : PyData}, d ∈ ds → wid d ≤ widAll ds ∧ d.depth ≤ PyData.depthAll ds
  | [], _, h => by cases h
  | e :: r, d, h => by
    rcases List.mem_cons.mp h with rfl | h
    · simp [widAll, PyData.depthAll]; omega
    · have := wid_mem h
      simp [widAll, PyData.depthAll]; omega
def spAlike (K : PySem.W.Frag) (n : Nat) : Sp := fun vs H Q _ => ∃ (x y : V) (d : PyData), vs = [x, y] ∧ Dp K H x d ∧ Dp K H y d ∧ d.depth < n ∧ wid d ≤ 1000000 ∧ Q (.bl true) H
theorem spAlike_zero {K : PySem.W.Frag} (vs : List V) (H : Hp) (Q : VK) (E : XK) : ¬ spAlike K 0 vs H Q E := by
  rintro ⟨x, y, d, _, _, _, h, _⟩
  omega
section
variable {K : PySem.W.Frag} {H : Hp} {a : Addr} {xs : List V}
theorem tyL (h : SqL K H a xs) : TyX K H (.ref a) (.type "list") := by
  rcases h with (h | ⟨o, h⟩) | ⟨o, its, n, hk, hc, _⟩
  · exact .base (.lst h)
  · exact .base (.frz h)
  · exact .kList hk hc
theorem tyT (h : SqT K H a xs) : TyX K H (.ref a) (.type "tuple") := by
  rcases h with (h | ⟨o, h⟩) | ⟨o, its, n, hk, hc, _⟩
  · exact .base (.tup h)
  · exact .fTuple h
  · exact .kTuple hk hc
theorem kit_bb : PySem.W.kitOne K (.type "bool") (.type "bool") = some true := kit_ty (by decide +kernel)
theorem kit_ib : PySem.W.kitOne K (.type "int") (.type "bool") = some false := kit_ty (by decide +kernel)
theorem kit_sb : PySem.W.kitOne K (.type "str") (.type "bool") = some false := kit_ty (by decide +kernel)
theorem kit_lb : PySem.W.kitOne K (.type "list") (.type "bool") = some false := kit_ty (by decide +kernel)
theorem kit_tb : PySem.W.kitOne K (.type "tuple") (.type "bool") = some false := kit_ty (by decide +kernel)
theorem kit_ii : PySem.W.kitOne K (.type "int") (.type "int") = some true := kit_ty (by decide +kernel)
theorem kit_si : PySem.W.kitOne K (.type "str") (.type "int") = some false := kit_ty (by decide +kernel)
theorem kit_li : PySem.W.kitOne K (.type "list") (.type "int") = some false := kit_ty (by decide +kernel)
theorem kit_ti : PySem.W.kitOne K (.type "tuple") (.type "int") = some false := kit_ty (by decide +kernel)
theorem kit_ss : PySem.W.kitOne K (.type "str") (.type "str") = some true := kit_ty (by decide +kernel)
theorem kit_ls : PySem.W.kitOne K (.type "list") (.type "str") = some false := kit_ty (by decide +kernel)
theorem kit_ts : PySem.W.kitOne K (.type "tuple") (.type "str") = some false := kit_ty (by decide +kernel)
theorem kit_tt : PySem.W.kitOne K (.type "tuple") (.type "tuple") = some true := kit_ty (by decide +kernel)
theorem kit_lt : PySem.W.kitOne K (.type "list") (.type "tuple") = some false := kit_ty (by decide +kernel)
theorem kit_tl : PySem.W.kitOne K (.type "tuple") (.type "list") = some false := kit_ty (by decide +kernel)
theorem kit_ll : PySem.W.kitOne K (.type "list") (.type "list") = some true := kit_ty (by decide +kernel)
/-- isinstance of what stands in a slot -/
theorem rIs {σ : L2.St} {i : Nat} {x : V} {t n : String} {b : Bool} {Q : VK} (hs : σ[i]? = some (some x)) (ty : TyX K H x (.type t)) (k : PySem.W.kitOne K (.type t) (.type n) = some b) (q : Q (.bl b) H) :
    tCB (rIsi K) (tCons (tVar i) (tCons (tC (.ty n)) tNil)) σ H Q := ⟨_, hs, x, .ty n, _, _, b, rfl, .ty n, ty, k, q⟩
theorem dpAll_length : ∀ {vs : List V} {ds : List PyData}, DpAll K H vs ds → vs.length = ds.length
  | _, [], h => by cases h; rfl
  | _, d :: ds, h => by
    cases h with
    | cons h1 h2 => simp [dpAll_length h2]
theorem dpAll_get : ∀ {vs : List V} {ds : List PyData} {i : Nat} {d : PyData}, DpAll K H vs ds → ds[i]? = some d → ∃ v, vs[i]? = some v ∧ Dp K H v d
  | _, [], i, d, h, e => by simp at e
  | _, d0 :: ds, 0, d, h, e => by
    cases h with
    | cons h1 h2 => simp at e; subst e; exact ⟨_, rfl, h1⟩
  | _, d0 :: ds, i + 1, d, h, e => by
    cases h with
    | cons h1 h2 =>
      obtain ⟨v, e', t⟩ := dpAll_get (i := i) (d := d) h2 (by simpa using e)
      exact ⟨v, by simpa using e', t⟩
end
abbrev N_law_alike : List Str := ["_law_found", "_law_due", "_law_k"]
theorem rd_alike {K : PySem.W.Frag} {n : Nat} (vs : List V) (H : Hp) (Q : VK) (E : XK) (h : spAlike K (n + 1) vs H Q E) : t_law_alike K (spAlike K n) { nx := fun _ H' => Q .non H', rt := Q } (start N_law_alike vs) H := by
  obtain ⟨x, y, d, rfl, hx, hy, hd, hw, q⟩ := h
  -- what is walked at the end: the places of two lists, two tuples
  have walk : ∀ (a b : Addr) (us ws : List V) (ds : List PyData) (s1 : SqL K H a us ∨ SqT K H a us) (s2 : SqL K H b ws ∨ SqT K H b ws), DpAll K H us ds → DpAll K H ws ds → PyData.depthAll ds < n → widAll ds ≤ 1000000 → ds.length ≤ 1000000 →
      (tSeq (tIfS (tTest (tOp rNe (tCB (rLenQ K) (tCons (tVar 0) (tNil))) (tCB (rLenQ K) (tCons (tVar 1) (tNil))))) (tRet (tC (.bl false))) (tNext)) (tSeq (tFor (iRng1 (tCons (tCB (rLenQ K) (tCons (tVar 1) (tNil))) (tNil))) (gName 2) (tIfS (tNot (tB (tCall (spAlike K n) [] E0 (tCons (tOp (rIx K) (tVar 0) (tVar 2)) (tCons (tOp (rIx K) (tVar 1) (tVar 2)) (tNil)))))) (tRet (tC (.bl false))) (tNext))) (tRet (tC (.bl true))))) { nx := fun _ H' => Q .non H', rt := Q } [some (.ref a), some (.ref b), none] H := by
    intro a b us ws ds s1 s2 h1 h2 hdep hwid hlen
    have l1 := dpAll_length h1; have l2 := dpAll_length h2
    refine ⟨_, rfl, a, us, rfl, s1, _, rfl, b, ws, rfl, s2, rfl, _, rfl, ifF (by rw [dT (by rw [l1, l2])]; rfl) ?_⟩
    refine ⟨_, rfl, b, ws, rfl, s2, _, rfl, by omega, by omega, for_range (lo := 0) (n := ((ws.length : Int)).toNat) (fun i σ H' => H' = H ∧ ∃ v, σ = [some (.ref a), some (.ref b), v]) ⟨rfl, none, rfl⟩ ?_ ?_⟩
    · rintro i σ H' hi ⟨rfl, v, rfl⟩
      have hi2 : i < ds.length := by omega
      have ed : ds[i]? = some ds[i] := List.getElem?_eq_getElem hi2
      obtain ⟨u, hu, du⟩ := dpAll_get h1 ed
      obtain ⟨w, hw', dw⟩ := dpAll_get h2 ed
      have hm := wid_mem (List.getElem_mem hi2)
      have e0 : (0 : Int) + (i : Int) = (i : Int) := by omega
      refine ⟨_, rfl, _, rfl, ?_⟩
      rw [e0]
      have ix1 : ∀ {Q' : VK}, Q' u H' → rIx K (.ref a) (.int (i : Int)) H' Q' := fun {Q'} q' => by
        rcases s1 with s | s
        · exact .inl ⟨a, us, _, u, rfl, rfl, s, atI_nat hu, q'⟩
        · exact .inr (.inl ⟨a, us, _, u, rfl, rfl, s, atI_nat hu, q'⟩)
      have ix2 : ∀ {Q' : VK}, Q' w H' → rIx K (.ref b) (.int (i : Int)) H' Q' := fun {Q'} q' => by
        rcases s2 with s | s
        · exact .inl ⟨b, ws, _, w, rfl, rfl, s, atI_nat hw', q'⟩
        · exact .inr (.inl ⟨b, ws, _, w, rfl, rfl, s, atI_nat hw', q'⟩)
      refine ix1 ⟨_, rfl, _, rfl, ix2 ⟨u, w, ds[i], rfl, du, dw, by omega, by omega, true, rfl, ifF rfl ?_⟩⟩
      exact ⟨rfl, _, rfl⟩
    · rintro σ H' ⟨rfl, v, rfl⟩
      exact q
  cases hx with
  | non =>
    cases hy
    refine ⟨_, rfl, rfl, _, rfl, ifT rfl ⟨_, rfl, rfl, q⟩⟩
  | bl b =>
    cases hy
    refine ⟨_, rfl, rfl, _, rfl, ifF rfl (rIs rfl (.base (.bl _)) kit_bb ⟨_, rfl, ifT rfl (rIs rfl (.base (.bl _)) kit_bb ⟨_, rfl, ifT rfl ⟨_, rfl, _, rfl, rfl, ?_⟩⟩)⟩)⟩
    rw [dT rfl]; exact q
  | int i =>
    cases hy
    refine ⟨_, rfl, rfl, _, rfl, ifF rfl (rIs rfl (.base (.int _)) kit_ib ⟨_, rfl, ifF rfl (rIs rfl (.base (.int _)) kit_ii ⟨_, rfl, ifT rfl (rIs rfl (.base (.int _)) kit_ii ⟨_, rfl, ifT rfl (rIs rfl (.base (.int _)) kit_ib ⟨_, rfl, _, rfl, ifT rfl ⟨_, rfl, _, rfl, rfl, ?_⟩⟩)⟩)⟩)⟩)⟩
    rw [dT rfl]; exact q
  | str z =>
    cases hy
    refine ⟨_, rfl, rfl, _, rfl, ifF rfl (rIs rfl (.base (.str _)) kit_sb ⟨_, rfl, ifF rfl (rIs rfl (.base (.str _)) kit_si ⟨_, rfl, ifF rfl (rIs rfl (.base (.str _)) kit_ss ⟨_, rfl, ifT rfl (rIs rfl (.base (.str _)) kit_ss ⟨_, rfl, ifT rfl ⟨_, rfl, _, rfl, rfl, ?_⟩⟩)⟩)⟩)⟩)⟩
    rw [dT rfl]; exact q
  | @lst a us ds s1 h1 =>
    cases hy with
    | @lst b ws _ s2 h2 =>
      have hd' : PyData.depthAll ds + 1 < n + 1 := by simpa [PyData.depth] using hd
      have hw' : max ds.length (widAll ds) ≤ 1000000 := by simpa [wid] using hw
      refine ⟨_, rfl, rfl, _, rfl, ifF rfl (rIs rfl (tyL s2) kit_lb ⟨_, rfl, ifF rfl (rIs rfl (tyL s2) kit_li ⟨_, rfl, ifF rfl (rIs rfl (tyL s2) kit_ls ⟨_, rfl, ifF rfl ?_⟩)⟩)⟩)⟩
      refine rIs rfl (tyL s2) kit_lt (rIs rfl (tyL s1) kit_lt ⟨rfl, _, rfl, ifF rfl (rIs rfl (tyL s2) kit_ll (rIs rfl (tyL s1) kit_ll ⟨rfl, _, rfl, ifF rfl ?_⟩))⟩)
      exact walk a b us ws ds (.inl s1) (.inl s2) h1 h2 (by omega) (by omega) (by omega)
  | @tup a us ds s1 h1 =>
    cases hy with
    | @tup b ws _ s2 h2 =>
      have hd' : PyData.depthAll ds + 1 < n + 1 := by simpa [PyData.depth] using hd
      have hw' : max ds.length (widAll ds) ≤ 1000000 := by simpa [wid] using hw
      refine ⟨_, rfl, rfl, _, rfl, ifF rfl (rIs rfl (tyT s2) kit_tb ⟨_, rfl, ifF rfl (rIs rfl (tyT s2) kit_ti ⟨_, rfl, ifF rfl (rIs rfl (tyT s2) kit_ts ⟨_, rfl, ifF rfl ?_⟩)⟩)⟩)⟩
      refine rIs rfl (tyT s2) kit_tt (rIs rfl (tyT s1) kit_tt ⟨rfl, _, rfl, ifF rfl (rIs rfl (tyT s2) kit_tl (rIs rfl (tyT s1) kit_tl ⟨rfl, _, rfl, ifF rfl ?_⟩))⟩)
      exact walk a b us ws ds (.inr s1) (.inr s2) h1 h2 (by omega) (by omega) (by omega)
/-! ### new lists of rows -/
/-- a new list of these; all stands -/
def NewL (K : PySem.W.Frag) (H : Hp) (Q : VK) (ds : List PyData) : Prop := ∀ (r : Addr) (vs : List V) (H' : Hp), H r = none → H' r = some (.lst vs) → TpAll K H' vs ds → Same H H' → Q (.ref r) H'
section
variable {K : PySem.W.Frag} {H H1 : Hp} {Q : VK}
theorem NewL.mono {ds : List PyData} (q : NewL K H Q ds) (s : Same H H1) : NewL K H1 Q ds := fun r vs H' hr h t s' => q r vs H' (s.free hr) h t (s.trans s')
theorem Same.new {p : Addr} {o : HO} (h : H p = none) : Same H (upd H p o) := fun b u e => by rw [upd_ne (ne_of_none e h)]; exact e
theorem sqSameL {a : Addr} {xs : List V} (s : Same H H1) (h : SqL K H a xs) : SqL K H1 a xs := s.seq h
/-- two lists in a row -/
theorem cat_new {a b : Addr} {xs ys : List V} {ds es : List PyData} (ha : H a = some (.lst xs)) (hb : H b = some (.lst ys)) (tx : TpAll K H xs ds) (ty : TpAll K H ys es) (hz : ds.length + es.length ≤ 1000000) (q : NewL K H Q (ds ++ es)) : rCat (.ref a) (.ref b) H Q := by
  refine ⟨a, b, xs, ys, rfl, rfl, ha, hb, ?_, fun p hp => ?_⟩
  · rw [tx.length, ty.length]; exact sz_le1 hz
  · exact q p _ _ hp upd_same ((tx.app ty).mono (Tk.new hp)) (Same.new hp)
/-- a comprehension over a list, all stands -/
theorem lc_same {Qd : Hp → Prop} {a D : Addr} {xs : List V} {ds es : List PyData} {te : TE} {slot : Nat} {σ : L2.St} (hs : SqL K H1 a xs) (ht : TpAll K H1 xs ds) (hl : es.length = ds.length) (hD : H1 D = none) (hz : ds.length < 1000000)
    (hw : ∀ x, wipe ((wipe σ [slot]).set slot x) [slot] = wipe σ [slot])
    (step : ∀ (i : Nat) (x : V) (d e : PyData) (H2 : Hp), ds[i]? = some d → es[i]? = some e → Same H1 H2 → Tp K H2 x d → ∀ Q' : VK, (∀ y H3, Same H2 H3 → Tp K H3 y e → Q' y H3) → te ((wipe σ [slot]).set slot (some x)) H2 Q')
    (fin : ∀ (vs : List V) (H' : Hp), H' D = some (.lst vs) → TpAll K H' vs es → Same H1 H' → Qd H') :
    ∃ W : Nat → Nat → Hp → Prop, (∃ m, W 0 m (upd H1 D (.lst []))) ∧ ∀ i m H, W i m H →
      ((Itl K a).stop i H ∧ Qd H) ∨ ((Itl K a).go i H ∧ ∃ Nx : Hp → Prop, (∀ H', Nx H' → ∃ m', m' < m ∧ W (i + 1) m' H') ∧ ∀ x H', (Itl K a).yld i H x H' → gName slot x (wipe σ [slot]) H' fun σ2 H2 => wipe σ2 [slot] = wipe σ [slot] ∧ tYes σ2 H2 fun c H3 =>
        if c = true then te σ2 H3 fun y H4 => ∃ acc, H4 D = some (.lst acc) ∧ acc.length < sizeLine ∧ Nx (upd H4 D (.lst (acc ++ [y]))) else Nx H3) := by
  have lx := ht.length
  refine lc_list (K := K) (a := a) (xs := xs) (Qd := Qd) (fun i H' => ∃ vs, H' D = some (.lst vs) ∧ TpAll K H' vs (es.take i) ∧ Same H1 H')
    ⟨[], upd_same, .nil, Same.new hD⟩ (fun i H' _ ⟨_, _, _, s⟩ => s.seq hs) ?_ ?_
  · rintro i x H2 hx ⟨vs, hv, tv, s2⟩
    obtain ⟨d, hd, td⟩ := ht.get hx
    have hi : i < es.length := by rw [hl]; exact (List.getElem?_eq_some_iff.mp hd).1
    have he : es[i]? = some es[i] := List.getElem?_eq_getElem hi
    refine ⟨hw _, ?_⟩
    show te ((wipe σ [slot]).set slot (some x)) H2 fun y H4 => ∃ acc, H4 D = some (.lst acc) ∧ acc.length < sizeLine ∧ _
    refine step i x d es[i] H2 hd he s2 (td.mono (Tk.same s2)) _ fun y H3 s3 t3 => ?_
    have hv3 := s3 D _ hv
    refine ⟨vs, hv3, ?_, vs ++ [y], upd_same, ?_, fun b u e => by rw [upd_ne (ne_of_none e hD)]; exact s3 b u (s2 b u e)⟩
    · have := tv.length
      rw [List.length_take] at this
      exact sz_lt1 (by omega)
    · rw [List.take_succ, he]
      exact ((tv.mono (Tk.same s3)).snoc t3).mono (Tk.lst hv3)
  · rintro H' ⟨vs, hv, tv, s2⟩
    rw [List.take_of_length_le (by omega)] at tv
    exact fin vs H' hv tv s2
end
/-! ### parts one by one -/
section
variable {K : PySem.W.Frag} {H : Hp} {xs : List V} {i : Nat} {x : V}
theorem drop_at (hx : xs[i]? = some x) : xs.drop i = x :: xs.drop (i + 1) := by
  have hi := (List.getElem?_eq_some_iff.mp hx).1
  rw [List.drop_eq_getElem_cons hi, (List.getElem?_eq_some_iff.mp hx).2]
theorem sms_at {r : Sms} (ht : TpAll K H (xs.drop i) r.ds) (hx : xs[i]? = some x) : ∃ s r', r = .cons s r' ∧ Tp K H x s.d ∧ TpAll K H (xs.drop (i + 1)) r'.ds := by
  rw [drop_at hx] at ht
  cases r with
  | nil => cases ht
  | cons s r' =>
    cases ht with
    | cons h1 h2 => exact ⟨s, r', rfl, h1, h2⟩
theorem sms_end {r : Sms} (ht : TpAll K H (xs.drop xs.length) r.ds) : r = .nil := by
  rw [List.drop_length] at ht
  cases r with
  | nil => rfl
  | cons s r' => cases ht
theorem hds_at {r : Hds} (ht : TpAll K H (xs.drop i) r.ds) (hx : xs[i]? = some x) : ∃ k sl t r', r = .cons k sl t r' ∧ Tp K H x (.tuple [kindD k, .int (sl : Int), t.d]) ∧ TpAll K H (xs.drop (i + 1)) r'.ds := by
  rw [drop_at hx] at ht
  cases r with
  | nil => cases ht
  | cons k sl t r' =>
    cases ht with
    | cons h1 h2 => exact ⟨k, sl, t, r', rfl, h1, h2⟩
theorem hds_end {r : Hds} (ht : TpAll K H (xs.drop xs.length) r.ds) : r = .nil := by
  rw [List.drop_length] at ht
  cases r with
  | nil => rfl
  | cons k sl t r' => cases ht
theorem exs_at {r : List Ex} (ht : TpAll K H (xs.drop i) (r.map Ex.d)) (hx : xs[i]? = some x) : ∃ e r', r = e :: r' ∧ Tp K H x e.d ∧ TpAll K H (xs.drop (i + 1)) (r'.map Ex.d) := by
  rw [drop_at hx] at ht
  cases r with
  | nil => cases ht
  | cons e r' =>
    cases ht with
    | cons h1 h2 => exact ⟨e, r', rfl, h1, h2⟩
theorem exs_end {r : List Ex} (ht : TpAll K H (xs.drop xs.length) (r.map Ex.d)) : r = [] := by
  rw [List.drop_length] at ht
  cases r with
  | nil => rfl
  | cons e r' => cases ht
end
/-! ### _law_part_code -/
def spPartCode (K : PySem.W.Frag) (n : Nat) : Sp := fun vs H Q _ => ∃ (v : V) (e : Ex), vs = [v] ∧ Tp K H v e.d ∧ e.dep ≤ n ∧ e.len ≤ 100000 ∧ NewL K H Q (e.code.map Rw.d)
theorem spPartCode_zero {K : PySem.W.Frag} (vs : List V) (H : Hp) (Q : VK) (E : XK) : ¬ spPartCode K 0 vs H Q E := by
  rintro ⟨v, e, _, _, h, _⟩
  cases e <;> simp [Ex.dep] at h
section
variable {K : PySem.W.Frag}
abbrev N_law_part_code : List Str := ["_law_part_here"]
theorem rd_part_code {n : Nat} (vs : List V) (H : Hp) (Q : VK) (E : XK) (h : spPartCode K (n + 1) vs H Q E) : t_law_part_code K (spPartCode K n) { nx := fun _ H' => Q .non H', rt := Q } (start N_law_part_code vs) H := by
  obtain ⟨v, e, rfl, ht, hd, hz, q⟩ := h
  have leaf : ∀ (a : Addr) (x0 x1 : V), v = .ref a → SqT K H a [x0, x1] → (x0 = .str "num" ∨ x0 = .str "var") → e.code.map Rw.d = [e.d] → t_law_part_code K (spPartCode K n) { nx := fun _ H' => Q .non H', rt := Q } (start N_law_part_code [v]) H := by
    rintro a x0 x1 rfl hT hx he
    refine rd_ixT (j := 0) rfl hT rfl ⟨(by show 2 ≤ sizeLine; decide), fun p hp => ⟨p, _, rfl, .inr (SqT.of upd_same), ?_⟩⟩
    have f1 : flatV x0 = true := by rcases hx with rfl | rfl <;> rfl
    have f2 : inV x0 ([.str "num", .str "var"] : List V) = true := by rcases hx with rfl | rfl <;> rfl
    refine ⟨f1, rfl, true, by rw [if_neg Bool.false_ne_true, f2], ifT rfl ?_⟩
    refine ⟨_, rfl, (by show 1 ≤ sizeLine; decide), fun r hr => ?_⟩
    have s1 : Same H (L2.upd H p (.tup [.str "num", .str "var"])) := Same.new hp
    refine q r _ _ (s1.free hr) upd_same ?_ (s1.trans (Same.new hr))
    rw [he]
    exact .cons ((ht.mono (Tk.same s1)).mono (Tk.new hr)) .nil
  cases e with
  | num k =>
    obtain ⟨a, x0, x1, rfl, hT, h0, h1⟩ := ht.tup2
    exact leaf a x0 x1 rfl hT (.inl h0.strE) rfl
  | var k =>
    obtain ⟨a, x0, x1, rfl, hT, h0, h1⟩ := ht.tup2
    exact leaf a x0 x1 rfl hT (.inr h0.strE) rfl
  | bin o e1 e2 =>
    obtain ⟨a, x0, x1, x2, rfl, hT, h0, h1, h2⟩ := ht.tup3
    cases h0.strE
    have hd' : max e1.dep e2.dep + 1 ≤ n + 1 := hd
    have hz' : e1.len + e2.len + 1 ≤ 100000 := hz
    refine rd_ixT (j := 0) rfl hT rfl ⟨(by show 2 ≤ sizeLine; decide), fun p hp => ⟨p, _, rfl, .inr (SqT.of upd_same), rfl, rfl, false, ?_, ifF rfl ?_⟩⟩
    · rw [if_neg Bool.false_ne_true]; cases o <;> rfl
    have s1 : Same H (L2.upd H p (.tup [.str "num", .str "var"])) := Same.new hp
    refine rd_ixT (j := 1) rfl (s1.sqT hT) rfl ⟨_, e1, rfl, h1.mono (Tk.same s1), by omega, by omega, fun r1 us H1 hr1 hl1 t1 s2 => ?_⟩
    have s12 := s1.trans s2
    refine rd_ixT (j := 2) rfl (s12.sqT hT) rfl ⟨_, e2, rfl, h2.mono (Tk.same s12), by omega, by omega, fun r2 ws H2 hr2 hl2 t2 s3 => ?_⟩
    refine cat_new (K := K) (s3 _ _ hl1) hl2 (t1.mono (Tk.same s3)) t2 (by rw [List.length_map, List.length_map, Ex.code_len, Ex.code_len]; omega) fun r3 ys H3 hr3 hl3 t3 s4 => ?_
    have s14 := (s12.trans s3).trans s4
    refine rd_ixT (j := 0) rfl (s14.sqT hT) rfl ⟨(by show 1 ≤ sizeLine; decide), fun p2 hp2 => ⟨(by show 1 ≤ sizeLine; decide), fun p3 hp3 => ?_⟩⟩
    have s5 : Same H3 (L2.upd (L2.upd H3 p2 (.tup [.str o.s])) p3 (.lst [.ref p2])) := (Same.new hp2).trans (Same.new hp3)
    refine cat_new (K := K) (ds := e1.code.map Rw.d ++ e2.code.map Rw.d) (es := [(Rw.op o).d]) (s5 _ _ hl3) upd_same (t3.mono (Tk.same s5)) (.cons ((Tp.mk hp2 (.cons (.str _) .nil)).mono (Tk.new hp3)) .nil) (by simp [Ex.code_len]; omega) ?_
    rw [show e1.code.map Rw.d ++ e2.code.map Rw.d ++ [(Rw.op o).d] = (Ex.bin o e1 e2).code.map Rw.d by simp [Ex.code]]
    exact q.mono (s14.trans s5)
/-! ### _law_code and what it calls -/
/-- the turn as it is handed: None, or three numbers -/
def tnD : Option Tn → PyData
  | none => .none
  | some t => .tuple [.int t.1, .int t.2.1, .int t.2.2]
def tnOf : Option Tn → Tn
  | none => (0, 0, 0)
  | some t => t
/-- what may be coded: breaks where there is a while, at most so deep and so long; from a place on -/
structure CodeOk (s : Sm) (n : Nat) (tn : Option Tn) (base : Int) : Prop where
  wf : ∃ cs nk hand, s.Wf cs nk tn.isSome hand
  dep : s.dep ≤ n
  len : s.len ≤ 100000
  b0 : 0 ≤ base
  tn0 : ∀ t, tn = some t → 0 ≤ t.1
def spCode (n : Nat) : Sp := fun vs H Q _ => ∃ (v tv : V) (s : Sm) (base D : Int) (tn : Option Tn), vs = [v, .int base, .int D, tv] ∧ Tp K H v s.d ∧ Tp K H tv (tnD tn) ∧ CodeOk s n tn base ∧ NewL K H Q ((s.code base D (tnOf tn)).map Rw.d)
theorem spCode_zero (vs : List V) (H : Hp) (Q : VK) (E : XK) : ¬ spCode (K := K) 0 vs H Q E := by
  rintro ⟨v, tv, s, base, D, tn, _, _, _, h, _⟩
  have := h.dep
  cases s <;> simp [Sm.dep] at this
def spIfCode (n : Nat) : Sp := fun vs H Q _ => ∃ (v tv : V) (e : Ex) (s t : Sm) (base D : Int) (tn : Option Tn), vs = [v, .int base, .int D, tv] ∧ Tp K H v (Sm.ife e s t).d ∧ Tp K H tv (tnD tn) ∧ CodeOk (.ife e s t) (n + 1) tn base ∧ NewL K H Q (((Sm.ife e s t).code base D (tnOf tn)).map Rw.d)
def spLoopCode (n : Nat) : Sp := fun vs H Q _ => ∃ (v : V) (e : Ex) (s : Sm) (base D : Int) (tn : Option Tn), vs = [v, .int base, .int D] ∧ Tp K H v (Sm.whl e s).d ∧ CodeOk (.whl e s) (n + 1) tn base ∧ NewL K H Q (((Sm.whl e s).code base D (tnOf tn)).map Rw.d)
def spTryCode (n : Nat) : Sp := fun vs H Q _ => ∃ (v tv : V) (s : Sm) (hs : Hds) (base D : Int) (tn : Option Tn), vs = [v, .int base, .int D, tv] ∧ Tp K H v (Sm.tri s hs).d ∧ Tp K H tv (tnD tn) ∧ CodeOk (.tri s hs) (n + 1) tn base ∧ NewL K H Q (((Sm.tri s hs).code base D (tnOf tn)).map Rw.d)
def spCleanCode (n : Nat) : Sp := fun vs H Q _ => ∃ (v tv : V) (s c : Sm) (base D : Int) (tn : Option Tn), vs = [v, .int base, .int D, tv] ∧ Tp K H v (Sm.cln s c).d ∧ Tp K H tv (tnD tn) ∧ CodeOk (.cln s c) (n + 1) tn base ∧ NewL K H Q (((Sm.cln s c).code base D (tnOf tn)).map Rw.d)
def Sm.plain : Sm → Bool
  | .row _ | .ife _ _ _ | .whl _ _ | .tri _ _ | .cln _ _ => false
  | _ => true
def spPlainCode : Sp := fun vs H Q _ => ∃ (v tv : V) (s : Sm) (n : Nat) (base D : Int) (tn : Option Tn), vs = [v, tv] ∧ Tp K H v s.d ∧ Tp K H tv (tnD tn) ∧ s.plain = true ∧ CodeOk s n tn base ∧ NewL K H Q ((s.code base D (tnOf tn)).map Rw.d)
theorem Sm.dep_pos : ∀ s : Sm, 1 ≤ s.dep := fun s => by cases s <;> simp [Sm.dep]
theorem ite_int {c : Bool} : (if c = true then (1 : Int) else 0) = if c then 1 else 0 := by cases c <;> rfl
abbrev N_law_if_code : List Str := ["_law_one", "_law_base", "_law_depth", "_law_turn", "_law_head", "_law_yes", "_law_here", "_law_no"]
theorem rd_if_code {n : Nat} (vs : List V) (H : Hp) (Q : VK) (E : XK) (h : spIfCode (K := K) n vs H Q E) : t_law_if_code K (spPartCode K 6) (spCode (K := K) n) { nx := fun _ H' => Q .non H', rt := Q } (start N_law_if_code vs) H := by
  obtain ⟨v, tv, e, s, t, base, D, tn, rfl, ht, htn, ok, q⟩ := h
  obtain ⟨cs, nk, hand, ⟨we, de⟩, ws, wt⟩ := ok.wf
  have hd : max s.dep t.dep + 1 ≤ n + 1 := ok.dep
  have hl : e.len + 1 + s.len + 1 + t.len ≤ 100000 := ok.len
  have b0 := ok.b0
  obtain ⟨a, x0, x1, x2, x3, rfl, hT, h0, h1, h2, h3⟩ := ht.tup4
  refine rd_ixT (j := 1) rfl hT rfl ⟨_, e, rfl, h1, by omega, by omega, fun r1 us H1 hr1 hl1 t1 s1 => ?_⟩
  have lu : (us.length : Int) = e.len := by rw [t1.length, List.length_map, Ex.code_len]
  refine rd_ixT (j := 2) rfl (s1.sqT hT) rfl ⟨_, rfl, _, rfl, r1, us, rfl, .inl (SqL.of hl1), _, _, rfl, rfl, _, _, rfl, rfl, _, rfl, _, rfl, ?_⟩
  refine ⟨x2, tv, s, base + us.length + 1, D, tn, rfl, h2.mono (Tk.same s1), htn.mono (Tk.same s1), ⟨⟨cs, nk, hand, ws⟩, by omega, by omega, by omega, ok.tn0⟩, fun r2 ws' H2 hr2 hl2 t2 s2 => ?_⟩
  have s12 := s1.trans s2
  have hl1' := s2 _ _ hl1
  have lw : (ws'.length : Int) = s.len := by rw [t2.length, List.length_map, Sm.code_len]
  refine ⟨_, rfl, _, rfl, r1, us, rfl, .inl (SqL.of hl1'), _, _, rfl, rfl, _, rfl, r2, ws', rfl, .inl (SqL.of hl2), _, _, rfl, rfl, _, _, rfl, rfl, ?_⟩
  refine rd_ixT (j := 3) rfl (s12.sqT hT) rfl ⟨_, rfl, _, rfl, _, rfl, ?_⟩
  refine ⟨x3, tv, t, base + us.length + ws'.length + 2, D, tn, rfl, h3.mono (Tk.same s12), htn.mono (Tk.same s12), ⟨⟨cs, nk, hand, wt⟩, by omega, by omega, by omega, ok.tn0⟩, fun r3 zs H3 hr3 hl3 t3 s3 => ?_⟩
  have lz : (zs.length : Int) = t.len := by rw [t3.length, List.length_map, Sm.code_len]
  have e1 : base + us.length + 1 = base + e.len + 1 := by omega
  have e2 : base + us.length + ws'.length + 2 = base + e.len + 1 + s.len + 1 := by omega
  rw [e1] at t2; rw [e2] at t3
  have hl1'' := s3 _ _ hl1'
  have hl2' := s3 _ _ hl2
  -- head + [("unless", here)]
  refine ⟨_, rfl, _, rfl, (by show 2 ≤ sizeLine; decide), fun p hp => ⟨(by show 1 ≤ sizeLine; decide), fun p2 hp2 => ?_⟩⟩
  have sA : Same H3 (L2.upd (L2.upd H3 p (.tup [.str "unless", .int (base + us.length + ws'.length + 2)])) p2 (.lst [.ref p])) := (Same.new hp).trans (Same.new hp2)
  refine cat_new (K := K) (ds := e.code.map Rw.d) (es := [(Rw.unless (base + us.length + ws'.length + 2)).d]) (sA _ _ hl1'') upd_same ((t1.mono (Tk.same (s2.trans s3))).mono (Tk.same sA)) (.cons ((Tp.mk hp (.cons (.str _) (.cons (.int _) .nil))).mono (Tk.new hp2)) .nil) (by rw [List.length_map, Ex.code_len]; simp; omega) fun r4 ws4 H4 hr4 hl4 t4 s4 => ?_
  have s34 := sA.trans s4
  refine ⟨_, rfl, cat_new (K := K) hl4 (s34 _ _ hl2') t4 ((t2.mono (Tk.same s3)).mono (Tk.same s34)) (by simp [Ex.code_len, Sm.code_len]; omega) fun r5 ws5 H5 hr5 hl5 t5 s5 => ?_⟩
  have s35 := s34.trans s5
  refine ⟨_, rfl, _, rfl, r3, zs, rfl, .inl (SqL.of (s35 _ _ hl3)), _, _, rfl, rfl, (by show 2 ≤ sizeLine; decide), fun p3 hp3 => ⟨(by show 1 ≤ sizeLine; decide), fun p4 hp4 => ?_⟩⟩
  have sB : Same H5 (L2.upd (L2.upd H5 p3 (.tup [.str "go", .int (base + us.length + ws'.length + 2 + zs.length)])) p4 (.lst [.ref p3])) := (Same.new hp3).trans (Same.new hp4)
  refine cat_new (K := K) (es := [(Rw.go (base + us.length + ws'.length + 2 + zs.length)).d]) (sB _ _ hl5) upd_same (t5.mono (Tk.same sB)) (.cons ((Tp.mk hp3 (.cons (.str _) (.cons (.int _) .nil))).mono (Tk.new hp4)) .nil) (by simp [Ex.code_len, Sm.code_len]; omega) fun r6 ws6 H6 hr6 hl6 t6 s6 => ?_
  have s36 := (s35.trans sB).trans s6
  refine ⟨_, rfl, cat_new (K := K) hl6 (s36 _ _ hl3) t6 (t3.mono (Tk.same s36)) (by simp [Ex.code_len, Sm.code_len]; omega) ?_⟩
  have e3 : base + us.length + ws'.length + 2 + zs.length = base + e.len + 1 + s.len + 1 + t.len := by omega
  rw [e3, e2]
  rw [show e.code.map Rw.d ++ [(Rw.unless (base + e.len + 1 + s.len + 1)).d] ++ (s.code (base + e.len + 1) D (tnOf tn)).map Rw.d ++ [(Rw.go (base + e.len + 1 + s.len + 1 + t.len)).d] ++ (t.code (base + e.len + 1 + s.len + 1) D (tnOf tn)).map Rw.d = ((Sm.ife e s t).code base D (tnOf tn)).map Rw.d by simp [Sm.code]]
  exact q.mono ((s12.trans s3).trans s36)
theorem shaped_rw (r : Rw) : SeqAt.shaped r.d = true := by
  cases r with
  | op o => cases o <;> decide +kernel
  | hand b x kd D => cases kd <;> simp [SeqAt.shaped, Rw.d, kindD, PyData.canLay0, PyData.canLayAll0, PyData.depth, PyData.depthAll] <;> decide +kernel
  | _ => simp [SeqAt.shaped, Rw.d, PyData.canLay0, PyData.canLayAll0, PyData.depth, PyData.depthAll] <;> decide +kernel
/-- [row, other][int(row == mark)] where all three are rows -/
theorem pick_row {σ : L2.St} {H2 : Hp} {x : V} {r r' mk : Rw} {i : Nat} {tb tm : TE} {Q' : VK} (hx : σ[i]? = some (some x)) (tx : Tp K H2 x r.d)
    (hb : ∀ (H3 : Hp) (Q2 : VK), Same H2 H3 → (∀ p H4, Same H3 H4 → Tp K H4 (.ref p) r'.d → Q2 (.ref p) H4) → tb σ H3 Q2)
    (hm : ∀ (H3 : Hp) (Q2 : VK), Same H2 H3 → (∀ p H4, Same H3 H4 → Tp K H4 (.ref p) mk.d → Q2 (.ref p) H4) → tm σ H3 Q2) (eqv : PyData.eqv r.d mk.d = decide (r = mk))
    (q : ∀ y H3, Same H2 H3 → Tp K H3 y (if r = mk then r' else r).d → Q' y H3) :
    tOp (rIxL K) (tLst (tCons (tVar i) (tCons tb tNil))) (tCB rInt1 (tCons (tOp (rEqD K) (tVar i) tm) tNil)) σ H2 Q' := by
  refine ⟨_, hx, hb H2 _ (Same.refl _) fun p H3 s3 t3 => ⟨(by show 2 ≤ sizeLine; decide), fun l hl => ?_⟩⟩
  have s4 : Same H2 (L2.upd H3 l (.lst [x, .ref p])) := s3.trans (Same.new hl)
  refine ⟨_, hx, hm _ _ s4 fun p2 H5 s5 t5 => ⟨r.d, mk.d, (tx.mono (Tk.same (s4.trans s5))).dp, t5.dp, shaped_rw r, shaped_rw mk, .inr ⟨_, rfl, ?_⟩⟩⟩
  rw [eqv]
  have hl5 := s5 l _ upd_same
  by_cases c : r = mk
  · rw [if_pos (dT c)]
    have z := q (.ref p) H5 (s4.trans s5)
    rw [if_pos c] at z
    exact ⟨l, _, 1, .ref p, rfl, rfl, SqL.of hl5, rfl, z (t3.mono (Tk.same ((Same.new hl).trans s5)))⟩
  · rw [if_neg (by rw [dF c]; decide)]
    have z := q x H5 (s4.trans s5)
    rw [if_neg c] at z
    exact ⟨l, _, 0, x, rfl, rfl, SqL.of hl5, rfl, z (tx.mono (Tk.same (s4.trans s5)))⟩
abbrev N_law_loop_code : List Str := ["_law_one", "_law_base", "_law_depth", "_law_head", "_law_start", "_law_inner", "_law_leave", "_law_row"]
theorem rd_loop_code {n : Nat} (vs : List V) (H : Hp) (Q : VK) (E : XK) (h : spLoopCode (K := K) n vs H Q E) : t_law_loop_code K (spPartCode K 6) (spCode (K := K) n) { nx := fun _ H' => Q .non H', rt := Q } (start N_law_loop_code vs) H := by
  obtain ⟨v, e, s, base, D, tn, rfl, ht, ok, q⟩ := h
  obtain ⟨cs, nk, hand, ⟨we, de⟩, ws⟩ := ok.wf
  have hd : s.dep + 1 ≤ n + 1 := ok.dep
  have hl : e.len + 2 + s.len + 1 ≤ 100000 := ok.len
  have b0 := ok.b0
  obtain ⟨a, x0, x1, x2, rfl, hT, h0, h1, h2⟩ := ht.tup3
  refine rd_ixT (j := 1) rfl hT rfl ⟨_, e, rfl, h1, by omega, by omega, fun r1 us H1 hr1 hl1 t1 s1 => ?_⟩
  have lu : (us.length : Int) = e.len := by rw [t1.length, List.length_map, Ex.code_len]
  refine ⟨_, rfl, _, rfl, r1, us, rfl, .inl (SqL.of hl1), _, _, rfl, rfl, _, _, rfl, rfl, ?_⟩
  refine rd_ixT (j := 2) rfl (s1.sqT hT) rfl ⟨_, rfl, _, rfl, _, rfl, _, rfl, _, rfl, _, _, rfl, rfl, _, rfl, (by show 3 ≤ sizeLine; decide), fun p hp => ?_⟩
  have sp : Same H1 (L2.upd H1 p (.tup [.int base, .int (-1 - base), .int D])) := Same.new hp
  have eS : base + us.length + 2 = base + e.len + 2 := by omega
  refine ⟨x2, .ref p, s, base + us.length + 2, D, some (base, -1 - base, D), rfl, (h2.mono (Tk.same s1)).mono (Tk.same sp), Tp.mk hp (.cons (.int _) (.cons (.int _) (.cons (.int _) .nil))), ⟨⟨cs, nk, hand, ws⟩, by omega, by omega, by omega, fun t z => by cases z; exact b0⟩, fun r2 ws' H2 hr2 hl2 t2 s2 => ?_⟩
  rw [eS] at t2
  have s12 := (s1.trans sp).trans s2
  have lw : (ws'.length : Int) = s.len := by rw [t2.length, List.length_map, Sm.code_len]
  refine ⟨_, rfl, _, rfl, r2, ws', rfl, .inl (SqL.of hl2), _, _, rfl, rfl, _, _, rfl, rfl, ?_⟩
  -- the look at each row
  have eZ : base + us.length + 2 + ws'.length + 1 = base + e.len + 2 + s.len + 1 := by omega
  refine ⟨_, rfl, r2, rfl, ⟨_, SqL.of hl2⟩, fun L hL => ?_⟩
  refine lc_same (K := K) (es := ((s.code (base + e.len + 2) D (base, base + e.len + 2 + s.len + 1, D)).map Rw.d)) (SqL.of hl2) t2 (by simp [Sm.code_len]) hL (by simp [Sm.code_len]; omega) ?hw ?_ ?_
  case hw => exact fun _ => rfl
  · intro i x d f H3 hd hf s3 tx Q' q'
    rw [List.getElem?_map] at hd hf
    have hfill := Sm.subL (w := -1 - base) (z := base + e.len + 2 + s.len + 1) (p := base) (D0 := D) (by omega) b0 s (base + e.len + 2) D (by omega)
    rw [← hfill, List.getElem?_map] at hf
    cases er : (s.code (base + e.len + 2) D (tnOf (some (base, -1 - base, D))))[i]? with
    | none => rw [er] at hd; cases hd
    | some r =>
      have er' : (s.code (base + e.len + 2) D (base, -1 - base, D))[i]? = some r := er
      rw [er] at hd; rw [er'] at hf
      obtain rfl : r.d = d := Option.some.inj hd
      obtain rfl : (subL (-1 - base) (base + e.len + 2 + s.len + 1) D r).d = f := Option.some.inj hf
      refine pick_row (r := r) (r' := .leap (base + e.len + 2 + s.len + 1) D) (mk := .leap (-1 - base) D) rfl tx ?_ ?_ (Rw.eqv_leap _ _ _) q'
      · intro H4 Q2 s4 k
        refine ⟨_, rfl, _, rfl, (by show 3 ≤ sizeLine; decide), fun p3 hp3 => k p3 _ (Same.new hp3) ?_⟩
        rw [← eZ]
        exact Tp.mk hp3 (.cons (.str _) (.cons (.int _) (.cons (.int _) .nil)))
      · intro H4 Q2 s4 k
        exact ⟨_, rfl, _, rfl, _, _, rfl, rfl, _, rfl, (by show 3 ≤ sizeLine; decide), fun p3 hp3 => k p3 _ (Same.new hp3) (Tp.mk hp3 (.cons (.str _) (.cons (.int _) (.cons (.int _) .nil))))⟩
  · intro zs H3 hL3 tz s3
    have s13 := s12.trans s3
    have hl1' := ((sp.trans s2).trans s3) _ _ hl1
    refine ⟨_, rfl, _, rfl, (by show 2 ≤ sizeLine; decide), fun p1 hp1 => ⟨(by show 1 ≤ sizeLine; decide), fun p2 hp2 => ⟨(by show 2 ≤ sizeLine; decide), fun p3 hp3 => ?_⟩⟩⟩
    have sA : Same H3 (L2.upd (L2.upd (L2.upd H3 p1 (.tup [.str "unless", .int (base + us.length + 2 + ws'.length + 1)])) p2 (.tup [.str "turn"])) p3 (.lst [.ref p1, .ref p2])) := ((Same.new hp1).trans (Same.new hp2)).trans (Same.new hp3)
    have tA : TpAll K (L2.upd (L2.upd (L2.upd H3 p1 (.tup [.str "unless", .int (base + us.length + 2 + ws'.length + 1)])) p2 (.tup [.str "turn"])) p3 (.lst [.ref p1, .ref p2])) [.ref p1, .ref p2] [(Rw.unless (base + us.length + 2 + ws'.length + 1)).d, Rw.turn.d] :=
      .cons (((Tp.mk hp1 (.cons (.str _) (.cons (.int _) .nil))).mono (Tk.new hp2)).mono (Tk.new hp3)) (.cons ((Tp.mk hp2 (.cons (.str _) .nil)).mono (Tk.new hp3)) .nil)
    refine cat_new (K := K) (sA _ _ hl1') upd_same ((t1.mono (Tk.same ((sp.trans s2).trans s3))).mono (Tk.same sA)) tA (by simp [Ex.code_len]; omega) fun r4 ws4 H4 hr4 hl4 t4 s4 => ?_
    have s34 := sA.trans s4
    refine ⟨_, rfl, cat_new (K := K) hl4 (s34 _ _ hL3) t4 (tz.mono (Tk.same s34)) (by simp [Ex.code_len, Sm.code_len]; omega) fun r5 ws5 H5 hr5 hl5 t5 s5 => ?_⟩
    refine ⟨_, rfl, (by show 2 ≤ sizeLine; decide), fun p4 hp4 => ⟨(by show 1 ≤ sizeLine; decide), fun p5 hp5 => ?_⟩⟩
    have sB : Same H5 (L2.upd (L2.upd H5 p4 (.tup [.str "go", .int base])) p5 (.lst [.ref p4])) := (Same.new hp4).trans (Same.new hp5)
    refine cat_new (K := K) (es := [(Rw.go base).d]) (sB _ _ hl5) upd_same (t5.mono (Tk.same sB)) (.cons ((Tp.mk hp4 (.cons (.str _) (.cons (.int _) .nil))).mono (Tk.new hp5)) .nil) (by simp [Ex.code_len, Sm.code_len]; omega) ?_
    rw [eZ, show e.code.map Rw.d ++ [(Rw.unless (base + e.len + 2 + s.len + 1)).d, Rw.turn.d] ++ (s.code (base + e.len + 2) D (base, base + e.len + 2 + s.len + 1, D)).map Rw.d ++ [(Rw.go base).d] = ((Sm.whl e s).code base D (tnOf tn)).map Rw.d by simp [Sm.code]]
    exact q.mono (((s13.trans s34).trans s5).trans sB)
abbrev N_law_clean_code : List Str := ["_law_one", "_law_base", "_law_depth", "_law_turn", "_law_inner", "_law_end", "_law_last"]
theorem rd_clean_code {n : Nat} (vs : List V) (H : Hp) (Q : VK) (E : XK) (h : spCleanCode (K := K) n vs H Q E) : t_law_clean_code K (spCode (K := K) n) { nx := fun _ H' => Q .non H', rt := Q } (start N_law_clean_code vs) H := by
  obtain ⟨v, tv, s, c, base, D, tn, rfl, ht, htn, ok, q⟩ := h
  obtain ⟨cs, nk, hand, ws, wc⟩ := ok.wf
  have hd : max s.dep c.dep + 1 ≤ n + 1 := ok.dep
  have hl : s.len + 2 + c.len + 1 ≤ 100000 := ok.len
  have b0 := ok.b0
  obtain ⟨a, x0, x1, x2, rfl, hT, h0, h1, h2⟩ := ht.tup3
  refine rd_ixT (j := 1) rfl hT rfl ⟨_, rfl, _, rfl, _, rfl, ?_⟩
  refine ⟨x1, tv, s, base, D, tn, rfl, h1, htn, ⟨⟨cs, nk, hand, ws⟩, by omega, by omega, b0, ok.tn0⟩, fun r1 us H1 hr1 hl1 t1 s1 => ?_⟩
  have lu : (us.length : Int) = s.len := by rw [t1.length, List.length_map, Sm.code_len]
  refine ⟨(by show 1 ≤ sizeLine; decide), fun p1 hp1 => ⟨(by show 1 ≤ sizeLine; decide), fun p2 hp2 => ?_⟩⟩
  have sA : Same H1 (L2.upd (L2.upd H1 p1 (.tup [.str "mend"])) p2 (.lst [.ref p1])) := (Same.new hp1).trans (Same.new hp2)
  refine cat_new (K := K) (es := [Rw.mend.d]) (sA _ _ hl1) upd_same (t1.mono (Tk.same sA)) (.cons ((Tp.mk hp1 (.cons (.str _) .nil)).mono (Tk.new hp2)) .nil) (by simp [Sm.code_len]; omega) fun r2 ws2 H2 hr2 hl2 t2 s2 => ?_
  have s12 := (s1.trans sA).trans s2
  have lw : (ws2.length : Int) = s.len + 1 := by rw [t2.length]; simp [Sm.code_len]
  refine ⟨_, rfl, _, rfl, r2, ws2, rfl, .inl (SqL.of hl2), _, _, rfl, rfl, ?_⟩
  refine rd_ixT (j := 2) rfl (s12.sqT hT) rfl ⟨_, rfl, _, _, rfl, rfl, _, rfl, _, _, rfl, rfl, _, rfl, ?_⟩
  have eB : base + ws2.length + 1 = base + s.len + 2 := by omega
  refine ⟨x2, tv, c, base + ws2.length + 1, D + 1, tn, rfl, h2.mono (Tk.same s12), htn.mono (Tk.same s12), ⟨⟨cs, nk, hand, wc⟩, by omega, by omega, by omega, ok.tn0⟩, fun r3 ws3 H3 hr3 hl3 t3 s3 => ?_⟩
  rw [eB] at t3
  refine ⟨_, rfl, _, rfl, _, rfl, _, rfl, (by show 4 ≤ sizeLine; decide), fun p3 hp3 => ⟨(by show 1 ≤ sizeLine; decide), fun p4 hp4 => ?_⟩⟩
  have sB : Same H3 (L2.upd (L2.upd H3 p3 (.tup [.str "cleanup", .int base, .int (base + ws2.length), .int D])) p4 (.lst [.ref p3])) := (Same.new hp3).trans (Same.new hp4)
  refine cat_new (K := K) (es := [(Rw.cup base (base + ws2.length) D).d]) (sB _ _ (s3 _ _ hl2)) upd_same ((t2.mono (Tk.same s3)).mono (Tk.same sB)) (.cons ((Tp.mk hp3 (.cons (.str _) (.cons (.int _) (.cons (.int _) (.cons (.int _) .nil))))).mono (Tk.new hp4)) .nil) (by simp [Sm.code_len]; omega) fun r4 ws4 H4 hr4 hl4 t4 s4 => ?_
  have s34 := sB.trans s4
  refine ⟨_, rfl, cat_new (K := K) hl4 (s34 _ _ hl3) t4 (t3.mono (Tk.same s34)) (by simp [Sm.code_len]; omega) fun r5 ws5 H5 hr5 hl5 t5 s5 => ?_⟩
  refine ⟨(by show 1 ≤ sizeLine; decide), fun p5 hp5 => ⟨(by show 1 ≤ sizeLine; decide), fun p6 hp6 => ?_⟩⟩
  have sC : Same H5 (L2.upd (L2.upd H5 p5 (.tup [.str "resume"])) p6 (.lst [.ref p5])) := (Same.new hp5).trans (Same.new hp6)
  refine cat_new (K := K) (es := [Rw.resume.d]) (sC _ _ hl5) upd_same (t5.mono (Tk.same sC)) (.cons ((Tp.mk hp5 (.cons (.str _) .nil)).mono (Tk.new hp6)) .nil) (by simp [Sm.code_len]; omega) ?_
  have eX : base + ws2.length = base + s.len + 1 := by omega
  rw [eX, show (s.code base D (tnOf tn)).map Rw.d ++ [Rw.mend.d] ++ [(Rw.cup base (base + s.len + 1) D).d] ++ (c.code (base + s.len + 2) (D + 1) (tnOf tn)).map Rw.d ++ [Rw.resume.d] = ((Sm.cln s c).code base D (tnOf tn)).map Rw.d by simp [Sm.code]]
  exact q.mono ((((s12.trans s3).trans s34).trans s5).trans sC)
abbrev N_law_try_code : List Str := ["_law_one", "_law_base", "_law_depth", "_law_turn", "_law_inner", "_law_end", "_law_rows", "_law_handler_here", "_law_leave", "_law_row"]
theorem rd_try_code {n : Nat} (vs : List V) (H : Hp) (Q : VK) (E : XK) (h : spTryCode (K := K) n vs H Q E) : t_law_try_code K (spCode (K := K) n) { nx := fun _ H' => Q .non H', rt := Q } (start N_law_try_code vs) H := by
  obtain ⟨v, tv, s, hs, base, D, tn, rfl, ht, htn, ok, q⟩ := h
  obtain ⟨cs, nk, hand, ws, wh⟩ := ok.wf
  have hd : max s.dep hs.dep + 1 ≤ n + 1 := ok.dep
  have hl : s.len + 1 + hs.len ≤ 100000 := ok.len
  have b0 := ok.b0
  obtain ⟨a, x0, x1, x2, rfl, hT, h0, h1, h2⟩ := ht.tup3
  obtain ⟨ah, hxs, rfl, hTh, hth⟩ := h2.tupE
  refine rd_ixT (j := 1) rfl hT rfl ⟨_, rfl, _, rfl, _, rfl, ?_⟩
  refine ⟨x1, tv, s, base, D, tn, rfl, h1, htn, ⟨⟨cs, nk, hand, ws⟩, by omega, by omega, b0, ok.tn0⟩, fun r1 us H1 hr1 hl1 t1 s1 => ?_⟩
  have lu : (us.length : Int) = s.len := by rw [t1.length, List.length_map, Sm.code_len]
  refine ⟨_, rfl, _, rfl, r1, us, rfl, .inl (SqL.of hl1), _, _, rfl, rfl, _, rfl, _, rfl, (by show 2 ≤ sizeLine; decide), fun p1 hp1 => ⟨(by show 1 ≤ sizeLine; decide), fun p2 hp2 => ?_⟩⟩
  have sA : Same H1 (L2.upd (L2.upd H1 p1 (.tup [.str "go", .int (-1)])) p2 (.lst [.ref p1])) := (Same.new hp1).trans (Same.new hp2)
  refine cat_new (K := K) (es := [(Rw.go (-1)).d]) (sA _ _ hl1) upd_same (t1.mono (Tk.same sA)) (.cons ((Tp.mk hp1 (.cons (.str _) (.cons (.int _) .nil))).mono (Tk.new hp2)) .nil) (by simp [Sm.code_len]; omega) fun r2 ws2 H2 hr2 hl2 t2 s2 => ?_
  have s12 := (s1.trans sA).trans s2
  have eX : base + us.length = base + s.len := by omega
  -- the handlers, one by one
  refine rd_ixT (j := 2) rfl (s12.sqT hT) rfl ⟨ah, rfl, ⟨_, s12.sqT hTh⟩, for_tup (K := K) (a := ah) (xs := hxs) (fun i σ H' => ∃ (r : Hds) (pre : List Rw) (rr : Addr) (rv : List V) (v7 : Option V),
      σ = [some (.ref a), some (.int base), some (.int D), some tv, some (.ref r1), some (.int (base + us.length)), some (.ref rr), v7, none, none] ∧ Same H H' ∧ H' rr = some (.lst rv) ∧ TpAll K H' rv (((s.code base D (tnOf tn)) ++ [Rw.go (-1)] ++ pre).map Rw.d) ∧
      TpAll K H' (hxs.drop i) r.ds ∧ r.Wf cs nk tn.isSome ∧ r.dep ≤ n ∧ pre.length + r.len = hs.len ∧ pre ++ r.code base (base + s.len) (-1) (base + s.len + 1 + pre.length) D (tnOf tn) = hs.code base (base + s.len) (-1) (base + s.len + 1) D (tnOf tn))
    ⟨hs, [], r2, ws2, none, rfl, s12, hl2, by rw [List.append_nil, List.map_append]; exact t2, by rw [List.drop_zero]; exact hth.mono (Tk.same s12), wh, by omega, by simp, by simp⟩ (fun i σ H' _ ⟨_, _, _, _, _, _, s', _⟩ => s'.sqT hTh) ?_ ?_⟩
  · rintro i x σ H3 hx ⟨r, pre, rr, rv, v7, rfl, s3, hrr, trv, tr, wr, dr, lr, er⟩
    obtain ⟨k, sl, t, r', rfl, tx, tr'⟩ := hds_at tr hx
    obtain ⟨ax, y0, y1, y2, rfl, hTx, k0, k1, k2⟩ := tx.tup3
    cases k1.intE
    obtain ⟨wk, wsl, wt, wr'⟩ : (∀ j, k = some j → j < nk) ∧ sl < 8 ∧ t.Wf cs nk tn.isSome true ∧ r'.Wf cs nk tn.isSome := wr
    have dr2 : max t.dep r'.dep ≤ n := dr
    have lr2 : pre.length + (2 + t.len + 2 + r'.len) = hs.len := lr
    have lrv : (rv.length : Int) = s.len + 1 + pre.length := by rw [trv.length]; simp [Sm.code_len]; omega
    -- the two rows ahead
    refine ⟨_, rfl, _, rfl, _, rfl, rd_ixT (j := 0) rfl hTx rfl ⟨_, rfl, (by show 5 ≤ sizeLine; decide), fun p3 hp3 => ?_⟩⟩
    have sx1 : Same H3 (L2.upd H3 p3 (.tup [.str "handler", .int base, .int (base + us.length), y0, .int D])) := Same.new hp3
    refine rd_ixT (j := 1) rfl (sx1.sqT hTx) rfl ⟨(by show 2 ≤ sizeLine; decide), fun p4 hp4 => ⟨(by show 2 ≤ sizeLine; decide), fun p5 hp5 => ?_⟩⟩
    have sB : Same H3 (L2.upd (L2.upd (L2.upd H3 p3 (.tup [.str "handler", .int base, .int (base + us.length), y0, .int D])) p4 (.tup [.str "set", .int (sl : Int)])) p5 (.lst [.ref p3, .ref p4])) := (sx1.trans (Same.new hp4)).trans (Same.new hp5)
    have tB : TpAll K (L2.upd (L2.upd (L2.upd H3 p3 (.tup [.str "handler", .int base, .int (base + us.length), y0, .int D])) p4 (.tup [.str "set", .int (sl : Int)])) p5 (.lst [.ref p3, .ref p4])) [.ref p3, .ref p4] [(Rw.hand base (base + s.len) k D).d, (Rw.set sl).d] := by
      rw [← eX]
      exact .cons (((Tp.mk hp3 (.cons (.str _) (.cons (.int _) (.cons (.int _) (.cons k0 (.cons (.int _) .nil)))))).mono (Tk.new hp4)).mono (Tk.new hp5)) (.cons ((Tp.mk hp4 (.cons (.str _) (.cons (.int _) .nil))).mono (Tk.new hp5)) .nil)
    refine cat_new (K := K) (sB _ _ hrr) upd_same (trv.mono (Tk.same sB)) tB (by simp [Sm.code_len]; omega) fun r4 ws4 H4 hr4 hl4 t4 s4 => ?_
    have s34 := sB.trans s4
    have l4 : (ws4.length : Int) = s.len + 1 + pre.length + 2 := by rw [t4.length]; simp [Sm.code_len]; omega
    -- the handler's own
    refine ⟨_, rfl, rd_ixT (j := 2) rfl (s34.sqT hTx) rfl ⟨_, rfl, _, rfl, r4, ws4, rfl, .inl (SqL.of hl4), _, _, rfl, rfl, _, rfl, _, _, rfl, rfl, _, rfl, ?_⟩⟩
    have eB : base + ws4.length = base + s.len + 1 + pre.length + 2 := by omega
    refine ⟨y2, tv, t, base + ws4.length, D + 1, tn, rfl, k2.mono (Tk.same s34), htn.mono (Tk.same (s3.trans s34)), ⟨⟨cs, nk, true, wt⟩, by omega, by omega, by omega, ok.tn0⟩, fun r5 ws5 H5 hr5 hl5 t5 s5 => ?_⟩
    rw [eB] at t5
    refine cat_new (K := K) (s5 _ _ hl4) hl5 (t4.mono (Tk.same s5)) t5 (by simp [Sm.code_len]; omega) fun r6 ws6 H6 hr6 hl6 t6 s6 => ?_
    refine ⟨_, rfl, (by show 1 ≤ sizeLine; decide), fun p6 hp6 => ⟨_, rfl, (by show 2 ≤ sizeLine; decide), fun p7 hp7 => ⟨(by show 2 ≤ sizeLine; decide), fun p8 hp8 => ?_⟩⟩⟩
    have sC : Same H6 (L2.upd (L2.upd (L2.upd H6 p6 (.tup [.str "settled"])) p7 (.tup [.str "go", .int (-1)])) p8 (.lst [.ref p6, .ref p7])) := ((Same.new hp6).trans (Same.new hp7)).trans (Same.new hp8)
    have tC : TpAll K (L2.upd (L2.upd (L2.upd H6 p6 (.tup [.str "settled"])) p7 (.tup [.str "go", .int (-1)])) p8 (.lst [.ref p6, .ref p7])) [.ref p6, .ref p7] [Rw.settled.d, (Rw.go (-1)).d] :=
      .cons (((Tp.mk hp6 (.cons (.str _) .nil)).mono (Tk.new hp7)).mono (Tk.new hp8)) (.cons ((Tp.mk hp7 (.cons (.str _) (.cons (.int _) .nil))).mono (Tk.new hp8)) .nil)
    refine cat_new (K := K) (sC _ _ hl6) upd_same (t6.mono (Tk.same sC)) tC (by simp [Sm.code_len]; omega) fun r7 ws7 H7 hr7 hl7 t7 s7 => ?_
    have sZ := (((s34.trans s5).trans s6).trans sC).trans s7
    refine ⟨r', pre ++ ([Rw.hand base (base + s.len) k D, Rw.set sl] ++ t.code (base + s.len + 1 + pre.length + 2) (D + 1) (tnOf tn) ++ [Rw.settled, Rw.go (-1)]), r7, ws7, _, rfl, s3.trans sZ, hl7, ?_, tr'.mono (Tk.same sZ), wr', by omega, by simp [Sm.code_len]; omega, ?_⟩
    · rw [show ((s.code base D (tnOf tn)) ++ [Rw.go (-1)] ++ (pre ++ ([Rw.hand base (base + s.len) k D, Rw.set sl] ++ t.code (base + s.len + 1 + pre.length + 2) (D + 1) (tnOf tn) ++ [Rw.settled, Rw.go (-1)]))).map Rw.d = ((s.code base D (tnOf tn)) ++ [Rw.go (-1)] ++ pre).map Rw.d ++ [(Rw.hand base (base + s.len) k D).d, (Rw.set sl).d] ++ (t.code (base + s.len + 1 + pre.length + 2) (D + 1) (tnOf tn)).map Rw.d ++ [Rw.settled.d, (Rw.go (-1)).d] by simp]
      exact t7
    · rw [← er]
      have e9 : base + s.len + 1 + ((pre ++ ([Rw.hand base (base + s.len) k D, Rw.set sl] ++ t.code (base + s.len + 1 + pre.length + 2) (D + 1) (tnOf tn) ++ [Rw.settled, Rw.go (-1)])).length : Int) = base + s.len + 1 + pre.length + 2 + t.len + 2 := by simp [Sm.code_len]; omega
      rw [e9]
      simp [Hds.code]
  · rintro σ H3 ⟨r, pre, rr, rv, v7, rfl, s3, hrr, trv, tr, wr, dr, lr, er⟩
    cases hds_end tr
    have er' : pre = hs.code base (base + s.len) (-1) (base + s.len + 1) D (tnOf tn) := by simpa [Hds.code] using er
    have lr' : pre.length = hs.len := by simpa [Hds.len] using lr
    have lrv : (rv.length : Int) = s.len + 1 + hs.len := by rw [trv.length]; simp [Sm.code_len]; omega
    refine ⟨_, rfl, _, rfl, rr, rv, rfl, .inl (SqL.of hrr), _, _, rfl, rfl, ?_⟩
    have eZ : base + rv.length = base + s.len + 1 + hs.len := by omega
    refine ⟨_, rfl, rr, rfl, ⟨_, SqL.of hrr⟩, fun L hL => ?_⟩
    have hfill : ((s.code base D (tnOf tn)) ++ [Rw.go (-1)] ++ pre).map (subG (base + s.len + 1 + hs.len)) = (Sm.tri s hs).code base D (tnOf tn) := by
      rw [er', List.map_append, List.map_append, Sm.subG s _ _ _ b0, Hds.fill hs _ _ _ _ _ (by omega)]
      rw [show [Rw.go (-1)].map (subG (base + s.len + 1 + hs.len)) = [.go (base + s.len + 1 + hs.len)] from congrArg (fun z => [z]) (if_pos rfl)]
      simp [Sm.code]
    refine lc_same (K := K) (es := ((Sm.tri s hs).code base D (tnOf tn)).map Rw.d) (SqL.of hrr) trv (by simp [Sm.code_len, Sm.len]; omega) hL (by simp [Sm.code_len]; omega) ?hw ?_ ?_
    case hw => exact fun _ => rfl
    · intro i x d f H4 hd hf s4 tx Q' q'
      rw [List.getElem?_map] at hd hf
      rw [← hfill, List.getElem?_map] at hf
      cases er2 : ((s.code base D (tnOf tn)) ++ [Rw.go (-1)] ++ pre)[i]? with
      | none => rw [er2] at hd; cases hd
      | some rw_ =>
        rw [er2] at hd hf
        obtain rfl : rw_.d = d := Option.some.inj hd
        obtain rfl : (subG (base + s.len + 1 + hs.len) rw_).d = f := Option.some.inj hf
        refine pick_row (r := rw_) (r' := .go (base + s.len + 1 + hs.len)) (mk := .go (-1)) rfl tx ?_ ?_ (Rw.eqv_go _ _) q'
        · intro H5 Q2 s5 k
          refine ⟨_, rfl, (by show 2 ≤ sizeLine; decide), fun p3 hp3 => k p3 _ (Same.new hp3) ?_⟩
          rw [← eZ]
          exact Tp.mk hp3 (.cons (.str _) (.cons (.int _) .nil))
        · intro H5 Q2 s5 k
          exact ⟨_, rfl, (by show 2 ≤ sizeLine; decide), fun p3 hp3 => k p3 _ (Same.new hp3) (Tp.mk hp3 (.cons (.str _) (.cons (.int _) .nil)))⟩
    · intro zs H4 hL4 tz s4
      exact q L zs H4 ((s3.free hL)) hL4 tz (s3.trans s4)
abbrev N_law_plain_code : List Str := ["_law_one", "_law_turn", "_law_word", "_law_rows", "_law_part_here"]
/-- an expression's rows, and one more -/
theorem part_and {σ : L2.St} {H : Hp} {Q2 : VK} {e : Ex} {x : V} {r : Rw} {te tr : TE} (te_ : ∀ Q' : VK, Q' x H → te σ H Q') (tx : Tp K H x e.d) (de : e.dep ≤ 5) (hl : e.len ≤ 100000)
    (tr_ : ∀ (H1 : Hp) (Q' : VK), Same H H1 → (∀ p H2, Same H1 H2 → Tp K H2 (.ref p) r.d → Q' (.ref p) H2) → tr σ H1 Q') (q : NewL K H Q2 (e.code.map Rw.d ++ [r.d])) :
    tOp rCat (tCall (spPartCode K 6) [] E0 (tCons te tNil)) (tLst (tCons tr tNil)) σ H Q2 := by
  refine te_ _ ⟨x, e, rfl, tx, by omega, by omega, fun r1 us H1 hr1 hl1 t1 s1 => ?_⟩
  refine tr_ H1 _ s1 fun p H2 s2 tp => ⟨(by show 1 ≤ sizeLine; decide), fun p2 hp2 => ?_⟩
  have s3 : Same H1 (L2.upd H2 p2 (.lst [.ref p])) := s2.trans (Same.new hp2)
  exact cat_new (K := K) (s3 _ _ hl1) upd_same (t1.mono (Tk.same s3)) (.cons (tp.mono (Tk.new hp2)) .nil) (by simp [Ex.code_len]; omega) (q.mono (s1.trans s3))
theorem rd_plain_code (vs : List V) (H : Hp) (Q : VK) (E : XK) (h : spPlainCode (K := K) vs H Q E) : t_law_plain_code K (spPartCode K 6) { nx := fun _ H' => Q .non H', rt := Q } (start N_law_plain_code vs) H := by
  obtain ⟨v, tv, s, n, base, D, tn, rfl, ht, htn, pl, ok, q⟩ := h
  obtain ⟨cs, nk, hand, ws⟩ := ok.wf
  have hl := ok.len
  cases s with
  | row _ => cases pl
  | ife _ _ _ => cases pl
  | whl _ _ => cases pl
  | tri _ _ => cases pl
  | cln _ _ => cases pl
  | brk =>
    obtain ⟨a, x0, rfl, hT, h0⟩ := ht.tup1
    cases h0.strE
    cases tn with
    | none => exact absurd ws (by simp [Sm.Wf])
    | some t =>
      obtain ⟨c, y0, y1, y2, rfl, hTc, k0, k1, k2⟩ := htn.tup3
      cases k0.intE; cases k1.intE; cases k2.intE
      refine rd_ixT (j := 0) rfl hT rfl ?_
      refine r_ifT (pb_is (pb_eqS rfl) rfl) ?_
      refine rd_ixT (j := 1) rfl hTc rfl (rd_ixT (j := 2) rfl hTc rfl ⟨(by show 3 ≤ sizeLine; decide), fun p hp => ⟨(by show 1 ≤ sizeLine; decide), fun p2 hp2 => ?_⟩⟩)
      exact q p2 _ _ ((Same.new hp).free hp2) upd_same (.cons ((Tp.mk hp (.cons (.str _) (.cons (.int _) (.cons (.int _) .nil)))).mono (Tk.new hp2)) .nil) ((Same.new hp).trans (Same.new hp2))
  | cnt =>
    obtain ⟨a, x0, rfl, hT, h0⟩ := ht.tup1
    cases h0.strE
    cases tn with
    | none => exact absurd ws (by simp [Sm.Wf])
    | some t =>
      obtain ⟨c, y0, y1, y2, rfl, hTc, k0, k1, k2⟩ := htn.tup3
      cases k0.intE; cases k1.intE; cases k2.intE
      refine rd_ixT (j := 0) rfl hT rfl (r_ifF (pb_is (pb_eqS rfl) rfl) (r_ifT (pb_is (pb_eqS rfl) rfl) ?_))
      refine rd_ixT (j := 0) rfl hTc rfl (rd_ixT (j := 2) rfl hTc rfl ⟨(by show 3 ≤ sizeLine; decide), fun p hp => ⟨(by show 1 ≤ sizeLine; decide), fun p2 hp2 => ?_⟩⟩)
      exact q p2 _ _ ((Same.new hp).free hp2) upd_same (.cons ((Tp.mk hp (.cons (.str _) (.cons (.int _) (.cons (.int _) .nil)))).mono (Tk.new hp2)) .nil) ((Same.new hp).trans (Same.new hp2))
  | again =>
    obtain ⟨a, x0, rfl, hT, h0⟩ := id ht.tup1
    cases h0.strE
    refine rd_ixT (j := 0) rfl hT rfl (r_ifF (pb_is (pb_eqS rfl) rfl) (r_ifF (pb_is (pb_eqS rfl) rfl) (r_ifT (pb_is (pb_eqS rfl) rfl) ?_)))
    refine ⟨_, rfl, (by show 1 ≤ sizeLine; decide), fun p hp => ?_⟩
    exact q p _ _ hp upd_same (.cons (ht.mono (Tk.new hp)) .nil) (Same.new hp)
  | set k e =>
    obtain ⟨a, x0, x1, x2, rfl, hT, h0, h1, h2⟩ := ht.tup3
    cases h0.strE; cases h1.intE
    have hl' : e.len + 1 ≤ 100000 := hl
    refine rd_ixT (j := 0) rfl hT rfl (r_ifF (pb_is (pb_eqS rfl) rfl) (r_ifF (pb_is (pb_eqS rfl) rfl) (r_ifF (pb_is (pb_eqS rfl) rfl) (r_ifT (pb_is (pb_eqS rfl) rfl) ?_))))
    refine part_and (e := e) (x := x2) (r := .set k) (fun Q' q' => rd_ixT (j := 2) rfl hT rfl q') h2 ws.2.2 (by omega) (fun H1 Q' s1 k1 => rd_ixT (j := 1) rfl (s1.sqT hT) rfl ⟨(by show 2 ≤ sizeLine; decide), fun p hp => k1 p _ (Same.new hp) (Tp.mk hp (.cons (.str _) (.cons (.int _) .nil)))⟩) ?_
    rw [show e.code.map Rw.d ++ [(Rw.set k).d] = ((Sm.set k e).code base D (tnOf tn)).map Rw.d by simp [Sm.code]]
    exact q
  | rais kd e m =>
    obtain ⟨a, x0, x1, x2, x3, rfl, hT, h0, h1, h2, h3⟩ := ht.tup4
    cases h0.strE; cases h1.intE; cases h3.intE
    have hl' : e.len + 1 ≤ 100000 := hl
    refine rd_ixT (j := 0) rfl hT rfl (r_ifF (pb_is (pb_eqS rfl) rfl) (r_ifF (pb_is (pb_eqS rfl) rfl) (r_ifF (pb_is (pb_eqS rfl) rfl) (r_ifF (pb_is (pb_eqS rfl) rfl) (r_ifT (pb_is (pb_eqS rfl) rfl) ?_)))))
    refine part_and (e := e) (x := x2) (r := .rais kd m) (fun Q' q' => rd_ixT (j := 2) rfl hT rfl q') h2 ws.2.1.2 (by omega) (fun H1 Q' s1 k1 => rd_ixT (j := 1) rfl (s1.sqT hT) rfl (rd_ixT (j := 3) rfl (s1.sqT hT) rfl ⟨(by show 3 ≤ sizeLine; decide), fun p hp => k1 p _ (Same.new hp) (Tp.mk hp (.cons (.str _) (.cons (.int _) (.cons (.int _) .nil))))⟩)) ?_
    rw [show e.code.map Rw.d ++ [(Rw.rais kd m).d] = ((Sm.rais kd e m).code base D (tnOf tn)).map Rw.d by simp [Sm.code]]
    exact q
  | say e =>
    obtain ⟨a, x0, x1, rfl, hT, h0, h1⟩ := ht.tup2
    cases h0.strE
    have hl' : e.len + 1 ≤ 100000 := hl
    refine rd_ixT (j := 0) rfl hT rfl (r_ifF (pb_is (pb_eqS rfl) rfl) (r_ifF (pb_is (pb_eqS rfl) rfl) (r_ifF (pb_is (pb_eqS rfl) rfl) (r_ifF (pb_is (pb_eqS rfl) rfl) (r_ifF (pb_is (pb_eqS rfl) rfl) (r_ifF (pb_is (pb_eqS rfl) rfl) ?_))))))
    refine part_and (e := e) (x := x1) (r := .say) (fun Q' q' => rd_ixT (j := 1) rfl hT rfl q') h1 ws.2 (by omega) (fun H1 Q' s1 k1 => ⟨_, rfl, (by show 1 ≤ sizeLine; decide), fun p hp => k1 p _ (Same.new hp) (Tp.mk hp (.cons (.str _) .nil))⟩) ?_
    rw [show e.code.map Rw.d ++ [Rw.say.d] = ((Sm.say e).code base D (tnOf tn)).map Rw.d by simp [Sm.code]]
    exact q
  | ret e =>
    obtain ⟨a, x0, x1, rfl, hT, h0, h1⟩ := ht.tup2
    cases h0.strE
    have hl' : e.len + 1 ≤ 100000 := hl
    refine rd_ixT (j := 0) rfl hT rfl (r_ifF (pb_is (pb_eqS rfl) rfl) (r_ifF (pb_is (pb_eqS rfl) rfl) (r_ifF (pb_is (pb_eqS rfl) rfl) (r_ifF (pb_is (pb_eqS rfl) rfl) (r_ifF (pb_is (pb_eqS rfl) rfl) (r_ifF (pb_is (pb_eqS rfl) rfl) ?_))))))
    refine part_and (e := e) (x := x1) (r := .ret) (fun Q' q' => rd_ixT (j := 1) rfl hT rfl q') h1 ws.2 (by omega) (fun H1 Q' s1 k1 => ⟨_, rfl, (by show 1 ≤ sizeLine; decide), fun p hp => k1 p _ (Same.new hp) (Tp.mk hp (.cons (.str _) .nil))⟩) ?_
    rw [show e.code.map Rw.d ++ [Rw.ret.d] = ((Sm.ret e).code base D (tnOf tn)).map Rw.d by simp [Sm.code]]
    exact q
  | call k f ps m =>
    obtain ⟨a, x0, x1, x2, x3, x4, rfl, hT, h0, h1, h2, h3, h4⟩ := ht.tup5
    cases h0.strE; cases h1.intE; cases h2.intE; cases h4.intE
    obtain ⟨pa, pxs, rfl, hTp, htp⟩ := h3.tupE
    have hl' : exsLen ps + 2 ≤ 100000 := hl
    obtain ⟨_, _, _, wps, _⟩ := ws
    refine rd_ixT (j := 0) rfl hT rfl (r_ifF (pb_is (pb_eqS rfl) rfl) (r_ifF (pb_is (pb_eqS rfl) rfl) (r_ifF (pb_is (pb_eqS rfl) rfl) (r_ifF (pb_is (pb_eqS rfl) rfl) (r_ifF (pb_is (pb_eqS rfl) rfl) (r_ifT (pb_is (pb_eqS rfl) rfl) ?_))))))
    refine ⟨(by show 0 ≤ sizeLine; decide), fun p hp => ?_⟩
    have s0 : Same H (L2.upd H p (.lst [])) := Same.new hp
    refine rd_ixT (j := 3) rfl (s0.sqT hT) rfl ⟨pa, rfl, ⟨_, s0.sqT hTp⟩, for_tup (K := K) (a := pa) (xs := pxs) (fun i σ H' => ∃ (r : List Ex) (pre : List Rw) (rr : Addr) (rv : List V) (v4 : Option V),
        σ = [some (.ref a), some tv, some (.str "call"), some (.ref rr), v4] ∧ Same H H' ∧ H' rr = some (.lst rv) ∧ TpAll K H' rv (pre.map Rw.d) ∧ TpAll K H' (pxs.drop i) (r.map Ex.d) ∧ (∀ e ∈ r, e.dep ≤ 5) ∧ pre.length + exsLen r = exsLen ps ∧ pre ++ exsCode r = exsCode ps)
      ⟨ps, [], p, [], none, rfl, s0, upd_same, .nil, by rw [List.drop_zero]; exact htp.mono (Tk.same s0), fun e he => (wps e he).2, by simp, by simp⟩ (fun i σ H' _ ⟨_, _, _, _, _, _, s', _⟩ => s'.sqT hTp) ?_ ?_⟩
    · rintro i x σ H3 hx ⟨r, pre, rr, rv, v4, rfl, s3, hrr, trv, tr, dr, lr, er⟩
      obtain ⟨e, r', rfl, tx, tr'⟩ := exs_at tr hx
      have lr2 : pre.length + (e.len + exsLen r') = exsLen ps := lr
      refine ⟨_, rfl, _, rfl, x, e, rfl, tx, by have := dr e List.mem_cons_self; omega, by omega, fun r1 us H4 hr1 hl1 t1 s4 => ?_⟩
      refine cat_new (K := K) (s4 _ _ hrr) hl1 (trv.mono (Tk.same s4)) t1 (by simp [Ex.code_len]; omega) fun r2 us2 H5 hr2 hl2 t2 s5 => ?_
      have sZ := s4.trans s5
      exact ⟨r', pre ++ e.code, r2, us2, _, rfl, s3.trans sZ, hl2, by rw [List.map_append]; exact t2, tr'.mono (Tk.same sZ), fun z hz => dr z (List.mem_cons_of_mem _ hz), by simp [Ex.code_len]; omega, by rw [← er]; simp [exsCode]⟩
    · rintro σ H3 ⟨r, pre, rr, rv, v4, rfl, s3, hrr, trv, tr, dr, lr, er⟩
      cases exs_end tr
      have er' : pre = exsCode ps := by simpa [exsCode] using er
      have lp : pxs.length = ps.length := by have := htp.length; rw [List.length_map] at this; exact this
      refine ⟨_, rfl, rd_ixT (j := 2) rfl (s3.sqT hT) rfl (rd_ixT (j := 3) rfl (s3.sqT hT) rfl ⟨pa, pxs, rfl, .inr (s3.sqT hTp), rd_ixT (j := 4) rfl (s3.sqT hT) rfl ⟨(by show 4 ≤ sizeLine; decide), fun p1 hp1 => ?_⟩⟩)⟩
      have s4 : Same H3 (L2.upd H3 p1 (.tup [.str "call", .int (f : Int), .int (pxs.length : Int), .int m])) := Same.new hp1
      refine rd_ixT (j := 1) rfl ((s3.trans s4).sqT hT) rfl ⟨(by show 2 ≤ sizeLine; decide), fun p2 hp2 => ⟨(by show 2 ≤ sizeLine; decide), fun p3 hp3 => ?_⟩⟩
      have s5 : Same H3 (L2.upd (L2.upd (L2.upd H3 p1 (.tup [.str "call", .int (f : Int), .int (pxs.length : Int), .int m])) p2 (.tup [.str "set", .int (k : Int)])) p3 (.lst [.ref p1, .ref p2])) := (s4.trans (Same.new hp2)).trans (Same.new hp3)
      refine cat_new (K := K) (ds := (exsCode ps).map Rw.d) (es := [(Rw.call f ps.length m).d, (Rw.set k).d]) (s5 _ _ hrr) upd_same (by rw [← er']; exact trv.mono (Tk.same s5)) (.cons ?_ (.cons ?_ .nil)) (by simp [exsCode_len]; omega) ?_
      · rw [← lp]
        exact ((Tp.mk hp1 (.cons (.str _) (.cons (.int _) (.cons (.int _) (.cons (.int _) .nil))))).mono (Tk.new hp2)).mono (Tk.new hp3)
      · exact (Tp.mk hp2 (.cons (.str _) (.cons (.int _) .nil))).mono (Tk.new hp3)
      · rw [show (exsCode ps).map Rw.d ++ [(Rw.call f ps.length m).d, (Rw.set k).d] = ((Sm.call k f ps m).code base D (tnOf tn)).map Rw.d by simp [Sm.code]]
        exact q.mono (s3.trans s5)
abbrev N_law_code : List Str := ["_law_one", "_law_base", "_law_depth", "_law_turn", "_law_word", "_law_rows", "_law_part_here"]
theorem rd_code {n : Nat} (vs : List V) (H : Hp) (Q : VK) (E : XK) (h : spCode (K := K) (n + 1) vs H Q E) : t_law_code K (spCode (K := K) n) (spIfCode (K := K) n) (spLoopCode (K := K) n) (spTryCode (K := K) n) (spCleanCode (K := K) n) (spPlainCode (K := K)) { nx := fun _ H' => Q .non H', rt := Q } (start N_law_code vs) H := by
  obtain ⟨v, tv, s, base, D, tn, rfl, ht, htn, ok, q⟩ := h
  have word : ∀ (a : Addr) (xs : List V) (w : Str), v = .ref a → SqT K H a xs → xs[0]? = some (.str w) → (V.str w ≠ .str "row" ∧ V.str w ≠ .str "if" ∧ V.str w ≠ .str "while" ∧ V.str w ≠ .str "try" ∧ V.str w ≠ .str "clean") → s.plain = true → t_law_code K (spCode (K := K) n) (spIfCode (K := K) n) (spLoopCode (K := K) n) (spTryCode (K := K) n) (spCleanCode (K := K) n) (spPlainCode (K := K)) { nx := fun _ H' => Q .non H', rt := Q } (start N_law_code [v, .int base, .int D, tv]) H := by
    rintro a xs w rfl hT hw ⟨n1, n2, n3, n4, n5⟩ pl
    refine rd_ixT (j := 0) rfl hT hw (r_ifF (pb_is (pb_eqS rfl) (dF n1)) (r_ifF (pb_is (pb_eqS rfl) (dF n2)) (r_ifF (pb_is (pb_eqS rfl) (dF n3)) (r_ifF (pb_is (pb_eqS rfl) (dF n4)) (r_ifF (pb_is (pb_eqS rfl) (dF n5)) ?_)))))
    exact ⟨_, rfl, _, rfl, _, tv, s, n + 1, base, D, tn, rfl, ht, htn, pl, ok, q⟩
  cases s with
  | say e =>
    obtain ⟨a, x0, x1, rfl, hT, h0, h1⟩ := id ht.tup2
    cases h0.strE
    exact word a _ "say" rfl hT rfl (by decide) rfl
  | set k e =>
    obtain ⟨a, x0, x1, x2, rfl, hT, h0, h1, h2⟩ := id ht.tup3
    cases h0.strE
    exact word a _ "set" rfl hT rfl (by decide) rfl
  | brk =>
    obtain ⟨a, x0, rfl, hT, h0⟩ := id ht.tup1
    cases h0.strE
    exact word a _ "break" rfl hT rfl (by decide) rfl
  | cnt =>
    obtain ⟨a, x0, rfl, hT, h0⟩ := id ht.tup1
    cases h0.strE
    exact word a _ "continue" rfl hT rfl (by decide) rfl
  | again =>
    obtain ⟨a, x0, rfl, hT, h0⟩ := id ht.tup1
    cases h0.strE
    exact word a _ "again" rfl hT rfl (by decide) rfl
  | ret e =>
    obtain ⟨a, x0, x1, rfl, hT, h0, h1⟩ := id ht.tup2
    cases h0.strE
    exact word a _ "return" rfl hT rfl (by decide) rfl
  | call k f ps m =>
    obtain ⟨a, x0, x1, x2, x3, x4, rfl, hT, h0, h1, h2, h3, h4⟩ := id ht.tup5
    cases h0.strE
    exact word a _ "call" rfl hT rfl (by decide) rfl
  | rais kd e m =>
    obtain ⟨a, x0, x1, x2, x3, rfl, hT, h0, h1, h2, h3⟩ := id ht.tup4
    cases h0.strE
    exact word a _ "raise" rfl hT rfl (by decide) rfl
  | ife e s t =>
    obtain ⟨a, x0, x1, x2, x3, rfl, hT, h0, h1, h2, h3⟩ := id ht.tup4
    cases h0.strE
    refine rd_ixT (j := 0) rfl hT rfl (r_ifF (pb_is (pb_eqS rfl) rfl) (r_ifT (pb_is (pb_eqS rfl) rfl) ?_))
    exact ⟨_, rfl, _, rfl, _, rfl, _, rfl, _, tv, e, s, t, base, D, tn, rfl, ht, htn, ok, q⟩
  | whl e s =>
    obtain ⟨a, x0, x1, x2, rfl, hT, h0, h1, h2⟩ := id ht.tup3
    cases h0.strE
    refine rd_ixT (j := 0) rfl hT rfl (r_ifF (pb_is (pb_eqS rfl) rfl) (r_ifF (pb_is (pb_eqS rfl) rfl) (r_ifT (pb_is (pb_eqS rfl) rfl) ?_)))
    exact ⟨_, rfl, _, rfl, _, rfl, _, e, s, base, D, tn, rfl, ht, ok, q⟩
  | tri s hs =>
    obtain ⟨a, x0, x1, x2, rfl, hT, h0, h1, h2⟩ := id ht.tup3
    cases h0.strE
    refine rd_ixT (j := 0) rfl hT rfl (r_ifF (pb_is (pb_eqS rfl) rfl) (r_ifF (pb_is (pb_eqS rfl) rfl) (r_ifF (pb_is (pb_eqS rfl) rfl) (r_ifT (pb_is (pb_eqS rfl) rfl) ?_))))
    exact ⟨_, rfl, _, rfl, _, rfl, _, rfl, _, tv, s, hs, base, D, tn, rfl, ht, htn, ok, q⟩
  | cln s c =>
    obtain ⟨a, x0, x1, x2, rfl, hT, h0, h1, h2⟩ := id ht.tup3
    cases h0.strE
    refine rd_ixT (j := 0) rfl hT rfl (r_ifF (pb_is (pb_eqS rfl) rfl) (r_ifF (pb_is (pb_eqS rfl) rfl) (r_ifF (pb_is (pb_eqS rfl) rfl) (r_ifF (pb_is (pb_eqS rfl) rfl) (r_ifT (pb_is (pb_eqS rfl) rfl) ?_)))))
    exact ⟨_, rfl, _, rfl, _, rfl, _, rfl, _, tv, s, c, base, D, tn, rfl, ht, htn, ok, q⟩
  | row ps =>
    obtain ⟨a, x0, x1, rfl, hT, h0, h1⟩ := id ht.tup2
    cases h0.strE
    obtain ⟨pa, pxs, rfl, hTp, htp⟩ := h1.tupE
    obtain ⟨cs, nk, hand, ws⟩ := ok.wf
    have hd : ps.dep + 1 ≤ n + 1 := ok.dep
    have hl : ps.len ≤ 100000 := ok.len
    have b0 := ok.b0
    refine rd_ixT (j := 0) rfl hT rfl (r_ifT (pb_is (pb_eqS rfl) rfl) ⟨(by show 0 ≤ sizeLine; decide), fun p hp => ?_⟩)
    have s0 : Same H (L2.upd H p (.lst [])) := Same.new hp
    refine rd_ixT (j := 1) rfl (s0.sqT hT) rfl ⟨pa, rfl, ⟨_, s0.sqT hTp⟩, for_tup (K := K) (a := pa) (xs := pxs) (fun i σ H' => ∃ (r : Sms) (pre : List Rw) (rr : Addr) (rv : List V) (v6 : Option V),
        σ = [some (.ref a), some (.int base), some (.int D), some tv, some (.str "row"), some (.ref rr), v6] ∧ H rr = none ∧ Same H H' ∧ H' rr = some (.lst rv) ∧ TpAll K H' rv (pre.map Rw.d) ∧ TpAll K H' (pxs.drop i) r.ds ∧ r.Wf cs nk tn.isSome hand ∧ r.dep ≤ n ∧ pre.length + r.len = ps.len ∧ pre ++ r.code (base + pre.length) D (tnOf tn) = ps.code base D (tnOf tn))
      ⟨ps, [], p, [], none, rfl, hp, s0, upd_same, .nil, by rw [List.drop_zero]; exact htp.mono (Tk.same s0), ws, by omega, by simp, by simp⟩ (fun i σ H' _ ⟨_, _, _, _, _, _, _, s', _⟩ => s'.sqT hTp) ?_ ?_⟩
    · rintro i x σ H3 hx ⟨r, pre, rr, rv, v6, rfl, hnn, s3, hrr, trv, tr, wr, dr, lr, er⟩
      obtain ⟨s, r', rfl, tx, tr'⟩ := sms_at tr hx
      obtain ⟨w1, w2⟩ : s.Wf cs nk tn.isSome hand ∧ r'.Wf cs nk tn.isSome hand := wr
      have dr2 : max s.dep r'.dep ≤ n := dr
      have lr2 : pre.length + (s.len + r'.len) = ps.len := lr
      have lrv : rv.length = pre.length := by rw [trv.length, List.length_map]
      refine ⟨_, rfl, _, rfl, _, rfl, _, rfl, rr, rv, rfl, .inl (SqL.of hrr), _, _, rfl, rfl, _, rfl, _, rfl, ?_⟩
      rw [lrv]
      refine ⟨x, tv, s, base + pre.length, D, tn, rfl, tx, htn.mono (Tk.same s3), ⟨⟨cs, nk, hand, w1⟩, by omega, by omega, by omega, ok.tn0⟩, fun r1 us H4 hr1 hl1 t1 s4 => ?_⟩
      refine cat_new (K := K) (s4 _ _ hrr) hl1 (trv.mono (Tk.same s4)) t1 (by simp [Sm.code_len]; omega) fun r2 us2 H5 hr2 hl2 t2 s5 => ?_
      have sZ := s4.trans s5
      refine ⟨r', pre ++ s.code (base + pre.length) D (tnOf tn), r2, us2, _, rfl, (s3.trans s4).free hr2, s3.trans sZ, hl2, by rw [List.map_append]; exact t2, tr'.mono (Tk.same sZ), w2, by omega, by simp [Sm.code_len]; omega, ?_⟩
      rw [← er]
      have e9 : base + ((pre ++ s.code (base + pre.length) D (tnOf tn)).length : Int) = base + pre.length + s.len := by simp [Sm.code_len]; omega
      rw [e9]
      simp [Sms.code]
    · rintro σ H3 ⟨r, pre, rr, rv, v6, rfl, hnn, s3, hrr, trv, tr, wr, dr, lr, er⟩
      cases sms_end tr
      have er' : pre = ps.code base D (tnOf tn) := by simpa [Sms.code] using er
      refine ⟨_, rfl, q rr rv H3 hnn hrr (by rw [show (Sm.row ps).code base D (tnOf tn) = ps.code base D (tnOf tn) from rfl, ← er']; exact trv) s3⟩
/-! ### _law_table, _law_coded -/
/-- a new tuple of these; all stands -/
def NewT (K : PySem.W.Frag) (H : Hp) (Q : VK) (d : PyData) : Prop := ∀ (v : V) (H' : Hp), Tp K H' v d → Same H H' → Q v H'
def spTable : Sp := fun vs H Q _ => ∃ (v : V) (rows : List Rw), vs = [v] ∧ Tp K H v (.tuple (rows.map Rw.d)) ∧ rows.length ≤ 200000 ∧ NewT K H Q (.tuple ((tabAt 0 rows).map Tb.d))
theorem tab_take {rows : List Rw} {i : Nat} {r : Rw} (h : rows[i]? = some r) : tabAt 0 (rows.take (i + 1)) = tabAt 0 (rows.take i) ++ tbOf (i : Int) r := by
  have hi := (List.getElem?_eq_some_iff.mp h).1
  rw [List.take_succ, h]
  show tabAt 0 (rows.take i ++ [r]) = _
  rw [tabAt_app, List.length_take, Nat.min_eq_left (by omega)]
  simp [tabAt]
/-- what a row adds to a table, by its data -/
theorem row_word (r : Rw) : (∃ b x k D, r = .hand b x k D) ∨ (∃ b x D, r = .cup b x D) ∨ ((∀ p, tbOf p r = []) ∧ ∃ w ds, r.d = .tuple (.str w :: ds) ∧ V.str w ≠ .str "handler" ∧ V.str w ≠ .str "cleanup") := by
  cases r with
  | hand b x k D => exact .inl ⟨b, x, k, D, rfl⟩
  | cup b x D => exact .inr (.inl ⟨b, x, D, rfl⟩)
  | op o => exact .inr (.inr ⟨fun _ => rfl, o.s, _, rfl, by cases o <;> decide, by cases o <;> decide⟩)
  | _ => exact .inr (.inr ⟨fun _ => rfl, _, _, rfl, by decide, by decide⟩)
abbrev N_law_table : List Str := ["_law_rows", "_law_table_here", "_law_k", "_law_row"]
theorem rd_table (vs : List V) (H : Hp) (Q : VK) (E : XK) (h : spTable (K := K) vs H Q E) : t_law_table K { nx := fun _ H' => Q .non H', rt := Q } (start N_law_table vs) H := by
  obtain ⟨v, rows, rfl, ht, hz, q⟩ := h
  obtain ⟨a, xs, rfl, hT, hts⟩ := ht.tupE
  have lx : xs.length = rows.length := by rw [hts.length, List.length_map]
  refine ⟨(by show 0 ≤ sizeLine; decide), fun p hp => ?_⟩
  have s0 : Same H (L2.upd H p (.lst [])) := Same.new hp
  refine ⟨_, rfl, a, xs, rfl, .inr (s0.sqT hT), _, rfl, by omega, by omega, for_range (lo := 0) (n := ((xs.length : Int)).toNat) (fun i σ H' => ∃ (tv : List V) (v2 v3 : Option V), σ = [some (.ref a), some (.ref p), v2, v3] ∧ Same H H' ∧ H' p = some (.lst tv) ∧ TpAll K H' tv ((tabAt 0 (rows.take i)).map Tb.d))
    ⟨[], none, none, rfl, s0, upd_same, by simp [tabAt]; exact .nil⟩ ?_ ?_⟩
  · rintro i σ H1 hi ⟨tv, v2, v3, rfl, s1, hp1, tt⟩
    have hi2 : i < rows.length := by omega
    have er : rows[i]? = some rows[i] := List.getElem?_eq_getElem hi2
    have ed : (rows.map Rw.d)[i]? = some (rows[i]).d := by rw [List.getElem?_map, er]; rfl
    obtain ⟨x, hx, tx⟩ := hts.get' ed
    have tx1 := tx.mono (Tk.same s1)
    have e0 : (0 : Int) + (i : Int) = (i : Int) := by omega
    have etk := tab_take er
    have ltv : tv.length < 1000000 := by
      have h1 := tt.length
      rw [List.length_map] at h1
      have h2 := tabAt_len (rows.take i) 0
      rw [List.length_take] at h2
      omega
    rw [e0]
    have fin : ∀ (t : Tb) (ws : List V) (ds : List PyData), tbOf (i : Int) rows[i] = [t] → t.d = .tuple ds → ∀ (H2 : Hp), Same H1 H2 → TpAll K H2 ws ds → ∀ p2, H2 p2 = none → H2 p = some (.lst tv) → ∃ (tv' : List V) (v2 v3 : Option V), [some (V.ref a), some (.ref p), some (.int (i : Int)), some x] = [some (.ref a), some (.ref p), v2, v3] ∧ Same H (L2.upd (L2.upd H2 p2 (.tup ws)) p (.lst (tv ++ [.ref p2]))) ∧
        (L2.upd (L2.upd H2 p2 (.tup ws)) p (.lst (tv ++ [.ref p2]))) p = some (.lst tv') ∧ TpAll K (L2.upd (L2.upd H2 p2 (.tup ws)) p (.lst (tv ++ [.ref p2]))) tv' ((tabAt 0 (rows.take (i + 1))).map Tb.d) := by
      intro t ws ds et ed2 H2 s2 tw p2 hp2 hpp
      have s3 : Same H1 (L2.upd H2 p2 (.tup ws)) := s2.trans (Same.new hp2)
      refine ⟨tv ++ [.ref p2], _, _, rfl, fun b u e => by rw [upd_ne (ne_of_none e hp)]; exact s3 b u (s1 b u e), upd_same, ?_⟩
      rw [etk, et, List.map_append]
      have : Tp K (L2.upd H2 p2 (.tup ws)) (.ref p2) t.d := by rw [ed2]; exact Tp.mk hp2 tw
      exact ((tt.mono (Tk.same s3)).snoc this).mono (Tk.lst (by rw [upd_ne (ne_of_none hpp hp2)]; exact hpp))
    refine ⟨_, rfl, _, rfl, a, xs, _, x, rfl, rfl, s1.sqT hT, atI_nat hx, ?_⟩
    rcases row_word rows[i] with ⟨b, y, k, D, e⟩ | ⟨b, y, D, e⟩ | ⟨enil, w, ds, e, n1, n2⟩
    · rw [e] at tx1
      obtain ⟨ax, y0, y1, y2, y3, y4, rfl, hTx, k0, k1, k2, k3, k4⟩ := tx1.tup5
      cases k0.strE; cases k1.intE; cases k2.intE; cases k4.intE
      refine rd_ixT (j := 0) rfl hTx rfl ⟨rfl, _, rfl, ifT rfl ?_⟩
      refine ⟨_, rfl, .inl ⟨rfl, _, SqL.of hp1⟩, rd_ixT (j := 1) rfl hTx rfl (rd_ixT (j := 2) rfl hTx rfl (rd_ixT (j := 3) rfl hTx rfl ⟨_, rfl, rd_ixT (j := 4) rfl hTx rfl ⟨(by show 6 ≤ sizeLine; decide), fun p2 hp2 => ?_⟩⟩))⟩
      have pp : L2.upd H1 p2 (.tup [.int b, .int y, .str "handler", y3, .int (i : Int), .int D]) p = some (.lst tv) := by rw [upd_ne (ne_of_none hp1 hp2)]; exact hp1
      refine ⟨p, tv, _, rfl, rfl, pp, sz_lt1 ltv, ?_⟩
      obtain ⟨tv', w2, w3, z1, z2, z3, z4⟩ := fin ⟨b, y, some k, i, D⟩ [.int b, .int y, .str "handler", y3, .int (i : Int), .int D] _ (by rw [e]; rfl) rfl H1 (Same.refl _) (.cons (.int _) (.cons (.int _) (.cons (.str _) (.cons k3 (.cons (.int _) (.cons (.int _) .nil)))))) p2 hp2 hp1
      -- the second look: not a cleanup
      refine rd_ixT (j := 0) rfl (Tk.sqT (Tk.trans (Tk.new hp2) (Tk.lst pp)) hTx) rfl ⟨rfl, _, rfl, ifF rfl ?_⟩
      exact ⟨tv', w2, w3, z1, z2, z3, z4⟩
    · rw [e] at tx1
      obtain ⟨ax, y0, y1, y2, y3, rfl, hTx, k0, k1, k2, k3⟩ := tx1.tup4
      cases k0.strE; cases k1.intE; cases k2.intE; cases k3.intE
      refine rd_ixT (j := 0) rfl hTx rfl ⟨rfl, _, rfl, ifF rfl ?_⟩
      refine rd_ixT (j := 0) rfl hTx rfl ⟨rfl, _, rfl, ifT rfl ?_⟩
      refine ⟨_, rfl, .inl ⟨rfl, _, SqL.of hp1⟩, rd_ixT (j := 1) rfl hTx rfl (rd_ixT (j := 2) rfl hTx rfl ⟨_, rfl, rd_ixT (j := 3) rfl hTx rfl ⟨(by show 6 ≤ sizeLine; decide), fun p2 hp2 => ?_⟩⟩)⟩
      have pp : L2.upd H1 p2 (.tup [.int b, .int y, .str "cleanup", .non, .int (i : Int), .int D]) p = some (.lst tv) := by rw [upd_ne (ne_of_none hp1 hp2)]; exact hp1
      refine ⟨p, tv, _, rfl, rfl, pp, sz_lt1 ltv, ?_⟩
      exact fin ⟨b, y, none, i, D⟩ [.int b, .int y, .str "cleanup", .non, .int (i : Int), .int D] _ (by rw [e]; rfl) rfl H1 (Same.refl _) (.cons (.int _) (.cons (.int _) (.cons (.str _) (.cons .non (.cons (.int _) (.cons (.int _) .nil)))))) p2 hp2 hp1
    · rw [e] at tx1
      obtain ⟨ax, ys, rfl, hTx, tys⟩ := tx1.tupE
      obtain ⟨y0, yr, rfl, k0, _⟩ := tys.consE
      cases k0.strE
      refine rd_ixT (j := 0) rfl hTx rfl ⟨rfl, _, rfl, ifF (dF n1) ?_⟩
      refine rd_ixT (j := 0) rfl hTx rfl ⟨rfl, _, rfl, ifF (dF n2) ?_⟩
      exact ⟨tv, _, _, rfl, s1, hp1, by rw [etk, enil, List.append_nil]; exact tt⟩
  · rintro σ H1 ⟨tv, v2, v3, rfl, s1, hp1, tt⟩
    rw [List.take_of_length_le (by omega)] at tt
    refine ⟨_, rfl, p, tv, rfl, .inl ⟨SqL.of hp1, fun p2 hp2 => ?_⟩⟩
    exact q (.ref p2) _ (Tp.mk hp2 tt) (s1.trans (Same.new hp2))
/-- a program that may be coded -/
structure PgC (p : Pg) (n : Nat) : Prop where
  body : ∀ f ∈ p.funs, CodeOk f.2 n none 0
  few : p.funs.length ≤ 1000
def spCodedL (n : Nat) : Sp := fun vs H Q _ => ∃ (v : V) (p : Pg), vs = [v] ∧ Tp K H v p.d ∧ PgC p n ∧ NewT K H Q (codeD p.code)
abbrev N_law_coded : List Str := ["_law_program_here", "_law_code_here", "_law_function", "_law_rows"]
theorem rd_law_coded {n : Nat} (vs : List V) (H : Hp) (Q : VK) (E : XK) (h : spCodedL (K := K) n vs H Q E) : t_law_coded K (spCode (K := K) n) (spTable (K := K)) { nx := fun _ H' => Q .non H', rt := Q } (start N_law_coded vs) H := by
  obtain ⟨v, p, rfl, ht, ok, q⟩ := h
  obtain ⟨a, x0, x1, rfl, hT, h0, h1⟩ := ht.tup2
  obtain ⟨fa, fxs, rfl, hTf, htf⟩ := h1.tupE
  have lx : fxs.length = p.funs.length := by rw [htf.length, List.length_map]
  refine ⟨(by show 0 ≤ sizeLine; decide), fun c hc => ?_⟩
  have s0 : Same H (L2.upd H c (.lst [])) := Same.new hc
  refine rd_ixT (j := 1) rfl (s0.sqT hT) rfl ⟨fa, rfl, ⟨_, s0.sqT hTf⟩, for_tup (K := K) (a := fa) (xs := fxs) (fun i σ H' => ∃ (cv : List V) (v2 v3 : Option V), σ = [some (.ref a), some (.ref c), v2, v3] ∧ Same H H' ∧ H' c = some (.lst cv) ∧ TpAll K H' cv ((p.code.take i).map Fc.d))
    ⟨[], none, none, rfl, s0, upd_same, .nil⟩ (fun i σ H' _ ⟨_, _, _, _, s', _⟩ => s'.sqT hTf) ?_ ?_⟩
  · rintro i x σ H1 hx ⟨cv, v2, v3, rfl, s1, hc1, tc⟩
    obtain ⟨d, hd, td⟩ := htf.get hx
    rw [List.getElem?_map] at hd
    cases ef : p.funs[i]? with
    | none => rw [ef] at hd; cases hd
    | some f =>
      rw [ef] at hd
      obtain rfl : funD f = d := Option.some.inj hd
      obtain ⟨ax, y0, y1, rfl, hTx, k0, k1⟩ := td.tup2
      cases k0.intE
      have okf := ok.body f (List.mem_of_getElem? ef)
      have hlen : f.2.len ≤ 100000 := okf.len
      have ilt : i < 1000 := by
        have := (List.getElem?_eq_some_iff.mp ef).1
        have := ok.few
        omega
      refine rd_ixT (j := 1) rfl (s1.sqT hTx) rfl ⟨y1, .non, f.2, 0, 0, none, rfl, k1.mono (Tk.same s1), .non, okf, fun r us H2 hr hl2 t2 s2 => ⟨(by show 2 ≤ sizeLine; decide), fun p1 hp1 => ⟨(by show 1 ≤ sizeLine; decide), fun p2 hp2 => ⟨(by show 2 ≤ sizeLine; decide), fun p3 hp3 => ?_⟩⟩⟩⟩
      have s3 : Same H2 (L2.upd (L2.upd (L2.upd H2 p1 (.tup [.str "num", .int 0])) p2 (.tup [.str "return"])) p3 (.lst [.ref p1, .ref p2])) := ((Same.new hp1).trans (Same.new hp2)).trans (Same.new hp3)
      refine cat_new (K := K) (es := [(Rw.num 0).d, Rw.ret.d]) (s3 _ _ hl2) upd_same (t2.mono (Tk.same s3)) (.cons (((Tp.mk hp1 (.cons (.str _) (.cons (.int _) .nil))).mono (Tk.new hp2)).mono (Tk.new hp3)) (.cons ((Tp.mk hp2 (.cons (.str _) .nil)).mono (Tk.new hp3)) .nil)) (by simp [Sm.code_len]; omega) fun r4 ws4 H4 hr4 hl4 t4 s4 => ?_
      have s14 := (s2.trans s3).trans s4
      refine ⟨r4, ws4, rfl, .inl ⟨SqL.of hl4, fun p5 hp5 => ?_⟩⟩
      have s5 : Same H1 (L2.upd H4 p5 (.tup ws4)) := s14.trans (Same.new hp5)
      have tR : Tp K (L2.upd H4 p5 (.tup ws4)) (.ref p5) (.tuple ((bodyRows f.2).map Rw.d)) := by
        rw [show (bodyRows f.2).map Rw.d = (f.2.code 0 0 (tnOf none)).map Rw.d ++ [(Rw.num 0).d, Rw.ret.d] by simp [bodyRows, tnOf]]
        exact Tp.mk hp5 t4
      refine ⟨_, rfl, .inl ⟨rfl, _, SqL.of (s5 _ _ hc1)⟩, rd_ixT (j := 0) rfl ((s1.trans s5).sqT hTx) rfl ⟨_, rfl, _, rfl, .ref p5, bodyRows f.2, rfl, tR, by simp [bodyRows, Sm.code_len]; omega, fun w H6 t6 s6 => ⟨(by show 3 ≤ sizeLine; decide), fun p7 hp7 => ?_⟩⟩⟩
      have hc6 := s6 _ _ (s5 _ _ hc1)
      have hc7 : L2.upd H6 p7 (.tup [.int (f.1 : Int), .ref p5, w]) c = some (.lst cv) := by rw [upd_ne (ne_of_none hc6 hp7)]; exact hc6
      have lcv : cv.length < 1000000 := by
        have := tc.length
        rw [List.length_map, List.length_take] at this
        omega
      have sZ : Same H1 (L2.upd H6 p7 (.tup [.int (f.1 : Int), .ref p5, w])) := (s5.trans s6).trans (Same.new hp7)
      refine ⟨c, cv, _, rfl, rfl, hc7, sz_lt1 lcv, cv ++ [.ref p7], _, _, rfl, fun b u e => by rw [upd_ne (ne_of_none e hc)]; exact sZ b u (s1 b u e), upd_same, ?_⟩
      have ec : p.code[i]? = some ⟨f.1, bodyRows f.2⟩ := by unfold Pg.code; rw [List.getElem?_map, ef]; rfl
      rw [List.take_succ, ec, List.map_append]
      exact ((tc.mono (Tk.same sZ)).snoc (Tp.mk hp7 (.cons (.int _) (.cons (tR.mono (Tk.same s6)) (.cons t6 .nil))))).mono (Tk.lst hc7)
  · rintro σ H1 ⟨cv, v2, v3, rfl, s1, hc1, tc⟩
    rw [List.take_of_length_le (by unfold Pg.code; rw [List.length_map]; omega)] at tc
    refine ⟨_, rfl, c, cv, rfl, .inl ⟨SqL.of hc1, fun p2 hp2 => ?_⟩⟩
    exact q (.ref p2) _ (Tp.mk hp2 tc) (s1.trans (Same.new hp2))
end
end Lp

/-! LvL: the readings of look and tried. -/
namespace Lp
open PySem PySem.Spec PyProof.Rows L2
def t_Looker_tried (K : PySem.W.Frag) (C_Looker : Addr) (sp_Looker_kind : Sp) (sp_Looker_look : Sp) (E : XK) : TS :=
  tSeq (tFor (iTup K (tOp (rIxT K) (tVar 1) (tC (.int 2)))) (gName 4) (tDrop (tMeth C_Looker "kind" sp_Looker_kind [] E (tVar 0) (tCons (tOp (rIxT K) (tVar 4) (tC (.int 0))) (tNil))))) (tSeq (tDrop (tMeth C_Looker "look" sp_Looker_look [] E (tVar 0) (tCons (tOp (rIxT K) (tVar 1) (tC (.int 1))) (tCons (tVar 2) (tCons (tVar 3) (tNil)))))) (tFor (iTup K (tOp (rIxT K) (tVar 1) (tC (.int 2)))) (gName 4) (tDrop (tMeth C_Looker "look" sp_Looker_look [] E (tVar 0) (tCons (tOp (rIxT K) (tVar 4) (tC (.int 2))) (tCons (tVar 2) (tCons (tC (.bl true)) (tNil))))))))

def t_Looker_look (K : PySem.W.Frag) (C_Looker : Addr) (sp_Looker_look : Sp) (sp_Looker_tried : Sp) (sp_Looker_call : Sp) (sp_Looker_kind : Sp) (C_Stray : Addr) (E : XK) : TS :=
  tSeq (tAsg (tOp (rIxT K) (tVar 1) (tC (.int 0))) (gName 4)) (tIfS (tTest (tOp rEq (tVar 4) (tC (.str "row")))) (tFor (iTup K (tOp (rIxT K) (tVar 1) (tC (.int 1)))) (gName 5) (tDrop (tMeth C_Looker "look" sp_Looker_look [] E (tVar 0) (tCons (tVar 5) (tCons (tVar 2) (tCons (tVar 3) (tNil))))))) (tIfS (tTest (tOp rEq (tVar 4) (tC (.str "if")))) (tSeq (tDrop (tMeth C_Looker "look" sp_Looker_look [] E (tVar 0) (tCons (tOp (rIxT K) (tVar 1) (tC (.int 2))) (tCons (tVar 2) (tCons (tVar 3) (tNil)))))) (tDrop (tMeth C_Looker "look" sp_Looker_look [] E (tVar 0) (tCons (tOp (rIxT K) (tVar 1) (tC (.int 3))) (tCons (tVar 2) (tCons (tVar 3) (tNil))))))) (tIfS (tTest (tOp rEq (tVar 4) (tC (.str "while")))) (tDrop (tMeth C_Looker "look" sp_Looker_look [] E (tVar 0) (tCons (tOp (rIxT K) (tVar 1) (tC (.int 2))) (tCons (tC (.bl true)) (tCons (tVar 3) (tNil)))))) (tIfS (tTest (tOp rEq (tVar 4) (tC (.str "try")))) (tDrop (tMeth C_Looker "tried" sp_Looker_tried [] E (tVar 0) (tCons (tVar 1) (tCons (tVar 2) (tCons (tVar 3) (tNil)))))) (tIfS (tTest (tOp rEq (tVar 4) (tC (.str "clean")))) (tSeq (tDrop (tMeth C_Looker "look" sp_Looker_look [] E (tVar 0) (tCons (tOp (rIxT K) (tVar 1) (tC (.int 1))) (tCons (tVar 2) (tCons (tVar 3) (tNil)))))) (tDrop (tMeth C_Looker "look" sp_Looker_look [] E (tVar 0) (tCons (tOp (rIxT K) (tVar 1) (tC (.int 2))) (tCons (tVar 2) (tCons (tVar 3) (tNil))))))) (tIfS (tTest (tOp rEq (tVar 4) (tC (.str "call")))) (tDrop (tMeth C_Looker "call" sp_Looker_call [] E (tVar 0) (tCons (tVar 1) (tNil)))) (tIfS (tTest (tOp rEq (tVar 4) (tC (.str "raise")))) (tDrop (tMeth C_Looker "kind" sp_Looker_kind [] E (tVar 0) (tCons (tOp (rIxT K) (tVar 1) (tC (.int 1))) (tNil)))) (tIfS (tAnd (tTest (tOp (rIn K false) (tVar 4) (tTup (tCons (tC (.str "break")) (tCons (tC (.str "continue")) (tNil)))))) (tNot (tB (tVar 2)))) (tRz C_Stray E) (tIfS (tAnd (tTest (tOp rEq (tVar 4) (tC (.str "again")))) (tNot (tB (tVar 3)))) (tRz C_Stray E) (tNext))))))))))

namespace K3
def Wr.c (CS CK CE : Addr) : Wr → Addr
  | .stray => CS
  | .unknown => CK
  | .uneven => CE
section
variable {K : PySem.W.Frag} {C CS CK CE : Addr}
structure LookP (K : PySem.W.Frag) (C CS CK CE : Addr) (n : Nat) (vs : List V) (H : Hp) (Q : VK) (E : XK) : Prop where
  ex : ∃ (lk : Addr) (p : Pg) (v : V) (s : Sm) (turn hand : Bool), vs = [.ref lk, v, .bl turn, .bl hand] ∧ LkSt K C p H lk ∧ Tp K H v s.d ∧ s.dep ≤ n ∧
    (s.wrong p.cs p.kinds.length turn hand = none → ∀ H', Same H H' → Q .non H') ∧ (∀ w, s.wrong p.cs p.kinds.length turn hand = some w → ∀ H', Same H H' → E (.ref (Wr.c CS CK CE w)) none H')
def spLook (K : PySem.W.Frag) (C CS CK CE : Addr) (n : Nat) : Sp := LookP K C CS CK CE n
theorem spLook_zero (vs : List V) (H : Hp) (Q : VK) (E : XK) : ¬ spLook K C CS CK CE 0 vs H Q E := by
  rintro ⟨lk, p, v, s, _, _, _, _, _, h, _⟩
  cases s <;> simp [Sm.dep] at h
/-- the last two tests -/
theorem r_tail {E : XK} {D : Ends} {σ : L2.St} {H : Hp} {w : Str} {turn hand : Bool} (h2 : σ[2]? = some (some (.bl turn))) (h3 : σ[3]? = some (some (.bl hand))) (h4 : σ[4]? = some (some (.str w)))
    (kb : inV (V.str w) [V.str "break", V.str "continue"] = true → turn = false → ∀ H', Same H H' → E (.ref CS) none H') (ka : w = "again" → hand = false → ∀ H', Same H H' → E (.ref CS) none H')
    (kq : (inV (V.str w) [V.str "break", V.str "continue"] = true → turn = true) → (w = "again" → hand = true) → ∀ H', Same H H' → D.nx σ H') :
    tIfS (tAnd (tTest (tOp (rIn K false) (tVar 4) (tTup (tCons (tC (.str "break")) (tCons (tC (.str "continue")) (tNil)))))) (tNot (tB (tVar 2)))) (tRz CS E) (tIfS (tAnd (tTest (tOp rEq (tVar 4) (tC (.str "again")))) (tNot (tB (tVar 3)))) (tRz CS E) (tNext)) D σ H := by
  refine ⟨_, h4, (by show 2 ≤ sizeLine; decide), fun pt ht => ⟨pt, _, rfl, .inr (.inl (.inl upd_same)), rfl, rfl, _, rfl, ?_⟩⟩
  have s1 : Same H (L2.upd H pt (.tup [V.str "break", V.str "continue"])) := Same.new ht
  generalize L2.upd H pt (.tup [V.str "break", V.str "continue"]) = H1 at s1 ⊢
  rw [if_neg (by decide)]
  have rest : (inV (V.str w) [V.str "break", V.str "continue"] = true → turn = true) → tIfS (tAnd (tTest (tOp rEq (tVar 4) (tC (.str "again")))) (tNot (tB (tVar 3)))) (tRz CS E) (tNext) D σ H1 := fun hb => by
    refine r_if (pb_and (pb_eqS h4) (pb_not (pb_var h3))) (fun hu => ?_) (fun hu => ?_)
    · obtain ⟨u1, u2⟩ := Bool.and_eq_true_iff.mp hu
      have u1 := of_decide_eq_true u1
      injection u1 with u1
      refine ka u1 ?_ _ s1
      cases hand with
      | false => rfl
      | true => cases u2
    · refine kq hb (fun e => ?_) _ s1
      rw [e, decide_eq_true rfl] at hu
      cases hand with
      | true => rfl
      | false => cases hu
  cases hi : inV (V.str w) [V.str "break", V.str "continue"] with
  | false => exact ifF rfl (ifF rfl (rest fun h => by rw [hi] at h; cases h))
  | true =>
    refine ifT rfl ⟨_, h2, _, rfl, ?_⟩
    cases turn with
    | false => exact ifT rfl (kb hi rfl _ s1)
    | true => exact ifF rfl (rest fun _ => rfl)
theorem r_meth {m : Str} {sp : Sp} {E : XK} {ta : TA} {D : Ends} {σ : L2.St} {H : Hp} {p : Pg} {lk : Addr} (hs : σ[0]? = some (some (.ref lk))) (r : LkSt K C p H lk) (hm : ∀ kv fv : V, ([("kinds", kv), ("functions", fv)] : List (Str × V)).lookup m = none)
    (q : ta σ H fun vs H2 => sp (.ref lk :: (vs ++ [])) H2 (fun _ H' => D.nx σ H') E) : tDrop (tMeth C m sp [] E (tVar 0) ta) D σ H := by
  obtain ⟨dx, kv, fv, h, _, _⟩ := r.ex
  exact ⟨_, hs, lk, dx, _, rfl, h, hm kv fv, q⟩
/-- a part is looked at, then the rest -/
theorem look_next {n : Nat} {E : XK} {D : Ends} {σ : L2.St} {H : Hp} {p : Pg} {lk : Addr} {v : V} {s : Sm} {turn hand : Bool} {te t2 t3 : TE} (hs : σ[0]? = some (some (.ref lk))) (r : LkSt K C p H lk) (tv : Tp K H v s.d) (hd : s.dep ≤ n)
    (he : ∀ Q : VK, Q v H → te σ H Q) (h2 : ∀ Q : VK, Q (.bl turn) H → t2 σ H Q) (h3 : ∀ Q : VK, Q (.bl hand) H → t3 σ H Q)
    (kn : s.wrong p.cs p.kinds.length turn hand = none → ∀ H', Same H H' → D.nx σ H') (ke : ∀ w, s.wrong p.cs p.kinds.length turn hand = some w → ∀ H', Same H H' → E (.ref (Wr.c CS CK CE w)) none H') :
    tDrop (tMeth C "look" (spLook K C CS CK CE n) [] E (tVar 0) (tCons te (tCons t2 (tCons t3 (tNil))))) D σ H :=
  r_meth hs r (fun _ _ => rfl) (he _ (h2 _ (h3 _ ⟨lk, p, v, s, turn, hand, rfl, r, tv, hd, kn, ke⟩)))
/-- tried: a statement with handlers -/
structure TriP (K : PySem.W.Frag) (C CS CK CE : Addr) (n : Nat) (vs : List V) (H : Hp) (Q : VK) (E : XK) : Prop where
  ex : ∃ (lk : Addr) (p : Pg) (v : V) (s : Sm) (hs : Hds) (turn hand : Bool), vs = [.ref lk, v, .bl turn, .bl hand] ∧ LkSt K C p H lk ∧ Tp K H v (Sm.tri s hs).d ∧ s.dep ≤ n ∧ hs.dep ≤ n ∧
    ((Sm.tri s hs).wrong p.cs p.kinds.length turn hand = none → ∀ H', Same H H' → Q .non H') ∧ (∀ w, (Sm.tri s hs).wrong p.cs p.kinds.length turn hand = some w → ∀ H', Same H H' → E (.ref (Wr.c CS CK CE w)) none H')
def spTri (K : PySem.W.Frag) (C CS CK CE : Addr) (n : Nat) : Sp := TriP K C CS CK CE n
theorem rd_look {n : Nat} (T : LkTxt K C) (vs : List V) (H : Hp) (Q : VK) (E : XK) (hh : spLook K C CS CK CE (n + 1) vs H Q E) : t_Looker_look K C (spLook K C CS CK CE n) (spTri K C CS CK CE n) (spLCall K C CK CE) (spKind K C CK) CS E { nx := fun _ H' => Q .non H', rt := Q } (start ["self", "one", "in_turn", "in_handler", "word", "part"] vs) H := by
  obtain ⟨lk, p, v, s, turn, hand, rfl, r, tv, hd, q, e⟩ := hh.ex
  have skip : ∀ {z x : Str} {A B : TS} {D : Ends} {σ : L2.St}, σ[4]? = some (some (.str z)) → decide (V.str z = V.str x) = false → B D σ H → tIfS (tTest (tOp rEq (tVar 4) (tC (.str x)))) A B D σ H := fun h4 hz hB => r_ifF (pb_is (pb_eqS h4) hz) hB
  have take : ∀ {z : Str} {A B : TS} {D : Ends} {σ : L2.St}, σ[4]? = some (some (.str z)) → A D σ H → tIfS (tTest (tOp rEq (tVar 4) (tC (.str z)))) A B D σ H := fun h4 hA => r_ifT (pb_is (pb_eqS h4) (decide_eq_true rfl)) hA
  cases s with
  | say x =>
    obtain ⟨a, x0, x1, rfl, hT, t0, t1⟩ := (show Tp K H v (.tuple [.str "say", x.d]) from tv).tup2
    cases t0.strE
    refine seq (rd_ixT (j := 0) rfl hT rfl (gn ?_))
    exact skip rfl (by decide) (skip rfl (by decide) (skip rfl (by decide) (skip rfl (by decide) (skip rfl (by decide) (skip rfl (by decide) (skip rfl (by decide) (r_tail (CS := CS) rfl rfl rfl (fun h => absurd h (by decide)) (fun h => absurd h (by decide)) fun _ _ => q rfl)))))))
  | set k x =>
    obtain ⟨a, x0, x1, x2, rfl, hT, t0, t1, t2⟩ := (show Tp K H v (.tuple [.str "set", .int (k : Int), x.d]) from tv).tup3
    cases t0.strE
    refine seq (rd_ixT (j := 0) rfl hT rfl (gn ?_))
    exact skip rfl (by decide) (skip rfl (by decide) (skip rfl (by decide) (skip rfl (by decide) (skip rfl (by decide) (skip rfl (by decide) (skip rfl (by decide) ((r_tail (CS := CS) rfl rfl rfl (fun h => absurd h (by decide)) (fun h => absurd h (by decide)) fun _ _ => q rfl))))))))
  | ret x =>
    obtain ⟨a, x0, x1, rfl, hT, t0, t1⟩ := (show Tp K H v (.tuple [.str "return", x.d]) from tv).tup2
    cases t0.strE
    refine seq (rd_ixT (j := 0) rfl hT rfl (gn ?_))
    exact skip rfl (by decide) (skip rfl (by decide) (skip rfl (by decide) (skip rfl (by decide) (skip rfl (by decide) (skip rfl (by decide) (skip rfl (by decide) ((r_tail (CS := CS) rfl rfl rfl (fun h => absurd h (by decide)) (fun h => absurd h (by decide)) fun _ _ => q rfl))))))))
  | brk =>
    obtain ⟨a, x0, rfl, hT, t0⟩ := (show Tp K H v (.tuple [.str "break"]) from tv).tup1
    cases t0.strE
    refine seq (rd_ixT (j := 0) rfl hT rfl (gn ?_))
    exact skip rfl (by decide) (skip rfl (by decide) (skip rfl (by decide) (skip rfl (by decide) (skip rfl (by decide) (skip rfl (by decide) (skip rfl (by decide) ((r_tail (CS := CS) rfl rfl rfl (fun _ ht => e .stray (by show (if turn = true then none else some Wr.stray) = _; rw [ht]; rfl)) (fun h => absurd h (by decide)) fun hb _ => q (by show (if turn = true then none else some Wr.stray) = _; rw [hb (by decide)]; rfl)))))))))
  | cnt =>
    obtain ⟨a, x0, rfl, hT, t0⟩ := (show Tp K H v (.tuple [.str "continue"]) from tv).tup1
    cases t0.strE
    refine seq (rd_ixT (j := 0) rfl hT rfl (gn ?_))
    exact skip rfl (by decide) (skip rfl (by decide) (skip rfl (by decide) (skip rfl (by decide) (skip rfl (by decide) (skip rfl (by decide) (skip rfl (by decide) ((r_tail (CS := CS) rfl rfl rfl (fun _ ht => e .stray (by show (if turn = true then none else some Wr.stray) = _; rw [ht]; rfl)) (fun h => absurd h (by decide)) fun hb _ => q (by show (if turn = true then none else some Wr.stray) = _; rw [hb (by decide)]; rfl)))))))))
  | again =>
    obtain ⟨a, x0, rfl, hT, t0⟩ := (show Tp K H v (.tuple [.str "again"]) from tv).tup1
    cases t0.strE
    refine seq (rd_ixT (j := 0) rfl hT rfl (gn ?_))
    exact skip rfl (by decide) (skip rfl (by decide) (skip rfl (by decide) (skip rfl (by decide) (skip rfl (by decide) (skip rfl (by decide) (skip rfl (by decide) ((r_tail (CS := CS) rfl rfl rfl (fun h => absurd h (by decide)) (fun _ ht => e .stray (by show (if hand = true then none else some Wr.stray) = _; rw [ht]; rfl)) fun _ ha => q (by show (if hand = true then none else some Wr.stray) = _; rw [ha rfl]; rfl)))))))))
  | ife x s t =>
    obtain ⟨a, x0, x1, x2, x3, rfl, hT, t0, t1, t2, t3⟩ := (show Tp K H v (.tuple [.str "if", x.d, s.d, t.d]) from tv).tup4
    cases t0.strE
    have hd : max s.dep t.dep + 1 ≤ n + 1 := hd
    refine seq (rd_ixT (j := 0) rfl hT rfl (gn ?_))
    refine skip rfl (by decide) (take rfl (seq (look_next rfl r t2 (by omega) (fun Q' q' => rd_ixT (j := 2) rfl hT rfl q') (fun Q' q' => ⟨_, rfl, q'⟩) (fun Q' q' => ⟨_, rfl, q'⟩) (fun h1 H1 s1 => ?_) (fun w h1 => e w (by show (s.wrong _ _ _ _).or _ = _; rw [h1]; rfl)))))
    refine look_next rfl (r.same s1) (t3.mono (Tk.same s1)) (by omega) (fun Q' q' => rd_ixT (j := 3) rfl (s1.sqT hT) rfl q') (fun Q' q' => ⟨_, rfl, q'⟩) (fun Q' q' => ⟨_, rfl, q'⟩) (fun h2 H2 s2 => q (by show (s.wrong _ _ _ _).or _ = _; rw [h1, h2]; rfl) _ (s1.trans s2)) (fun w h2 H2 s2 => e w (by show (s.wrong _ _ _ _).or _ = _; rw [h1, h2]; rfl) _ (s1.trans s2))
  | cln s t =>
    obtain ⟨a, x0, x1, x2, rfl, hT, t0, t1, t2⟩ := (show Tp K H v (.tuple [.str "clean", s.d, t.d]) from tv).tup3
    cases t0.strE
    have hd : max s.dep t.dep + 1 ≤ n + 1 := hd
    refine seq (rd_ixT (j := 0) rfl hT rfl (gn ?_))
    refine skip rfl (by decide) (skip rfl (by decide) (skip rfl (by decide) (skip rfl (by decide) (take rfl (seq (look_next rfl r t1 (by omega) (fun Q' q' => rd_ixT (j := 1) rfl hT rfl q') (fun Q' q' => ⟨_, rfl, q'⟩) (fun Q' q' => ⟨_, rfl, q'⟩) (fun h1 H1 s1 => ?_) (fun w h1 => e w (by show (s.wrong _ _ _ _).or _ = _; rw [h1]; rfl))))))))
    refine look_next rfl (r.same s1) (t2.mono (Tk.same s1)) (by omega) (fun Q' q' => rd_ixT (j := 2) rfl (s1.sqT hT) rfl q') (fun Q' q' => ⟨_, rfl, q'⟩) (fun Q' q' => ⟨_, rfl, q'⟩) (fun h2 H2 s2 => q (by show (s.wrong _ _ _ _).or _ = _; rw [h1, h2]; rfl) _ (s1.trans s2)) (fun w h2 H2 s2 => e w (by show (s.wrong _ _ _ _).or _ = _; rw [h1, h2]; rfl) _ (s1.trans s2))
  | whl x s =>
    obtain ⟨a, x0, x1, x2, rfl, hT, t0, t1, t2⟩ := (show Tp K H v (.tuple [.str "while", x.d, s.d]) from tv).tup3
    cases t0.strE
    have hd : s.dep + 1 ≤ n + 1 := hd
    refine seq (rd_ixT (j := 0) rfl hT rfl (gn ?_))
    exact skip rfl (by decide) (skip rfl (by decide) (take rfl (look_next (turn := true) rfl r t2 (by omega) (fun Q' q' => rd_ixT (j := 2) rfl hT rfl q') (fun Q' q' => q') (fun Q' q' => ⟨_, rfl, q'⟩) q e)))
  | tri s hs =>
    obtain ⟨a, x0, x1, x2, rfl, hT, t0, t1, t2⟩ := (show Tp K H v (.tuple [.str "try", s.d, .tuple hs.ds]) from tv).tup3
    cases t0.strE
    have hd : max s.dep hs.dep + 1 ≤ n + 1 := hd
    refine seq (rd_ixT (j := 0) rfl hT rfl (gn ?_))
    exact skip rfl (by decide) (skip rfl (by decide) (skip rfl (by decide) (take rfl (r_meth rfl r (fun _ _ => rfl) ⟨_, rfl, _, rfl, _, rfl, ⟨lk, p, _, s, hs, turn, hand, rfl, r, tv, by omega, by omega, q, e⟩⟩))))
  | call k f ps m =>
    obtain ⟨a, x0, x1, x2, x3, x4, rfl, hT, t0, t1, t2, t3, t4⟩ := (show Tp K H v (.tuple [.str "call", .int (k : Int), .int (f : Int), .tuple (ps.map Ex.d), .int m]) from tv).tup5
    cases t0.strE
    refine seq (rd_ixT (j := 0) rfl hT rfl (gn ?_))
    refine skip rfl (by decide) (skip rfl (by decide) (skip rfl (by decide) (skip rfl (by decide) (skip rfl (by decide) (take rfl (r_meth rfl r (fun _ _ => rfl) ⟨_, rfl, ⟨lk, p, _, k, f, ps, m, rfl, r, tv, fun n' h1 h2 => ?_, fun n' h1 h2 => ?_, fun h1 => ?_⟩⟩))))))
    · exact q (by show (match p.cs[f]? with | none => some Wr.unknown | some n => if ps.length = n then none else some Wr.uneven) = none; rw [h1]; exact if_pos h2) H (Same.refl _)
    · exact e .uneven (by show (match p.cs[f]? with | none => some Wr.unknown | some n => if ps.length = n then none else some Wr.uneven) = _; rw [h1]; exact if_neg h2) H (Same.refl _)
    · exact e .unknown (by show (match p.cs[f]? with | none => some Wr.unknown | some n => if ps.length = n then none else some Wr.uneven) = _; rw [h1]) H (Same.refl _)
  | rais kd x m =>
    obtain ⟨a, x0, x1, x2, x3, rfl, hT, t0, t1, t2, t3⟩ := (show Tp K H v (.tuple [.str "raise", .int (kd : Int), x.d, .int m]) from tv).tup4
    cases t0.strE; cases t1.intE
    refine seq (rd_ixT (j := 0) rfl hT rfl (gn ?_))
    refine skip rfl (by decide) (skip rfl (by decide) (skip rfl (by decide) (skip rfl (by decide) (skip rfl (by decide) (skip rfl (by decide) (take rfl (r_meth rfl r (fun _ _ => rfl) (rd_ixT (j := 1) rfl hT rfl ⟨lk, p, some kd, rfl, r, fun h1 => ?_, fun j h1 h2 => ?_⟩))))))))
    · exact q (by show (if p.kinds.length ≤ kd then some Wr.unknown else none) = none; rw [if_neg]; have := h1 kd rfl; omega) H (Same.refl _)
    · injection h1 with h1
      exact e .unknown (by show (if p.kinds.length ≤ kd then some Wr.unknown else none) = _; rw [if_pos]; omega) H (Same.refl _)
  | row ps =>
    obtain ⟨a, x0, x1, rfl, hT, t0, t1⟩ := (show Tp K H v (.tuple [.str "row", .tuple ps.ds]) from tv).tup2
    cases t0.strE
    have hd : ps.dep + 1 ≤ n + 1 := hd
    obtain ⟨ra, xs, rfl, hR, tps⟩ := t1.tupE
    refine seq (rd_ixT (j := 0) rfl hT rfl (gn ?_))
    refine take rfl ?_
    refine ⟨_, rfl, a, _, ((1 : Nat) : Int), _, rfl, rfl, hT, atI_nat rfl, ra, rfl, ⟨_, hR⟩, for_tup (K := K) (a := ra) (xs := xs) (fun i σ' H' => ∃ (v5 : Option V) (rest : Sms), σ' = [some (V.ref lk), some (.ref a), some (.bl turn), some (.bl hand), some (.str "row"), v5] ∧ Same H H' ∧ TpAll K H' (xs.drop i) rest.ds ∧ rest.dep ≤ n ∧ rest.wrong p.cs p.kinds.length turn hand = ps.wrong p.cs p.kinds.length turn hand)
      ⟨_, ps, rfl, Same.refl _, by simpa using tps, by omega, rfl⟩ (fun i σ' H' _ ⟨_, _, _, s', _⟩ => s'.sqT hR) ?_ ?_⟩
    · rintro i x σ' H1 hx ⟨v5, rest, rfl, s1, tt, dd, ww⟩
      refine gn ?_
      obtain ⟨s, r', rfl, ts, tr'⟩ := sms_at tt hx
      have dd : max s.dep r'.dep ≤ n := dd
      refine look_next rfl (r.same s1) ts (by omega) (fun Q' q' => ⟨_, rfl, q'⟩) (fun Q' q' => ⟨_, rfl, q'⟩) (fun Q' q' => ⟨_, rfl, q'⟩) (fun h1 H2 s2 => ⟨_, r', rfl, s1.trans s2, tr'.mono (Tk.same s2), by omega, ?_⟩) (fun w h1 H2 s2 => e w ?_ _ (s1.trans s2))
      · rw [← ww]
        show _ = (s.wrong _ _ _ _).or _
        rw [h1]; rfl
      · show ps.wrong _ _ _ _ = _
        rw [← ww]
        show (s.wrong _ _ _ _).or _ = _
        rw [h1]; rfl
    · rintro σ' H1 ⟨v5, rest, rfl, s1, tt, dd, ww⟩
      cases sms_end tt
      exact q (show ps.wrong _ _ _ _ = none by rw [← ww]; rfl) _ s1
/-! ### tried -/
theorem rd_tried {n : Nat} (T : LkTxt K C) (vs : List V) (H : Hp) (Q : VK) (E : XK) (hh : spTri K C CS CK CE n vs H Q E) : t_Looker_tried K C (spKind K C CK) (spLook K C CS CK CE n) E { nx := fun _ H' => Q .non H', rt := Q } (start ["self", "one", "in_turn", "in_handler", "handler"] vs) H := by
  obtain ⟨lk, p, v, s, hs, turn, hand, rfl, r, tv, hd1, hd2, q, e⟩ := hh.ex
  obtain ⟨a, x0, x1, x2, rfl, hT, t0, t1, t2⟩ := (show Tp K H v (.tuple [.str "try", s.d, .tuple hs.ds]) from tv).tup3
  obtain ⟨ra, xs, rfl, hR, tps⟩ := t2.tupE
  refine seq ?_
  refine ⟨_, rfl, a, _, ((2 : Nat) : Int), _, rfl, rfl, hT, atI_nat rfl, ra, rfl, ⟨_, hR⟩, for_tup (K := K) (a := ra) (xs := xs) (fun i σ' H' => ∃ (v4 : Option V) (rest : Hds), σ' = [some (V.ref lk), some (.ref a), some (.bl turn), some (.bl hand), v4] ∧ H' = H ∧ TpAll K H (xs.drop i) rest.ds ∧ rest.bad p.kinds.length = hs.bad p.kinds.length)
    ⟨_, hs, rfl, rfl, by simpa using tps, rfl⟩ (fun i σ' H' _ ⟨_, _, _, e', _⟩ => by rw [e']; exact hR) ?_ ?_⟩
  · rintro i x σ' H1 hx ⟨v4, rest, rfl, rfl, tt, bb⟩
    refine gn ?_
    obtain ⟨k, sl, t, r', rfl, th, tr'⟩ := hds_at tt hx
    obtain ⟨ha, y0, y1, y2, rfl, hH, g0, g1, g2⟩ := th.tup3
    have ey : y0 = kindV k := by
      cases k with
      | none => exact g0.nonE
      | some j => exact g0.intE
    subst ey
    refine r_meth rfl r (fun _ _ => rfl) (rd_ixT (j := 0) rfl hH rfl ⟨lk, p, k, rfl, r, fun h1 => ⟨_, r', rfl, rfl, tr', ?_⟩, fun j h1 h2 => ?_⟩)
    · rw [← bb]
      cases k with
      | none => rfl
      | some j =>
        have := h1 j rfl
        show _ = (decide (p.kinds.length ≤ j) || r'.bad p.kinds.length)
        rw [show decide (p.kinds.length ≤ j) = false from decide_eq_false (by omega)]; rfl
    · refine e .unknown ?_ _ (Same.refl _)
      show (if hs.bad p.kinds.length = true then some Wr.unknown else _) = _
      rw [if_pos]
      rw [← bb, h1]
      show (decide (p.kinds.length ≤ j) || _) = true
      rw [decide_eq_true h2]; rfl
  · rintro σ' H1 ⟨v4, rest, rfl, rfl, tt, bb⟩
    cases hds_end tt
    have hb : hs.bad p.kinds.length = false := bb.symm
    have ew : (Sm.tri s hs).wrong p.cs p.kinds.length turn hand = (s.wrong p.cs p.kinds.length turn hand).or (hs.wrong p.cs p.kinds.length turn) := by
      show (if hs.bad p.kinds.length = true then some Wr.unknown else _) = _
      rw [if_neg (by rw [hb]; decide)]
    rw [ew] at q e
    dsimp only
    refine seq (look_next rfl r t1 hd1 (fun Q' q' => rd_ixT (j := 1) rfl hT rfl q') (fun Q' q' => ⟨_, rfl, q'⟩) (fun Q' q' => ⟨_, rfl, q'⟩) (fun h1 H2 s2 => ?_) (fun w h1 => e w (by rw [h1]; rfl)))
    rw [h1, Option.none_or] at q e
    refine ⟨_, rfl, a, _, ((2 : Nat) : Int), _, rfl, rfl, s2.sqT hT, atI_nat rfl, ra, rfl, ⟨_, s2.sqT hR⟩, for_tup (K := K) (a := ra) (xs := xs) (fun i σ' H' => ∃ (v4 : Option V) (rest : Hds), σ' = [some (V.ref lk), some (.ref a), some (.bl turn), some (.bl hand), v4] ∧ Same H1 H' ∧ TpAll K H' (xs.drop i) rest.ds ∧ rest.dep ≤ n ∧ rest.wrong p.cs p.kinds.length turn = hs.wrong p.cs p.kinds.length turn)
      ⟨_, hs, rfl, s2, by simpa using tps.mono (Tk.same s2), hd2, rfl⟩ (fun i σ' H' _ ⟨_, _, _, s', _⟩ => s'.sqT hR) ?_ ?_⟩
    · rintro i x σ' H3 hx ⟨v4, rest, rfl, s3, tt, dd, ww⟩
      refine gn ?_
      obtain ⟨k, sl, t, r', rfl, th, tr'⟩ := hds_at tt hx
      obtain ⟨ha, y0, y1, y2, rfl, hH, g0, g1, g2⟩ := th.tup3
      have dd : max t.dep r'.dep ≤ n := dd
      refine look_next (hand := true) rfl (r.same s3) g2 (by omega) (fun Q' q' => rd_ixT (j := 2) rfl hH rfl q') (fun Q' q' => ⟨_, rfl, q'⟩) (fun Q' q' => q') (fun h2 H4 s4 => ⟨_, r', rfl, s3.trans s4, tr'.mono (Tk.same s4), by omega, ?_⟩) (fun w h2 H4 s4 => e w ?_ _ (s3.trans s4))
      · rw [← ww]
        show _ = (t.wrong _ _ _ _).or _
        rw [h2]; rfl
      · rw [← ww]
        show (t.wrong _ _ _ _).or _ = _
        rw [h2]; rfl
    · rintro σ' H3 ⟨v4, rest, rfl, s3, tt, dd, ww⟩
      cases hds_end tt
      exact q (by rw [← ww]; rfl) _ s3
end
end K3
end Lp

/-! LvN: looked. -/
namespace Lp
open PySem PySem.Spec PyProof.Rows L2
def t_Looker_init (K : PySem.W.Frag) : TS :=
  tSeq (sFld K (tVar 0) (tOp (rIxT K) (tVar 1) (tC (.int 0))) "kinds") (sFld K (tVar 0) (tOp (rIxT K) (tVar 1) (tC (.int 1))) "functions")

def t_looked (K : PySem.W.Frag) (C_Looker : Addr) (sp_Looker_init : Sp) (sp_Looker_look : Sp) (E : XK) : TS :=
  tSeq (tAsg (tMake C_Looker sp_Looker_init [] E0 (tCons (tVar 0) (tNil))) (gName 1)) (tSeq (tFor (iTup K (tOp (rIxT K) (tVar 0) (tC (.int 1)))) (gName 2) (tDrop (tMeth C_Looker "look" sp_Looker_look [] E (tVar 1) (tCons (tOp (rIxT K) (tVar 2) (tC (.int 1))) (tCons (tC (.bl false)) (tCons (tC (.bl false)) (tNil))))))) (tRet (tCB (rLenQ K) (tCons (tOp (rIxT K) (tVar 0) (tC (.int 1))) (tNil)))))

namespace K3
section
variable {K : PySem.W.Frag} {C CS CK CE : Addr}
structure LInitP (K : PySem.W.Frag) (C : Addr) (vs : List V) (H : Hp) (Q : VK) : Prop where
  ex : ∃ (c dx : Addr) (pgv : V) (p : Pg), vs = [.ref c, pgv] ∧ H c = some (.ins C dx []) ∧ Tp K H pgv p.d ∧ ∀ H', LkSt K C p H' c → Kp (fun x => x = c) H H' → Q .non H'
def spLInit (K : PySem.W.Frag) (C : Addr) : Sp := fun vs H Q _ => LInitP K C vs H Q
theorem rd_linit (T : LkTxt K C) (vs : List V) (H : Hp) (Q : VK) (E : XK) (hh : spLInit K C vs H Q E) : t_Looker_init K { nx := fun _ H' => Q .non H', rt := Q } (start ["self", "program"] vs) H := by
  obtain ⟨c, dx, pgv, p, rfl, hc, tp, q⟩ := hh.ex
  obtain ⟨a, kv, fv, rfl, hT, tk_, tf_⟩ := Tp.tup2 (show Tp K H pgv (.tuple [.tuple (p.kinds.map kindD), .tuple (p.funs.map funD)]) from tp)
  refine seq (rd_ixT (j := 0) rfl hT rfl ⟨_, rfl, c, C, dx, _, rfl, hc, T.cl, T.kinds, (by show 0 < 1000; decide), ?_⟩)
  have kp1 : Kp (fun x => x = c) H (L2.upd H c (.ins C dx (putF "kinds" kv []))) := Kp.upd rfl
  have tk1 : Tk H (L2.upd H c (.ins C dx (putF "kinds" kv []))) := Tk.ins hc
  have c1 : L2.upd H c (.ins C dx (putF "kinds" kv [])) c = some (.ins C dx [("kinds", kv)]) := upd_same
  generalize L2.upd H c (.ins C dx (putF "kinds" kv [])) = H1 at kp1 tk1 c1 ⊢
  refine rd_ixT (j := 1) rfl (tk1.sqT hT) rfl ⟨_, rfl, c, C, dx, _, rfl, c1, T.cl, T.functions, (by show 1 < 1000; decide), ?_⟩
  have kp2 : Kp (fun x => x = c) H (L2.upd H1 c (.ins C dx (putF "functions" fv [("kinds", kv)]))) := kp1.trans (Kp.upd rfl)
  have tk2 : Tk H (L2.upd H1 c (.ins C dx (putF "functions" fv [("kinds", kv)]))) := tk1.trans (Tk.ins c1)
  have c2 : L2.upd H1 c (.ins C dx (putF "functions" fv [("kinds", kv)])) c = some (.ins C dx [("kinds", kv), ("functions", fv)]) := upd_same
  exact q _ ⟨dx, kv, fv, c2, tk_.mono tk2, tf_.mono tk2⟩ kp2
structure LookedP (K : PySem.W.Frag) (CS CK CE : Addr) (n : Nat) (vs : List V) (H : Hp) (Q : VK) (E : XK) : Prop where
  ex : ∃ (pgv : V) (p : Pg), vs = [pgv] ∧ Tp K H pgv p.d ∧ (∀ f ∈ p.funs, f.2.dep ≤ n) ∧ (p.wrong = none → ∀ H', Same H H' → Q (.int (p.funs.length : Nat)) H') ∧ (∀ w, p.wrong = some w → ∀ H', Same H H' → E (.ref (Wr.c CS CK CE w)) none H')
def spLooked (K : PySem.W.Frag) (CS CK CE : Addr) (n : Nat) : Sp := LookedP K CS CK CE n
theorem rd_looked {n : Nat} (T : LkTxt K C) (vs : List V) (H : Hp) (Q : VK) (E : XK) (hh : spLooked K CS CK CE n vs H Q E) : t_looked K C (spLInit K C) (spLook K C CS CK CE n) E { nx := fun _ H' => Q .non H', rt := Q } (start ["program", "looker", "function"] vs) H := by
  obtain ⟨pgv, p, rfl, tp, hd, q, e⟩ := hh.ex
  obtain ⟨a, kv, fv, rfl, hT, tk_, tf_⟩ := Tp.tup2 (show Tp K H pgv (.tuple [.tuple (p.kinds.map kindD), .tuple (p.funs.map funD)]) from tp)
  obtain ⟨fa, xs, rfl, hF, tfs⟩ := tf_.tupE
  have lfs : xs.length = p.funs.length := by rw [tfs.length, List.length_map]
  refine seq ⟨_, rfl, fun c dx hc hdx dxr => ?_⟩
  have s0 : Same H (L2.upd (L2.upd H dx (.own c)) c (.ins C dx [])) := fun b o e => by rw [upd_ne (ne_of_none e hc), upd_ne (ne_of_none e hdx)]; exact e
  refine ⟨c, dx, _, p, rfl, upd_same, tp.mono (Tk.same s0), fun H2 r k2 => ⟨rfl, gn ?_⟩⟩
  dsimp only
  have s2 : Same H H2 := fun b o e => k2 _ _ (s0 _ _ e) (ne_of_none e hc)
  refine seq ⟨_, rfl, a, _, ((1 : Nat) : Int), _, rfl, rfl, s2.sqT hT, atI_nat rfl, fa, rfl, ⟨_, s2.sqT hF⟩, for_tup (K := K) (a := fa) (xs := xs) (fun i σ' H' => ∃ v2 : Option V, σ' = [some (V.ref a), some (.ref c), v2] ∧ Same H2 H' ∧ (p.funs.drop i).foldr (fun f r => (f.2.wrong p.cs p.kinds.length false false).or r) none = p.wrong)
    ⟨_, rfl, Same.refl _, rfl⟩ (fun i σ' H' _ ⟨_, _, s', _⟩ => (s2.trans s').sqT hF) ?_ ?_⟩
  · rintro i x σ' H3 hx ⟨v2, rfl, s3, ww⟩
    refine gn ?_
    have hi : i < p.funs.length := by have := (List.getElem?_eq_some_iff.mp hx).1; omega
    obtain ⟨d, hdd, td⟩ := tfs.get hx
    rw [List.getElem?_map, List.getElem?_eq_getElem hi] at hdd
    have hdd : some (funD p.funs[i]) = some d := hdd
    injection hdd with hdd
    subst hdd
    rw [List.drop_eq_getElem_cons hi, List.foldr_cons] at ww
    have dep := hd _ (List.getElem_mem hi)
    generalize p.funs[i] = f at td ww dep
    obtain ⟨ga, y0, y1, rfl, hG, g0, g1⟩ := (show Tp K H x (.tuple [.int (f.1 : Int), f.2.d]) from td).tup2
    have s23 := s2.trans s3
    obtain ⟨dx', kv', fv', hI, _, _⟩ := (r.same s3).ex
    refine ⟨_, rfl, c, dx', _, rfl, hI, rfl, rd_ixT (j := 1) rfl (s23.sqT hG) rfl ⟨c, p, y1, f.2, false, false, rfl, r.same s3, g1.mono (Tk.same s23), dep, fun h1 H4 s4 => ⟨_, rfl, s3.trans s4, ?_⟩, fun w h1 H4 s4 => e w ?_ _ (s23.trans s4)⟩⟩
    · rw [h1, Option.none_or] at ww
      exact ww
    · rw [h1] at ww
      exact ww.symm
  · rintro σ' H3 ⟨v2, rfl, s3, ww⟩
    rw [List.drop_of_length_le (by omega)] at ww
    have s23 := s2.trans s3
    refine rd_ixT (j := 1) rfl (s23.sqT hT) rfl ⟨fa, xs, rfl, .inr (s23.sqT hF), ?_⟩
    rw [lfs]
    exact q ww.symm _ s23
end
end K3
end Lp

/-! LvR: the law's refusal. -/
namespace Lp
open PySem PySem.Spec PyProof.Rows L2
def t_law_refusal (K : PySem.W.Frag) (C_LeapError : Addr) (sp_looked : Sp) (C_Stray : Addr) (C_Unknown : Addr) (C_Uneven : Addr) (C_Unread : Addr) : TS :=
  tTryAs K C_LeapError 1 (fun W => tRet (tCallS sp_looked (WE W) (tCons (tVar 0) (tNil)))) (fun a cls d => tSeq (tAsg (tLst (tCons (tCB (rIsEx K a cls d) (tCons (tVar 1) (tCons (tC (.ref C_Stray)) (tNil)))) (tCons (tCB (rIsEx K a cls d) (tCons (tVar 1) (tCons (tC (.ref C_Unknown)) (tNil)))) (tCons (tCB (rIsEx K a cls d) (tCons (tVar 1) (tCons (tC (.ref C_Uneven)) (tNil)))) (tCons (tCB (rIsEx K a cls d) (tCons (tVar 1) (tCons (tC (.ref C_Unread)) (tNil)))) (tNil)))))) (gName 2)) (tSeq (tIfS (tOr (tNot (tB (tCB (rIsEx K a cls d) (tCons (tVar 1) (tCons (tC (.ty "ValueError")) (tNil)))))) (tTest (tOp rNe (tBM K "list" (rCntV K) (tVar 2) (tCons (tC (.bl true)) (tNil))) (tC (.int 1))))) (tRet (tC (.str "other"))) (tNext)) (tRet (tOp (rIxL K) (tLst (tCons (tC (.str "stray")) (tCons (tC (.str "unknown")) (tCons (tC (.str "uneven")) (tCons (tC (.str "unread")) (tNil)))))) (tBM K "list" (rIndex K) (tVar 2) (tCons (tC (.bl true)) (tNil)))))))

namespace K3
/-- what the classes are to one another -/
structure Ref3 (K : PySem.W.Frag) (CL CS CK CE CU : Addr) : Prop where
  exl : ∀ w, PySem.W.exmOne K (.ref (Wr.c CS CK CE w)) (.ref CL) = some true
  ec : ∀ w, ExcC K (Wr.c CS CK CE w)
  s : ∀ w, PySem.W.kitOne K (.ref (Wr.c CS CK CE w)) (.ref CS) = some (decide (w = .stray))
  k : ∀ w, PySem.W.kitOne K (.ref (Wr.c CS CK CE w)) (.ref CK) = some (decide (w = .unknown))
  e : ∀ w, PySem.W.kitOne K (.ref (Wr.c CS CK CE w)) (.ref CE) = some (decide (w = .uneven))
  u : ∀ w, PySem.W.kitOne K (.ref (Wr.c CS CK CE w)) (.ref CU) = some false
  v : ∀ w, PySem.W.kitOne K (.ref (Wr.c CS CK CE w)) (.type "ValueError") = some true
section
variable {K : PySem.W.Frag} {CL CS CK CE CU : Addr}
structure RefuP (K : PySem.W.Frag) (n : Nat) (vs : List V) (H : Hp) (Q : VK) : Prop where
  ex : ∃ (pgv : V) (p : Pg), vs = [pgv] ∧ Tp K H pgv p.d ∧ (∀ f ∈ p.funs, f.2.dep ≤ n) ∧ (p.wrong = none → ∀ H', Same H H' → Q (.int (p.funs.length : Nat)) H') ∧ (∀ w, p.wrong = some w → ∀ H', Same H H' → Q (.str w.s) H')
def spRefu (K : PySem.W.Frag) (n : Nat) : Sp := fun vs H Q _ => RefuP K n vs H Q
theorem rd_law_refusal {n : Nat} (T : Ref3 K CL CS CK CE CU) (vs : List V) (H : Hp) (Q : VK) (E : XK) (hh : spRefu K n vs H Q E) : t_law_refusal K CL (spLooked K CS CK CE n) CS CK CE CU { nx := fun _ H' => Q .non H', rt := Q } (start ["_law_program_here", "e", "_law_kinds_here"] vs) H := by
  obtain ⟨pgv, p, rfl, tp, hd, q, e⟩ := hh.ex
  refine ⟨_, rfl, ⟨pgv, p, rfl, tp, hd, fun h H' s => q h H' s, fun w hw H1 s1 => ?_⟩⟩
  refine ⟨true, T.exl w, fun _ a ha => ?_, fun h => by cases h⟩
  have e := e w hw
  have i1 : ∀ (σ : L2.St) (H' : Hp) (c : Addr) (b : Bool) (Q' : VK), σ[1]? = some (some (V.ref a)) → PySem.W.kitOne K (.ref (Wr.c CS CK CE w)) (.ref c) = some b → Q' (.bl b) H' → tCB (rIsEx K a (.ref (Wr.c CS CK CE w)) none) (tCons (tVar 1) (tCons (tC (.ref c)) (tNil))) σ H' Q' := fun σ H' c b Q' h1 h2 q' => ⟨_, h1, _, rfl, rfl, T.ec w, rIsE_ref h2 q'⟩
  have i2 : ∀ (σ : L2.St) (H' : Hp) (Q' : VK), σ[1]? = some (some (V.ref a)) → Q' (.bl true) H' → tCB (rIsEx K a (.ref (Wr.c CS CK CE w)) none) (tCons (tVar 1) (tCons (tC (.ty "ValueError")) (tNil))) σ H' Q' := fun σ H' Q' h1 q' => ⟨_, h1, _, rfl, rfl, T.ec w, rIsE_ty (T.v w) q'⟩
  show tSeq _ _ _ [some pgv, some (.ref a), none] _
  refine seq (i1 _ _ _ _ _ rfl (T.s w) (i1 _ _ _ _ _ rfl (T.k w) (i1 _ _ _ _ _ rfl (T.e w) (i1 _ _ _ _ _ rfl (T.u w) ⟨(by show 4 ≤ sizeLine; decide), fun pl hl => gn ?_⟩))))
  dsimp only
  have s2 : Same H (L2.upd H1 pl (.lst [.bl (decide (w = .stray)), .bl (decide (w = .unknown)), .bl (decide (w = .uneven)), .bl false])) := s1.trans (Same.new hl)
  have hp : L2.upd H1 pl (.lst [.bl (decide (w = .stray)), .bl (decide (w = .unknown)), .bl (decide (w = .uneven)), .bl false]) pl = some (.lst [.bl (decide (w = .stray)), .bl (decide (w = .unknown)), .bl (decide (w = .uneven)), .bl false]) := upd_same
  generalize L2.upd H1 pl (.lst [.bl (decide (w = .stray)), .bl (decide (w = .unknown)), .bl (decide (w = .uneven)), .bl false]) = H2 at s2 hp ⊢
  show tSeq _ _ _ [some pgv, some (.ref a), some (.ref pl)] _
  have pV : PB (tNot (tB (tCB (rIsEx K a (.ref (Wr.c CS CK CE w)) none) (tCons (tVar 1) (tCons (tC (.ty "ValueError")) (tNil)))))) [some pgv, some (.ref a), some (.ref pl)] H2 false := fun Q' q' => i2 _ _ _ rfl ⟨_, rfl, q'⟩
  have pC : PB (tTest (tOp rNe (tBM K "list" (rCntV K) (tVar 2) (tCons (tC (.bl true)) (tNil))) (tC (.int 1)))) [some pgv, some (.ref a), some (.ref pl)] H2 false := fun Q' q' => by
    refine ⟨_, rfl, .inl ⟨rfl, _, SqL.of hp⟩, pl, _, .bl true, rfl, rfl, SqL.of hp, rfl, rfl, rfl, _, rfl, ?_⟩
    cases w <;> exact q'
  refine seq (r_ifF (pb_is (pb_or pV pC) rfl) ?_)
  dsimp only [tNext]
  refine ⟨(by show 4 ≤ sizeLine; decide), fun ps hs => ?_⟩
  have hp3 : L2.upd H2 ps (.lst [V.str "stray", V.str "unknown", V.str "uneven", V.str "unread"]) pl = some (.lst [.bl (decide (w = .stray)), .bl (decide (w = .unknown)), .bl (decide (w = .uneven)), .bl false]) := by rw [upd_ne (ne_of_none hp hs)]; exact hp
  have hs3 : L2.upd H2 ps (.lst [V.str "stray", V.str "unknown", V.str "uneven", V.str "unread"]) ps = some (.lst [V.str "stray", V.str "unknown", V.str "uneven", V.str "unread"]) := upd_same
  have s3 := s2.trans (Same.new (o := .lst [V.str "stray", V.str "unknown", V.str "uneven", V.str "unread"]) hs)
  generalize L2.upd H2 ps (.lst [V.str "stray", V.str "unknown", V.str "uneven", V.str "unread"]) = H3 at hp3 hs3 s3 ⊢
  have fin : ∀ j : Nat, ([V.bl (decide (w = .stray)), .bl (decide (w = .unknown)), .bl (decide (w = .uneven)), .bl false] : List V)[j]? = some (.bl true) → (∀ (m : Nat) (z : V), m < j → ([V.bl (decide (w = .stray)), .bl (decide (w = .unknown)), .bl (decide (w = .uneven)), .bl false] : List V)[m]? = some z → eqV z (.bl true) = false) → ([V.str "stray", V.str "unknown", V.str "uneven", V.str "unread"] : List V)[j]? = some (.str w.s) →
      tOp (rIxL K) (fun _ H' Q' => Q' (.ref ps) H') (tBM K "list" (rIndex K) (tVar 2) (tCons (tC (.bl true)) (tNil))) [some pgv, some (.ref a), some (.ref pl)] H3 Q := fun j h1 h2 h3 =>
    ⟨_, rfl, .inl ⟨rfl, _, SqL.of hp3⟩, pl, _, .bl true, j, .bl true, rfl, rfl, SqL.of hp3, rfl, rfl, h1, rfl, h2, ps, _, _, _, rfl, rfl, SqL.of hs3, atI_nat h3, e _ s3⟩
  cases w with
  | stray => exact fin 0 rfl (fun m z hm => absurd hm (Nat.not_lt_zero _)) rfl
  | unknown =>
    refine fin 1 rfl (fun m z hm hz => ?_) rfl
    obtain rfl : m = 0 := by omega
    injection hz with hz
    rw [← hz]; rfl
  | uneven =>
    refine fin 2 rfl (fun m z hm hz => ?_) rfl
    rcases (by omega : m = 0 ∨ m = 1) with rfl | rfl <;> (injection hz with hz; rw [← hz]; rfl)
end
end K3
end Lp

/-! LvT: the law's own look at a program: the first that is not empty. -/
namespace Lp
open PySem PySem.Spec PyProof.Rows L2
def t_law_first (K : PySem.W.Frag) : TS :=
  tSeq (tFor (iList K (tVar 0)) (gName 1) (tIfS (tTest (tOp rNe (tVar 1) (tC (.str "")))) (tRet (tVar 1)) (tNext))) (tRet (tC (.str "")))

namespace K3
section
variable {K : PySem.W.Frag}
structure FirstP (K : PySem.W.Frag) (vs : List V) (H : Hp) (Q : VK) : Prop where
  ex : ∃ (a : Addr) (ss : List Str), vs = [.ref a] ∧ SqL K H a (ss.map V.str) ∧ Q (.str (firstS ss)) H
def spFirst (K : PySem.W.Frag) : Sp := fun vs H Q _ => FirstP K vs H Q
theorem rd_law_first (vs : List V) (H : Hp) (Q : VK) (E : XK) (hh : spFirst K vs H Q E) : t_law_first K { nx := fun _ H' => Q .non H', rt := Q } (start ["_law_rows", "_law_word"] vs) H := by
  obtain ⟨a, ss, rfl, hS, q⟩ := hh.ex
  refine seq ⟨_, rfl, a, rfl, ⟨_, hS⟩, for_list (K := K) (a := a) (xs := ss.map V.str) (fun i σ' H' => ∃ v1 : Option V, σ' = [some (V.ref a), v1] ∧ H' = H ∧ firstS (ss.drop i) = firstS ss) ⟨_, rfl, rfl, rfl⟩ (fun i σ' H' _ ⟨_, _, e', _⟩ => by rw [e']; exact hS) ?_ ?_⟩
  · rintro i x σ' H1 hx ⟨v1, rfl, rfl, ff⟩
    refine gn ?_
    rw [List.getElem?_map] at hx
    cases el : ss[i]? with
    | none => rw [el] at hx; cases hx
    | some s =>
      rw [el] at hx
      obtain rfl : V.str s = x := Option.some.inj hx
      obtain ⟨hi, ei⟩ := List.getElem?_eq_some_iff.mp el
      rw [List.drop_eq_getElem_cons hi, ei] at ff
      have ff : (if s = "" then firstS (ss.drop (i + 1)) else s) = firstS ss := ff
      refine r_if (pb_neS rfl) (fun hu => ?_) (fun hu => ?_)
      · have hs : ¬ s = "" := fun h => by rw [h, decide_eq_true rfl] at hu; cases hu
        rw [if_neg hs] at ff
        refine ⟨_, rfl, ?_⟩
        show Q (V.str s) _
        rw [ff]; exact q
      · have hs : s = "" := by
          refine Decidable.byContradiction fun h => ?_
          have : decide (V.str s = V.str "") = false := decide_eq_false fun z => by injection z with z; exact h z
          rw [this] at hu; cases hu
        rw [if_pos hs] at ff
        exact ⟨_, rfl, rfl, ff⟩
  · rintro σ' H1 ⟨v1, rfl, rfl, ff⟩
    rw [List.length_map, List.drop_length] at ff
    show Q (V.str "") _
    have : firstS ss = "" := ff.symm
    rw [this] at q
    exact q
end
end K3
end Lp

/-! LvU: the law's own look at a program: _law_wrong. -/
namespace Lp
open PySem PySem.Spec PyProof.Rows L2
def t_law_wrong (K : PySem.W.Frag) (sp_law_first : Sp) (sp_law_wrong : Sp) : TS :=
  tSeq (tAsg (tOp (rIxT K) (tVar 0) (tC (.int 0))) (gName 4)) (tSeq (tIfS (tTest (tOp (rIn K false) (tVar 4) (tTup (tCons (tC (.str "break")) (tCons (tC (.str "continue")) (tNil)))))) (tRet (tOp (rIxL K) (tLst (tCons (tC (.str "stray")) (tCons (tC (.str "")) (tNil)))) (tCB rInt1 (tCons (tVar 2) (tNil))))) (tNext)) (tSeq (tIfS (tTest (tOp rEq (tVar 4) (tC (.str "again")))) (tRet (tOp (rIxL K) (tLst (tCons (tC (.str "stray")) (tCons (tC (.str "")) (tNil)))) (tCB rInt1 (tCons (tVar 3) (tNil))))) (tNext)) (tSeq (tIfS (tTest (tOp rEq (tVar 4) (tC (.str "raise")))) (tRet (tOp (rIxL K) (tLst (tCons (tC (.str "")) (tCons (tC (.str "unknown")) (tNil)))) (tCB rInt1 (tCons (tOp rGe (tOp (rIxT K) (tVar 0) (tC (.int 1))) (tOp (rIxL K) (tVar 1) (tC (.int 1)))) (tNil))))) (tNext)) (tSeq (tIfS (tTest (tOp rEq (tVar 4) (tC (.str "call")))) (tSeq (tIfS (tTest (tOp rGe (tOp (rIxT K) (tVar 0) (tC (.int 2))) (tCB (rLenQ K) (tCons (tOp (rIxL K) (tVar 1) (tC (.int 0))) (tNil))))) (tRet (tC (.str "unknown"))) (tNext)) (tRet (tOp (rIxL K) (tLst (tCons (tC (.str "")) (tCons (tC (.str "uneven")) (tNil)))) (tCB rInt1 (tCons (tOp rNe (tCB (rLenQ K) (tCons (tOp (rIxT K) (tVar 0) (tC (.int 3))) (tNil))) (tOp (rIxL K) (tOp (rIxL K) (tVar 1) (tC (.int 0))) (tOp (rIxT K) (tVar 0) (tC (.int 2))))) (tNil)))))) (tNext)) (tSeq (tIfS (tTest (tOp rEq (tVar 4) (tC (.str "row")))) (tRet (tCall sp_law_first [] E0 (tCons (tLc (iTup K (tOp (rIxT K) (tVar 0) (tC (.int 1)))) (gName 5) (tYes) (tCall sp_law_wrong [] E0 (tCons (tVar 5) (tCons (tVar 1) (tCons (tVar 2) (tCons (tVar 3) (tNil)))))) [5]) (tNil)))) (tNext)) (tSeq (tIfS (tOr (tTest (tOp rEq (tVar 4) (tC (.str "if")))) (tTest (tOp rEq (tVar 4) (tC (.str "clean"))))) (tSeq (tAsg (tCB (rLstOf K) (tCons (tSl (rSlA K) (tVar 0) (tPart (tOp rSbI (tCB (rLenQ K) (tCons (tVar 0) (tNil))) (tC (.int 2)))) tNoPart) (tNil))) (gName 6)) (tRet (tCall sp_law_first [] E0 (tCons (tLc (iList K (tVar 6)) (gName 5) (tYes) (tCall sp_law_wrong [] E0 (tCons (tVar 5) (tCons (tVar 1) (tCons (tVar 2) (tCons (tVar 3) (tNil)))))) [5]) (tNil))))) (tNext)) (tSeq (tIfS (tTest (tOp rEq (tVar 4) (tC (.str "while")))) (tRet (tCall sp_law_wrong [] E0 (tCons (tOp (rIxT K) (tVar 0) (tC (.int 2))) (tCons (tVar 1) (tCons (tC (.bl true)) (tCons (tVar 3) (tNil))))))) (tNext)) (tSeq (tIfS (tTest (tOp rEq (tVar 4) (tC (.str "try")))) (tSeq (tIfS (tTest (tOp (rNeE K) (tLc (iTup K (tOp (rIxT K) (tVar 0) (tC (.int 2)))) (gName 5) (tAnd (tTest (tOp rNtN (tOp (rIxT K) (tVar 5) (tC (.int 0))) (tC .non))) (tTest (tOp rGe (tOp (rIxT K) (tVar 5) (tC (.int 0))) (tOp (rIxL K) (tVar 1) (tC (.int 1)))))) (tVar 5) [5]) (tLst (tNil)))) (tRet (tC (.str "unknown"))) (tNext)) (tSeq (tAsg (tLst (tCons (tCall sp_law_wrong [] E0 (tCons (tOp (rIxT K) (tVar 0) (tC (.int 1))) (tCons (tVar 1) (tCons (tVar 2) (tCons (tVar 3) (tNil)))))) (tNil))) (gName 7)) (tRet (tCall sp_law_first [] E0 (tCons (tOp rCat (tVar 7) (tLc (iTup K (tOp (rIxT K) (tVar 0) (tC (.int 2)))) (gName 5) (tYes) (tCall sp_law_wrong [] E0 (tCons (tOp (rIxT K) (tVar 5) (tC (.int 2))) (tCons (tVar 1) (tCons (tVar 2) (tCons (tC (.bl true)) (tNil)))))) [5])) (tNil)))))) (tNext)) (tRet (tC (.str "")))))))))))

mutual
/-- how many statements -/
def Sm.siz : Sm → Nat
  | .row ps => ps.siz + 1
  | .ife _ s t => s.siz + t.siz + 1
  | .whl _ s => s.siz + 1
  | .tri s hs => s.siz + hs.siz + 1
  | .cln s c => s.siz + c.siz + 1
  | _ => 1
def Sms.siz : Sms → Nat
  | .nil => 0
  | .cons s r => s.siz + r.siz
def Hds.siz : Hds → Nat
  | .nil => 0
  | .cons _ _ t r => t.siz + r.siz
end
theorem Sm.siz_pos (s : Sm) : 1 ≤ s.siz := by cases s <;> simp [Sm.siz]
mutual
theorem Sm.siz_le : ∀ s : Sm, s.siz ≤ s.wgt + 1
  | .say e => by show 1 ≤ e.len + 1 + 1; omega
  | .set _ e => by show 1 ≤ e.len + 1 + 1; omega
  | .row ps => by have := Sms.siz_le ps; show ps.siz + 1 ≤ ps.wgt + 1; omega
  | .ife e s t => by
    have := Sm.siz_le s; have := Sm.siz_le t
    show s.siz + t.siz + 1 ≤ e.len + 1 + s.wgt + 1 + t.wgt + 1; omega
  | .whl e s => by
    have := Sm.siz_le s
    show s.siz + 1 ≤ e.len + 2 + s.wgt + 1 + 1; omega
  | .brk => by show 1 ≤ 1 + 1; omega
  | .cnt => by show 1 ≤ 1 + 1; omega
  | .ret e => by show 1 ≤ e.len + 1 + 1; omega
  | .call _ _ ps _ => by show 1 ≤ exsLen ps + 2 + 1; omega
  | .rais _ e _ => by show 1 ≤ e.len + 1 + 1; omega
  | .again => by show 1 ≤ 1 + 1; omega
  | .tri s hs => by
    have := Sm.siz_le s; have := Hds.siz_le hs
    show s.siz + hs.siz + 1 ≤ s.wgt + 1 + hs.wgt + 1; omega
  | .cln s c => by
    have := Sm.siz_le s; have := Sm.siz_le c
    show s.siz + c.siz + 1 ≤ s.wgt + c.wgt + 28 + 1; omega
theorem Sms.siz_le : ∀ ps : Sms, ps.siz ≤ ps.wgt
  | .nil => Nat.le_refl _
  | .cons s r => by
    have := Sm.siz_le s; have := Sms.siz_le r
    show s.siz + r.siz ≤ s.wgt + 1 + r.wgt; omega
theorem Hds.siz_le : ∀ hs : Hds, hs.siz ≤ hs.wgt
  | .nil => Nat.le_refl _
  | .cons _ _ t r => by
    have := Sm.siz_le t; have := Hds.siz_le r
    show t.siz + r.siz ≤ t.wgt + 4 + r.wgt; omega
end
namespace K3
def toL : Sms → List Sm
  | .nil => []
  | .cons s r => s :: toL r
def toH : Hds → List (Option Nat × Nat × Sm)
  | .nil => []
  | .cons k x t r => (k, x, t) :: toH r
theorem toL_ds : ∀ ps : Sms, ps.ds = (toL ps).map Sm.d
  | .nil => rfl
  | .cons s r => by show s.d :: r.ds = s.d :: (toL r).map Sm.d; rw [toL_ds r]
theorem toH_ds : ∀ hs : Hds, hs.ds = (toH hs).map hdD
  | .nil => rfl
  | .cons k x t r => by show hdD (k, x, t) :: r.ds = hdD (k, x, t) :: (toH r).map hdD; rw [toH_ds r]
theorem toL_len : ∀ ps : Sms, (toL ps).length ≤ ps.siz ∧ ∀ s ∈ toL ps, s.dep ≤ ps.dep ∧ s.siz ≤ ps.siz
  | .nil => ⟨Nat.le_refl _, fun s h => by cases h⟩
  | .cons s r => by
    obtain ⟨h1, h2⟩ := toL_len r
    have := s.siz_pos
    refine ⟨by show (toL r).length + 1 ≤ s.siz + r.siz; omega, fun x hx => ?_⟩
    show x.dep ≤ max s.dep r.dep ∧ x.siz ≤ s.siz + r.siz
    rcases List.mem_cons.mp hx with rfl | hx
    · omega
    · have := h2 x hx; omega
theorem toH_len : ∀ hs : Hds, (toH hs).length ≤ hs.siz ∧ ∀ h ∈ toH hs, h.2.2.dep ≤ hs.dep ∧ h.2.2.siz ≤ hs.siz
  | .nil => ⟨Nat.le_refl _, fun s h => by cases h⟩
  | .cons k x t r => by
    obtain ⟨h1, h2⟩ := toH_len r
    have := t.siz_pos
    refine ⟨by show (toH r).length + 1 ≤ t.siz + r.siz; omega, fun y hy => ?_⟩
    show y.2.2.dep ≤ max t.dep r.dep ∧ y.2.2.siz ≤ t.siz + r.siz
    rcases List.mem_cons.mp hy with rfl | hy
    · show t.dep ≤ max t.dep r.dep ∧ t.siz ≤ t.siz + r.siz
      omega
    · have := h2 y hy; omega
theorem toL_wrong {cs : List Nat} {nk : Nat} {turn hand : Bool} : ∀ ps : Sms, ps.wrong cs nk turn hand = (toL ps).foldr (fun x r => (x.wrong cs nk turn hand).or r) none
  | .nil => rfl
  | .cons s r => by show (s.wrong cs nk turn hand).or (r.wrong cs nk turn hand) = (s.wrong cs nk turn hand).or _; rw [toL_wrong r]
theorem toH_wrong {cs : List Nat} {nk : Nat} {turn : Bool} : ∀ hs : Hds, hs.wrong cs nk turn = (toH hs).foldr (fun x r => (x.2.2.wrong cs nk turn true).or r) none
  | .nil => rfl
  | .cons k x t r => by show (t.wrong cs nk turn true).or (r.wrong cs nk turn) = (t.wrong cs nk turn true).or _; rw [toH_wrong r]
def badK (nk : Nat) (k : Option Nat) : Bool := match k with | some j => decide (nk ≤ j) | none => false
theorem toH_bad {nk : Nat} : ∀ hs : Hds, hs.bad nk = (toH hs).any fun h => badK nk h.1
  | .nil => rfl
  | .cons k x t r => by
    show (badK nk k || r.bad nk) = (badK nk k || (toH r).any fun h => badK nk h.1)
    rw [toH_bad r]
theorem firstS_or {a b : Option Wr} {r : List Str} (h : firstS r = wrS b) : firstS (wrS a :: r) = wrS (a.or b) := by
  show (if wrS a = "" then firstS r else wrS a) = _
  cases a with
  | none => rw [if_pos (show wrS none = ("" : Str) from rfl), h]; rfl
  | some w => rw [if_neg (show wrS (some w) ≠ ("" : Str) from wrS_ne)]; rfl
theorem firstS_two {a b : Option Wr} : firstS [wrS a, wrS b] = wrS (a.or b) := firstS_or (by rw [firstS_or (b := none) rfl, Option.or_none])
theorem cut_from {xs : List V} {k : Nat} (h : k ≤ xs.length) : cutV xs (some (k : Int)) none = xs.drop k := by
  unfold cutV
  have e1 : HT.sIx xs.length 0 (some (k : Int)) = k := by rw [HT.sIx_nat]; omega
  have e2 : HT.sIx xs.length xs.length none = xs.length := rfl
  rw [e1, e2]
  exact List.take_of_length_le (by rw [List.length_drop]; omega)
end K3
namespace K3
section
variable {K : PySem.W.Frag}
/-- the shape: the functions' counts, how many kinds -/
structure Shp (H : Hp) (sh : Addr) (cs : List Nat) (nk : Nat) : Prop where
  ex : ∃ c, H sh = some (.lst [.ref c, .int (nk : Int)]) ∧ H c = some (.lst (cs.map fun n : Nat => V.int (n : Int)))
theorem Shp.same {H H' : Hp} {sh : Addr} {cs : List Nat} {nk : Nat} (r : Shp H sh cs nk) (s : Same H H') : Shp H' sh cs nk := by
  obtain ⟨c, h1, h2⟩ := r.ex
  exact ⟨c, s _ _ h1, s _ _ h2⟩
structure WrongP (K : PySem.W.Frag) (n : Nat) (vs : List V) (H : Hp) (Q : VK) : Prop where
  ex : ∃ (v : V) (sh : Addr) (s : Sm) (cs : List Nat) (nk : Nat) (turn hand : Bool), vs = [v, .ref sh, .bl turn, .bl hand] ∧ Tp K H v s.d ∧ s.dep ≤ n ∧ s.siz ≤ 3000 ∧ Shp H sh cs nk ∧ ∀ H', Same H H' → Q (.str (wrS (s.wrong cs nk turn hand))) H'
def spWrong (K : PySem.W.Frag) (n : Nat) : Sp := fun vs H Q _ => WrongP K n vs H Q
theorem spWrong_zero (vs : List V) (H : Hp) (Q : VK) (E : XK) : ¬ spWrong K 0 vs H Q E := by
  rintro ⟨v, sh, s, cs, nk, _, _, _, _, h, _⟩
  cases s <;> simp [Sm.dep] at h
/-- [x, y][int(c)] -/
theorem pick2 {σ : L2.St} {H : Hp} {x y : Str} {c : Bool} {te : TE} {Q : VK} (ht : ∀ (H' : Hp) (Q' : VK), Same H H' → Q' (.bl c) H' → te σ H' Q') (q : ∀ H', Same H H' → Q (.str (if c = true then y else x)) H') :
    tOp (rIxL K) (tLst (tCons (tC (.str x)) (tCons (tC (.str y)) (tNil)))) (tCB rInt1 (tCons te (tNil))) σ H Q := by
  refine ⟨(by show 2 ≤ sizeLine; decide), fun p hp => ht _ _ (Same.new hp) (.inr ⟨c, rfl, ?_⟩)⟩
  have hl : L2.upd H p (.lst [V.str x, V.str y]) p = some (.lst [V.str x, V.str y]) := upd_same
  cases c with
  | true => exact ⟨p, _, ((1 : Nat) : Int), V.str y, rfl, rfl, SqL.of hl, atI_nat rfl, q _ (Same.new hp)⟩
  | false => exact ⟨p, _, ((0 : Nat) : Int), V.str x, rfl, rfl, SqL.of hl, atI_nat rfl, q _ (Same.new hp)⟩
theorem wr_in {D : Ends} {σ : L2.St} {H : Hp} {w : Str} {A : TS} (h4 : σ[4]? = some (some (.str w))) (qa : inV (V.str w) [V.str "break", V.str "continue"] = true → ∀ H', Same H H' → A D σ H') (qb : inV (V.str w) [V.str "break", V.str "continue"] = false → ∀ H', Same H H' → D.nx σ H') :
    tIfS (tTest (tOp (rIn K false) (tVar 4) (tTup (tCons (tC (.str "break")) (tCons (tC (.str "continue")) (tNil)))))) A (tNext) D σ H := by
  refine ⟨_, h4, (by show 2 ≤ sizeLine; decide), fun pt ht => ⟨pt, _, rfl, .inr (.inl (.inl upd_same)), rfl, rfl, _, rfl, ?_⟩⟩
  rw [if_neg (by decide)]
  exact ifB (fun h => qa h _ (Same.new ht)) (fun h => qb h _ (Same.new ht))
theorem sk {z x : Str} {A rest : TS} {D : Ends} {σ : L2.St} {H : Hp} (h4 : σ[4]? = some (some (.str z))) (hz : decide (V.str z = V.str x) = false) (hB : rest D σ H) : tSeq (tIfS (tTest (tOp rEq (tVar 4) (tC (.str x)))) A (tNext)) rest D σ H := seq (r_ifF (pb_is (pb_eqS h4) hz) hB)
theorem tk {z : Str} {A rest : TS} {D : Ends} {σ : L2.St} {H : Hp} (h4 : σ[4]? = some (some (.str z))) (hA : A { D with nx := rest D } σ H) : tSeq (tIfS (tTest (tOp rEq (tVar 4) (tC (.str z)))) A (tNext)) rest D σ H := seq (r_ifT (pb_is (pb_eqS h4) (decide_eq_true rfl)) hA)
theorem sk2 {z x y : Str} {A rest : TS} {D : Ends} {σ : L2.St} {H : Hp} (h4 : σ[4]? = some (some (.str z))) (hz : decide (V.str z = V.str x) = false) (hy : decide (V.str z = V.str y) = false) (hB : rest D σ H) : tSeq (tIfS (tOr (tTest (tOp rEq (tVar 4) (tC (.str x)))) (tTest (tOp rEq (tVar 4) (tC (.str y))))) A (tNext)) rest D σ H :=
  seq (r_ifF (pb_is (pb_or (pb_eqS h4) (pb_eqS h4)) (by rw [hz, hy]; rfl)) hB)
theorem tk2 {z x y : Str} {A rest : TS} {D : Ends} {σ : L2.St} {H : Hp} (h4 : σ[4]? = some (some (.str z))) (hz : (decide (V.str z = V.str x) || decide (V.str z = V.str y)) = true) (hA : A { D with nx := rest D } σ H) : tSeq (tIfS (tOr (tTest (tOp rEq (tVar 4) (tC (.str x)))) (tTest (tOp rEq (tVar 4) (tC (.str y))))) A (tNext)) rest D σ H :=
  seq (r_ifT (pb_is (pb_or (pb_eqS h4) (pb_eqS h4)) hz) hA)
theorem wr_out {rest A : TS} {D : Ends} {σ : L2.St} {H : Hp} {w : Str} (h4 : σ[4]? = some (some (.str w))) (hz : inV (V.str w) [V.str "break", V.str "continue"] = false) (q : ∀ H', Same H H' → rest D σ H') :
    tSeq (tIfS (tTest (tOp (rIn K false) (tVar 4) (tTup (tCons (tC (.str "break")) (tCons (tC (.str "continue")) (tNil)))))) A (tNext)) rest D σ H :=
  seq (wr_in h4 (fun h => by rw [hz] at h; cases h) (fun _ H' s => q H' s))
/-- a list of texts over a tuple's parts; all stands -/
theorem lc_strT {H1 : Hp} {Qd : Hp → Prop} {a D : Addr} {xs : List V} {ss : List Str} {te : TE} {slot : Nat} {σ : L2.St} (hs : SqT K H1 a xs) (hl : xs.length = ss.length) (hD : H1 D = none) (hz : ss.length < 1000000)
    (hw : ∀ x, wipe ((wipe σ [slot]).set slot x) [slot] = wipe σ [slot])
    (step : ∀ (i : Nat) (x : V) (s : Str) (H2 : Hp), xs[i]? = some x → ss[i]? = some s → Same H1 H2 → ∀ Q' : VK, (∀ H3, Same H2 H3 → Q' (.str s) H3) → te ((wipe σ [slot]).set slot (some x)) H2 Q')
    (fin : ∀ (H' : Hp), H' D = some (.lst (ss.map V.str)) → Same H1 H' → Qd H') :
    ∃ W : Nat → Nat → Hp → Prop, (∃ m, W 0 m (L2.upd H1 D (.lst []))) ∧ ∀ i m H, W i m H →
      ((Itt K a).stop i H ∧ Qd H) ∨ ((Itt K a).go i H ∧ ∃ Nx : Hp → Prop, (∀ H', Nx H' → ∃ m', m' < m ∧ W (i + 1) m' H') ∧ ∀ x H', (Itt K a).yld i H x H' → gName slot x (wipe σ [slot]) H' fun σ2 H2 => wipe σ2 [slot] = wipe σ [slot] ∧ tYes σ2 H2 fun c H3 =>
        if c = true then te σ2 H3 fun y H4 => ∃ acc, H4 D = some (.lst acc) ∧ acc.length < sizeLine ∧ Nx (L2.upd H4 D (.lst (acc ++ [y]))) else Nx H3) := by
  refine lc_tup (K := K) (a := a) (xs := xs) (Qd := Qd) (fun i H' => H' D = some (.lst ((ss.take i).map V.str)) ∧ Same H1 H') ⟨upd_same, Same.new hD⟩ (fun i H' _ ⟨_, s⟩ => s.sqT hs) ?_ ?_
  · rintro i x H2 hx ⟨hv, s2⟩
    have hi : i < ss.length := by have := (List.getElem?_eq_some_iff.mp hx).1; omega
    refine ⟨hw _, ?_⟩
    show te ((wipe σ [slot]).set slot (some x)) H2 fun y H4 => ∃ acc, H4 D = some (.lst acc) ∧ acc.length < sizeLine ∧ _
    refine step i x ss[i] H2 hx (List.getElem?_eq_getElem hi) s2 _ fun H3 s3 => ?_
    have hv3 := s3 D _ hv
    refine ⟨_, hv3, ?_, ?_, fun b u e => by rw [upd_ne (ne_of_none e hD)]; exact s3 b u (s2 b u e)⟩
    · rw [List.length_map, List.length_take]; exact sz_lt1 (by omega)
    · rw [upd_same, List.take_succ, List.getElem?_eq_getElem hi, List.map_append]; rfl
  · rintro H' ⟨hv, s2⟩
    rw [List.take_of_length_le (by omega)] at hv
    exact fin H' hv s2
/-- over a list's parts -/
theorem lc_strL {H1 : Hp} {Qd : Hp → Prop} {a D : Addr} {xs : List V} {ss : List Str} {te : TE} {slot : Nat} {σ : L2.St} (hs : SqL K H1 a xs) (hl : xs.length = ss.length) (hD : H1 D = none) (hz : ss.length < 1000000)
    (hw : ∀ x, wipe ((wipe σ [slot]).set slot x) [slot] = wipe σ [slot])
    (step : ∀ (i : Nat) (x : V) (s : Str) (H2 : Hp), xs[i]? = some x → ss[i]? = some s → Same H1 H2 → ∀ Q' : VK, (∀ H3, Same H2 H3 → Q' (.str s) H3) → te ((wipe σ [slot]).set slot (some x)) H2 Q')
    (fin : ∀ (H' : Hp), H' D = some (.lst (ss.map V.str)) → Same H1 H' → Qd H') :
    ∃ W : Nat → Nat → Hp → Prop, (∃ m, W 0 m (L2.upd H1 D (.lst []))) ∧ ∀ i m H, W i m H →
      ((Itl K a).stop i H ∧ Qd H) ∨ ((Itl K a).go i H ∧ ∃ Nx : Hp → Prop, (∀ H', Nx H' → ∃ m', m' < m ∧ W (i + 1) m' H') ∧ ∀ x H', (Itl K a).yld i H x H' → gName slot x (wipe σ [slot]) H' fun σ2 H2 => wipe σ2 [slot] = wipe σ [slot] ∧ tYes σ2 H2 fun c H3 =>
        if c = true then te σ2 H3 fun y H4 => ∃ acc, H4 D = some (.lst acc) ∧ acc.length < sizeLine ∧ Nx (L2.upd H4 D (.lst (acc ++ [y]))) else Nx H3) := by
  refine lc_list (K := K) (a := a) (xs := xs) (Qd := Qd) (fun i H' => H' D = some (.lst ((ss.take i).map V.str)) ∧ Same H1 H') ⟨upd_same, Same.new hD⟩ (fun i H' _ ⟨_, s⟩ => s.seq hs) ?_ ?_
  · rintro i x H2 hx ⟨hv, s2⟩
    have hi : i < ss.length := by have := (List.getElem?_eq_some_iff.mp hx).1; omega
    refine ⟨hw _, ?_⟩
    show te ((wipe σ [slot]).set slot (some x)) H2 fun y H4 => ∃ acc, H4 D = some (.lst acc) ∧ acc.length < sizeLine ∧ _
    refine step i x ss[i] H2 hx (List.getElem?_eq_getElem hi) s2 _ fun H3 s3 => ?_
    have hv3 := s3 D _ hv
    refine ⟨_, hv3, ?_, ?_, fun b u e => by rw [upd_ne (ne_of_none e hD)]; exact s3 b u (s2 b u e)⟩
    · rw [List.length_map, List.length_take]; exact sz_lt1 (by omega)
    · rw [upd_same, List.take_succ, List.getElem?_eq_getElem hi, List.map_append]; rfl
  · rintro H' ⟨hv, s2⟩
    rw [List.take_of_length_le (by omega)] at hv
    exact fin H' hv s2
theorem cutA_use3 {H : Hp} {Q : VK} {a : Addr} {xs : List V} {lo hi : Option Int} (ha : SqT K H a xs) (q : ∀ r H', SqT K H' r (cutV xs lo hi) → Same H H' → Q (.ref r) H') : rSlA K (.ref a) lo hi H Q := by
  refine ⟨a, xs, rfl, ha, fun z => q a H ?_ (Same.refl _), fun _ p hp => q p _ (SqT.of upd_same) (Same.new hp)⟩
  have e : cutV xs lo hi = xs := by
    unfold cutV
    rw [z.1, z.2, List.drop_zero]
    simp
  rw [e]
  exact ha
theorem rd_law_wrong {n : Nat} (vs : List V) (H : Hp) (Q : VK) (E : XK) (hh : spWrong K (n + 1) vs H Q E) : t_law_wrong K (spFirst K) (spWrong K n) { nx := fun _ H' => Q .non H', rt := Q } (start ["_law_one", "_law_shape", "_law_turn", "_law_handler_here", "_law_word", "_law_part_here", "_law_parts", "_law_told"] vs) H := by
  obtain ⟨v, sh, s, cs, nk, turn, hand, rfl, tv, hd, hz, hs, q⟩ := hh.ex
  obtain ⟨ca, hsh, hca⟩ := hs.ex
  cases s with
  | brk =>
    obtain ⟨a, x0, rfl, hT, t0⟩ := (show Tp K H v (.tuple [.str "break"]) from tv).tup1
    cases t0.strE
    refine seq (rd_ixT (j := 0) rfl hT rfl (gn ?_))
    dsimp only
    show tSeq _ _ _ [some (V.ref a), some (.ref sh), some (.bl turn), some (.bl hand), some (.str "break"), none, none, none] _
    refine seq (wr_in rfl (fun _ H1 s1 => ?_) (fun h => absurd h (by decide)))
    refine pick2 (c := turn) (fun H' Q' _ q' => ⟨_, rfl, q'⟩) fun H2 s2 => ?_
    have := q H2 (s1.trans s2)
    cases turn <;> exact this
  | cnt =>
    obtain ⟨a, x0, rfl, hT, t0⟩ := (show Tp K H v (.tuple [.str "continue"]) from tv).tup1
    cases t0.strE
    refine seq (rd_ixT (j := 0) rfl hT rfl (gn ?_))
    dsimp only
    show tSeq _ _ _ [some (V.ref a), some (.ref sh), some (.bl turn), some (.bl hand), some (.str "continue"), none, none, none] _
    refine seq (wr_in rfl (fun _ H1 s1 => ?_) (fun h => absurd h (by decide)))
    refine pick2 (c := turn) (fun H' Q' _ q' => ⟨_, rfl, q'⟩) fun H2 s2 => ?_
    have := q H2 (s1.trans s2)
    cases turn <;> exact this
  | again =>
    obtain ⟨a, x0, rfl, hT, t0⟩ := (show Tp K H v (.tuple [.str "again"]) from tv).tup1
    cases t0.strE
    refine seq (rd_ixT (j := 0) rfl hT rfl (gn ?_))
    dsimp only
    show tSeq _ _ _ [some (V.ref a), some (.ref sh), some (.bl turn), some (.bl hand), some (.str "again"), none, none, none] _
    refine seq (wr_in rfl (fun h => absurd h (by decide)) (fun _ H1 s1 => ?_))
    dsimp only
    show tSeq _ _ _ [some (V.ref a), some (.ref sh), some (.bl turn), some (.bl hand), some (.str "again"), none, none, none] _
    refine tk rfl ?_
    refine pick2 (c := hand) (fun H' Q' _ q' => ⟨_, rfl, q'⟩) fun H2 s2 => ?_
    have := q H2 (s1.trans s2)
    cases hand <;> exact this
  | say x =>
    obtain ⟨a, x0, x1, rfl, hT, t0, t1⟩ := (show Tp K H v (.tuple [.str "say", x.d]) from tv).tup2
    cases t0.strE
    refine seq (rd_ixT (j := 0) rfl hT rfl (gn ?_))
    dsimp only
    show tSeq _ _ _ [some (V.ref a), some (.ref sh), some (.bl turn), some (.bl hand), some (.str "say"), none, none, none] _
    refine wr_out rfl (by decide) fun H1 s1 => ?_
    exact (sk rfl (by decide) (sk rfl (by decide) (sk rfl (by decide) (sk rfl (by decide) (sk2 rfl (by decide) (by decide) (sk rfl (by decide) (sk rfl (by decide) (q _ s1))))))))
  | set k x =>
    obtain ⟨a, x0, x1, x2, rfl, hT, t0, t1, t2⟩ := (show Tp K H v (.tuple [.str "set", .int (k : Int), x.d]) from tv).tup3
    cases t0.strE
    refine seq (rd_ixT (j := 0) rfl hT rfl (gn ?_))
    dsimp only
    show tSeq _ _ _ [some (V.ref a), some (.ref sh), some (.bl turn), some (.bl hand), some (.str "set"), none, none, none] _
    refine wr_out rfl (by decide) fun H1 s1 => ?_
    exact (sk rfl (by decide) (sk rfl (by decide) (sk rfl (by decide) (sk rfl (by decide) (sk2 rfl (by decide) (by decide) (sk rfl (by decide) (sk rfl (by decide) (q _ s1))))))))
  | ret x =>
    obtain ⟨a, x0, x1, rfl, hT, t0, t1⟩ := (show Tp K H v (.tuple [.str "return", x.d]) from tv).tup2
    cases t0.strE
    refine seq (rd_ixT (j := 0) rfl hT rfl (gn ?_))
    dsimp only
    show tSeq _ _ _ [some (V.ref a), some (.ref sh), some (.bl turn), some (.bl hand), some (.str "return"), none, none, none] _
    refine wr_out rfl (by decide) fun H1 s1 => ?_
    exact (sk rfl (by decide) (sk rfl (by decide) (sk rfl (by decide) (sk rfl (by decide) (sk2 rfl (by decide) (by decide) (sk rfl (by decide) (sk rfl (by decide) (q _ s1))))))))
  | rais kd x m =>
    obtain ⟨a, x0, x1, x2, x3, rfl, hT, t0, t1, t2, t3⟩ := (show Tp K H v (.tuple [.str "raise", .int (kd : Int), x.d, .int m]) from tv).tup4
    cases t1.intE
    cases t0.strE
    refine seq (rd_ixT (j := 0) rfl hT rfl (gn ?_))
    dsimp only
    show tSeq _ _ _ [some (V.ref a), some (.ref sh), some (.bl turn), some (.bl hand), some (.str "raise"), none, none, none] _
    refine wr_out rfl (by decide) fun H1 s1 => ?_
    refine sk rfl (by decide) (tk rfl ?_)
    refine pick2 (c := decide ((nk : Int) ≤ (kd : Int))) (fun H' Q' s' q' => rd_ixT (j := 1) rfl ((s1.trans s').sqT hT) rfl (rd_ixL (j := 1) rfl (SqL.of ((s1.trans s') _ _ hsh)) rfl ⟨_, _, rfl, rfl, q'⟩)) fun H2 s2 => ?_
    have := q H2 (s1.trans s2)
    have e : (if decide ((nk : Int) ≤ (kd : Int)) = true then ("unknown" : Str) else "") = wrS ((Sm.rais kd x m).wrong cs nk turn hand) := by
      show _ = wrS (if nk ≤ kd then some Wr.unknown else none)
      by_cases h : nk ≤ kd
      · rw [if_pos h, if_pos (decide_eq_true (by omega))]; rfl
      · rw [if_neg h, if_neg (by rw [decide_eq_false (by omega)]; decide)]; rfl
    rw [e]; exact this
  | whl x s =>
    obtain ⟨a, x0, x1, x2, rfl, hT, t0, t1, t2⟩ := (show Tp K H v (.tuple [.str "while", x.d, s.d]) from tv).tup3
    have hd : s.dep + 1 ≤ n + 1 := hd
    have hz : s.siz + 1 ≤ 3000 := hz
    cases t0.strE
    refine seq (rd_ixT (j := 0) rfl hT rfl (gn ?_))
    dsimp only
    show tSeq _ _ _ [some (V.ref a), some (.ref sh), some (.bl turn), some (.bl hand), some (.str "while"), none, none, none] _
    refine wr_out rfl (by decide) fun H1 s1 => ?_
    refine sk rfl (by decide) (sk rfl (by decide) (sk rfl (by decide) (sk rfl (by decide) (sk2 rfl (by decide) (by decide) (tk rfl ?_)))))
    exact rd_ixT (j := 2) rfl (s1.sqT hT) rfl ⟨_, rfl, _, rfl, ⟨x2, sh, s, cs, nk, true, hand, rfl, t2.mono (Tk.same s1), by omega, by omega, hs.same s1, fun H2 s2 => q H2 (s1.trans s2)⟩⟩
  | call k f ps m =>
    obtain ⟨a, x0, x1, x2, x3, x4, rfl, hT, t0, t1, t2, t3, t4⟩ := (show Tp K H v (.tuple [.str "call", .int (k : Int), .int (f : Int), .tuple (ps.map Ex.d), .int m]) from tv).tup5
    cases t2.intE
    obtain ⟨pa, pvs, rfl, hP, tps⟩ := t3.tupE
    have lps : pvs.length = ps.length := by rw [tps.length, List.length_map]
    cases t0.strE
    refine seq (rd_ixT (j := 0) rfl hT rfl (gn ?_))
    dsimp only
    show tSeq _ _ _ [some (V.ref a), some (.ref sh), some (.bl turn), some (.bl hand), some (.str "call"), none, none, none] _
    refine wr_out rfl (by decide) fun H1 s1 => ?_
    refine sk rfl (by decide) (sk rfl (by decide) (tk rfl ?_))
    have q : ∀ H', Same H H' → Q (.str (wrS (match cs[f]? with | none => some Wr.unknown | some n => if ps.length = n then none else some Wr.uneven))) H' := q
    have hsh1 := s1 _ _ hsh
    have hca1 := s1 _ _ hca
    have hT1 := s1.sqT hT
    have p1 : PB (tTest (tOp rGe (tOp (rIxT K) (tVar 0) (tC (.int 2))) (tCB (rLenQ K) (tCons (tOp (rIxL K) (tVar 1) (tC (.int 0))) (tNil))))) [some (V.ref a), some (.ref sh), some (.bl turn), some (.bl hand), some (.str "call"), none, none, none] H1 (decide (((cs.map fun n : Nat => V.int (n : Int)).length : Int) ≤ (f : Int))) :=
      fun Q' q' => rd_ixT (j := 2) rfl hT1 rfl (rd_ixL (j := 0) rfl (SqL.of hsh1) rfl ⟨ca, _, rfl, .inl (SqL.of hca1), _, _, rfl, rfl, _, rfl, q'⟩)
    rw [List.length_map] at p1
    refine seq (r_if p1 (fun hu => ?_) (fun hu => ?_))
    · have h := of_decide_eq_true hu
      rw [List.getElem?_eq_none (by omega)] at q
      exact q _ s1
    · have h := of_decide_eq_false hu
      have hf : f < cs.length := by omega
      have ef : cs[f]? = some cs[f] := List.getElem?_eq_getElem hf
      rw [ef] at q
      generalize cs[f] = c at ef q
      refine pick2 (c := !decide (V.int (pvs.length : Nat) = V.int (c : Int))) (fun H' Q' s' q' => rd_ixT (j := 3) rfl (s'.sqT hT1) rfl ⟨pa, pvs, rfl, .inr ((s1.trans s').sqT hP), rd_ixL (j := 0) rfl (SqL.of (s' _ _ hsh1)) rfl (rd_ixT (j := 2) rfl (s'.sqT hT1) rfl ⟨ca, _, _, .int (c : Int), rfl, rfl, SqL.of (s' _ _ hca1), atI_nat (j := f) (by rw [List.getElem?_map, ef]; rfl), rfl, q'⟩)⟩) fun H2 s2 => ?_
      have := q H2 (s1.trans s2)
      have e : (if (!decide (V.int (pvs.length : Nat) = V.int (c : Int))) = true then ("uneven" : Str) else "") = wrS (if ps.length = c then none else some Wr.uneven) := by
        by_cases h : ps.length = c
        · rw [if_pos h, if_neg (by rw [decide_eq_true (by rw [lps, h])]; decide)]; rfl
        · rw [if_neg h, if_pos (by rw [decide_eq_false (by intro z; injection z with z; omega)]; rfl)]; rfl
      rw [e]; exact this
  | row ps =>
    obtain ⟨a, x0, x1, rfl, hT, t0, t1⟩ := (show Tp K H v (.tuple [.str "row", .tuple ps.ds]) from tv).tup2
    have hd : ps.dep + 1 ≤ n + 1 := hd
    have hz : ps.siz + 1 ≤ 3000 := hz
    obtain ⟨pa, xs, rfl, hR, tps⟩ := t1.tupE
    rw [toL_ds] at tps
    obtain ⟨wl, wi⟩ := toL_len ps
    have q : ∀ H', Same H H' → Q (.str (wrS (ps.wrong cs nk turn hand))) H' := q
    rw [toL_wrong, ← firstS_wr] at q
    generalize toL ps = l at tps wl wi q
    have lxs : xs.length = l.length := by rw [tps.length, List.length_map]
    cases t0.strE
    refine seq (rd_ixT (j := 0) rfl hT rfl (gn ?_))
    dsimp only
    show tSeq _ _ _ [some (V.ref a), some (.ref sh), some (.bl turn), some (.bl hand), some (.str "row"), none, none, none] _
    refine wr_out rfl (by decide) fun H1 s1 => ?_
    refine sk rfl (by decide) (sk rfl (by decide) (sk rfl (by decide) (tk rfl ?_)))
    refine rd_ixT (j := 1) rfl (s1.sqT hT) rfl ⟨pa, rfl, ⟨_, s1.sqT hR⟩, fun D hD => lc_strT (K := K) (xs := xs) (ss := l.map fun w => wrS (w.wrong cs nk turn hand)) (s1.sqT hR) (by rw [List.length_map]; exact lxs) hD (by rw [List.length_map]; omega) (fun _ => rfl) ?_ ?_⟩
    · intro i x s H2 hx hs' s2 Q' q'
      rw [List.getElem?_map] at hs'
      cases el : l[i]? with
      | none => rw [el] at hs'; cases hs'
      | some w =>
        rw [el] at hs'
        obtain rfl : wrS (w.wrong cs nk turn hand) = s := Option.some.inj hs'
        obtain ⟨d, hdd, td⟩ := tps.get hx
        rw [List.getElem?_map, el] at hdd
        obtain rfl : w.d = d := Option.some.inj hdd
        obtain ⟨w1, w2⟩ := wi w (List.mem_of_getElem? el)
        exact ⟨_, rfl, _, rfl, _, rfl, _, rfl, ⟨x, sh, w, cs, nk, turn, hand, rfl, td.mono (Tk.same (s1.trans s2)), by omega, by omega, hs.same (s1.trans s2), q'⟩⟩
    · intro H2 hD2 s2
      exact ⟨D, _, rfl, SqL.of hD2, q _ (s1.trans s2)⟩
  | ife x s t =>
    obtain ⟨a, x0, x1, x2, x3, rfl, hT, t0, t1, t2, t3⟩ := (show Tp K H v (.tuple [.str "if", x.d, s.d, t.d]) from tv).tup4
    have hd : max s.dep t.dep + 1 ≤ n + 1 := hd
    have hz : s.siz + t.siz + 1 ≤ 3000 := hz
    cases t0.strE
    refine seq (rd_ixT (j := 0) rfl hT rfl (gn ?_))
    dsimp only
    show tSeq _ _ _ [some (V.ref a), some (.ref sh), some (.bl turn), some (.bl hand), some (.str "if"), none, none, none] _
    refine wr_out rfl (by decide) fun H1 s1 => ?_
    refine sk rfl (by decide) (sk rfl (by decide) (sk rfl (by decide) (sk rfl (by decide) (tk2 rfl (by decide) ?_))))
    have hT1 := s1.sqT hT
    refine seq ⟨_, rfl, _, rfl, a, _, rfl, .inr hT1, _, _, rfl, rfl, _, rfl, ?_⟩
    dsimp only [tNoPart]
    refine cutA_use3 (K := K) hT1 fun r H2 hr s2 => ⟨r, _, rfl, .inr hr, fun l hl => gn ?_⟩
    have ec : cutV ([V.str "if", x1, x2, x3] : List V) (some (((([V.str "if", x1, x2, x3] : List V).length : Nat) : Int) - 2)) none = [x2, x3] := cut_from (k := 2) (by show 2 ≤ 4; decide)
    rw [ec]
    have s3 := (s1.trans s2).trans (Same.new (o := .lst [x2, x3]) hl)
    have hl3 : L2.upd H2 l (.lst [x2, x3]) l = some (.lst [x2, x3]) := upd_same
    generalize L2.upd H2 l (.lst [x2, x3]) = H3 at s3 hl3 ⊢
    show tRet _ _ [some (V.ref a), some (.ref sh), some (.bl turn), some (.bl hand), some (.str "if"), none, some (.ref l), none] _
    refine ⟨_, rfl, l, rfl, ⟨_, SqL.of hl3⟩, fun D hD => lc_strL (K := K) (xs := [x2, x3]) (ss := [wrS (s.wrong cs nk turn hand), wrS (t.wrong cs nk turn hand)]) (SqL.of hl3) rfl hD (by show 2 < 1000000; decide) (fun _ => rfl) ?_ ?_⟩
    · intro i x z H4 hx hz' s4 Q' q'
      have s34 := s3.trans s4
      rcases i with _ | _ | i
      · obtain rfl := Option.some.inj hx
        obtain rfl := Option.some.inj hz'
        exact ⟨_, rfl, _, rfl, _, rfl, _, rfl, ⟨_, sh, s, cs, nk, turn, hand, rfl, t2.mono (Tk.same s34), by omega, by omega, hs.same s34, q'⟩⟩
      · obtain rfl := Option.some.inj hx
        obtain rfl := Option.some.inj hz'
        exact ⟨_, rfl, _, rfl, _, rfl, _, rfl, ⟨_, sh, t, cs, nk, turn, hand, rfl, t3.mono (Tk.same s34), by omega, by omega, hs.same s34, q'⟩⟩
      · cases hx
    · intro H4 hD4 s4
      refine ⟨D, _, rfl, SqL.of hD4, ?_⟩
      rw [firstS_two]
      exact q _ (s3.trans s4)
  | cln s t =>
    obtain ⟨a, x0, x1, x2, rfl, hT, t0, t1, t2⟩ := (show Tp K H v (.tuple [.str "clean", s.d, t.d]) from tv).tup3
    have hd : max s.dep t.dep + 1 ≤ n + 1 := hd
    have hz : s.siz + t.siz + 1 ≤ 3000 := hz
    cases t0.strE
    refine seq (rd_ixT (j := 0) rfl hT rfl (gn ?_))
    dsimp only
    show tSeq _ _ _ [some (V.ref a), some (.ref sh), some (.bl turn), some (.bl hand), some (.str "clean"), none, none, none] _
    refine wr_out rfl (by decide) fun H1 s1 => ?_
    refine sk rfl (by decide) (sk rfl (by decide) (sk rfl (by decide) (sk rfl (by decide) (tk2 rfl (by decide) ?_))))
    have hT1 := s1.sqT hT
    refine seq ⟨_, rfl, _, rfl, a, _, rfl, .inr hT1, _, _, rfl, rfl, _, rfl, ?_⟩
    dsimp only [tNoPart]
    refine cutA_use3 (K := K) hT1 fun r H2 hr s2 => ⟨r, _, rfl, .inr hr, fun l hl => gn ?_⟩
    have ec : cutV ([V.str "clean", x1, x2] : List V) (some (((([V.str "clean", x1, x2] : List V).length : Nat) : Int) - 2)) none = [x1, x2] := cut_from (k := 1) (by show 1 ≤ 3; decide)
    rw [ec]
    have s3 := (s1.trans s2).trans (Same.new (o := .lst [x1, x2]) hl)
    have hl3 : L2.upd H2 l (.lst [x1, x2]) l = some (.lst [x1, x2]) := upd_same
    generalize L2.upd H2 l (.lst [x1, x2]) = H3 at s3 hl3 ⊢
    show tRet _ _ [some (V.ref a), some (.ref sh), some (.bl turn), some (.bl hand), some (.str "clean"), none, some (.ref l), none] _
    refine ⟨_, rfl, l, rfl, ⟨_, SqL.of hl3⟩, fun D hD => lc_strL (K := K) (xs := [x1, x2]) (ss := [wrS (s.wrong cs nk turn hand), wrS (t.wrong cs nk turn hand)]) (SqL.of hl3) rfl hD (by show 2 < 1000000; decide) (fun _ => rfl) ?_ ?_⟩
    · intro i x z H4 hx hz' s4 Q' q'
      have s34 := s3.trans s4
      rcases i with _ | _ | i
      · obtain rfl := Option.some.inj hx
        obtain rfl := Option.some.inj hz'
        exact ⟨_, rfl, _, rfl, _, rfl, _, rfl, ⟨_, sh, s, cs, nk, turn, hand, rfl, t1.mono (Tk.same s34), by omega, by omega, hs.same s34, q'⟩⟩
      · obtain rfl := Option.some.inj hx
        obtain rfl := Option.some.inj hz'
        exact ⟨_, rfl, _, rfl, _, rfl, _, rfl, ⟨_, sh, t, cs, nk, turn, hand, rfl, t2.mono (Tk.same s34), by omega, by omega, hs.same s34, q'⟩⟩
      · cases hx
    · intro H4 hD4 s4
      refine ⟨D, _, rfl, SqL.of hD4, ?_⟩
      rw [firstS_two]
      exact q _ (s3.trans s4)
  | tri s hs' =>
    obtain ⟨a, x0, x1, x2, rfl, hT, t0, t1, t2⟩ := (show Tp K H v (.tuple [.str "try", s.d, .tuple hs'.ds]) from tv).tup3
    have hd : max s.dep hs'.dep + 1 ≤ n + 1 := hd
    have hz : s.siz + hs'.siz + 1 ≤ 3000 := hz
    obtain ⟨pa, xs, rfl, hR, tps⟩ := t2.tupE
    rw [toH_ds] at tps
    obtain ⟨wl, wi⟩ := toH_len hs'
    have q : ∀ H', Same H H' → Q (.str (wrS (if hs'.bad nk = true then some .unknown else (s.wrong cs nk turn hand).or (hs'.wrong cs nk turn)))) H' := q
    rw [toH_wrong, toH_bad] at q
    have ew := firstS_or (a := s.wrong cs nk turn hand) (firstS_wr (f := fun h : Option Nat × Nat × Sm => h.2.2.wrong cs nk turn true) (l := toH hs'))
    generalize toH hs' = l at tps wl wi q ew
    have lxs : xs.length = l.length := by rw [tps.length, List.length_map]
    cases t0.strE
    refine seq (rd_ixT (j := 0) rfl hT rfl (gn ?_))
    dsimp only
    show tSeq _ _ _ [some (V.ref a), some (.ref sh), some (.bl turn), some (.bl hand), some (.str "try"), none, none, none] _
    refine wr_out rfl (by decide) fun H1 s1 => ?_
    refine sk rfl (by decide) (sk rfl (by decide) (sk rfl (by decide) (sk rfl (by decide) (sk2 rfl (by decide) (by decide) (sk rfl (by decide) (tk rfl ?_))))))
    have hT1 := s1.sqT hT
    have hR1 := s1.sqT hR
    have tps1 := tps.mono (Tk.same s1)
    have hsh1 := s1 _ _ hsh
    refine seq ?_
    refine rd_ixT (j := 2) rfl hT1 rfl ⟨pa, rfl, ⟨_, hR1⟩, fun D hD => lc_tup (K := K) (a := pa) (xs := xs) (fun i H' => ∃ vs, H' D = some (.lst vs) ∧ Same H1 H' ∧ vs.length ≤ i ∧ (!vs.isEmpty) = (l.take i).any fun h => badK nk h.1)
      ⟨[], upd_same, Same.new hD, Nat.le_refl _, rfl⟩ (fun i H' _ ⟨_, _, s', _⟩ => s'.sqT hR1) ?_ ?_⟩
    · rintro i x H2 hx ⟨vs, hv, s2, lv, ev⟩
      obtain ⟨d, hdd, td⟩ := (tps1.mono (Tk.same s2)).get hx
      rw [List.getElem?_map] at hdd
      cases el : l[i]? with
      | none => rw [el] at hdd; cases hdd
      | some h =>
        rw [el] at hdd
        obtain rfl : hdD h = d := Option.some.inj hdd
        obtain ⟨ga, y0, y1, y2, rfl, hG, z0, z1, z2⟩ := Tp.tup3 (show Tp K H2 x (.tuple [kindD h.1, .int (h.2.1 : Int), h.2.2.d]) from td)
        have hi := (List.getElem?_eq_some_iff.mp el).1
        have et : l.take (i + 1) = l.take i ++ [h] := by rw [List.take_succ, el]; rfl
        have ea : (l.take (i + 1)).any (fun h => badK nk h.1) = ((l.take i).any (fun h => badK nk h.1) || badK nk h.1) := by rw [et, List.any_append]; simp
        obtain ⟨k, sl, w⟩ := h
        refine ⟨rfl, ?_⟩
        show (tAnd _ _) [some (V.ref a), some (.ref sh), some (.bl turn), some (.bl hand), some (.str "try"), some (.ref ga), none, none] H2 _
        cases k with
        | none =>
          cases z0.nonE
          refine rd_ixT (i := 5) (j := 0) rfl hG rfl ⟨rfl, _, rfl, ifF rfl (ifF rfl ⟨vs, hv, s2, by omega, ?_⟩)⟩
          rw [ea, ev]
          exact (Bool.or_false _).symm
        | some j =>
          cases z0.intE
          refine rd_ixT (i := 5) (j := 0) rfl hG rfl ⟨rfl, _, rfl, ifT rfl (rd_ixT (i := 5) (j := 0) rfl hG rfl (rd_ixL (i := 1) (j := 1) rfl (SqL.of (s2 _ _ hsh1)) rfl ⟨_, _, rfl, rfl, _, rfl, ?_⟩))⟩
          refine ifB (fun hu => ?_) (fun hu => ?_)
          · have hj := of_decide_eq_true hu
            refine ⟨_, rfl, vs, hv, sz_lt1 (by omega), vs ++ [.ref ga], upd_same, fun b u e => by rw [upd_ne (ne_of_none e hD)]; exact s2 b u e, by simp; omega, ?_⟩
            rw [ea, show badK nk (some j) = true from decide_eq_true (by omega), Bool.or_true]
            simp
          · have hj := of_decide_eq_false hu
            refine ⟨vs, hv, s2, by omega, ?_⟩
            rw [ea, show badK nk (some j) = false from decide_eq_false (by omega), Bool.or_false]
            exact ev
    · rintro H2 ⟨vs, hv, s2, lv, ev⟩
      rw [List.take_of_length_le (by omega)] at ev
      refine ⟨(by show 0 ≤ sizeLine; decide), fun pe hpe => ⟨D, pe, vs, rfl, rfl, SqL.of (by rw [upd_ne (ne_of_none hv hpe)]; exact hv), SqL.of upd_same, _, rfl, ?_⟩⟩
      have s3 := (s1.trans s2).trans (Same.new (o := .lst []) hpe)
      generalize L2.upd H2 pe (.lst []) = H3 at s3 ⊢
      rw [← ev] at q
      refine ifB (fun hu => ?_) (fun hu => ?_)
      · rw [if_pos hu] at q
        exact q _ s3
      · rw [if_neg (by rw [hu]; decide)] at q
        dsimp only [tNext]
        refine seq (rd_ixT (j := 1) rfl (s3.sqT hT) rfl ⟨_, rfl, _, rfl, _, rfl, ⟨x1, sh, s, cs, nk, turn, hand, rfl, t1.mono (Tk.same s3), by omega, by omega, hs.same s3, fun H4 s4 => ⟨(by show 1 ≤ sizeLine; decide), fun p7 hp7 => gn ?_⟩⟩⟩)
        dsimp only
        have s5 := (s3.trans s4).trans (Same.new (o := .lst [V.str (wrS (s.wrong cs nk turn hand))]) hp7)
        have hl5 : L2.upd H4 p7 (.lst [V.str (wrS (s.wrong cs nk turn hand))]) p7 = some (.lst [V.str (wrS (s.wrong cs nk turn hand))]) := upd_same
        generalize L2.upd H4 p7 (.lst [V.str (wrS (s.wrong cs nk turn hand))]) = H5 at s5 hl5 ⊢
        show tRet _ _ [some (V.ref a), some (.ref sh), some (.bl turn), some (.bl hand), some (.str "try"), none, none, some (.ref p7)] _
        refine ⟨_, rfl, rd_ixT (j := 2) rfl (s5.sqT hT) rfl ⟨pa, rfl, ⟨_, s5.sqT hR⟩, fun D2 hD2 => lc_strT (K := K) (xs := xs) (ss := l.map fun h => wrS (h.2.2.wrong cs nk turn true)) (s5.sqT hR) (by rw [List.length_map]; exact lxs) hD2 (by rw [List.length_map]; omega) (fun _ => rfl) ?_ ?_⟩⟩
        · intro i x z H6 hx hz' s6 Q' q'
          rw [List.getElem?_map] at hz'
          cases el : l[i]? with
          | none => rw [el] at hz'; cases hz'
          | some h =>
            rw [el] at hz'
            obtain rfl : wrS (h.2.2.wrong cs nk turn true) = z := Option.some.inj hz'
            obtain ⟨d, hdd, td⟩ := tps.get hx
            rw [List.getElem?_map, el] at hdd
            obtain rfl : hdD h = d := Option.some.inj hdd
            obtain ⟨w1, w2⟩ := wi h (List.mem_of_getElem? el)
            have s56 := s5.trans s6
            obtain ⟨ga, y0, y1, y2, rfl, hG, z0, z1, z2⟩ := Tp.tup3 (show Tp K H6 x (.tuple [kindD h.1, .int (h.2.1 : Int), h.2.2.d]) from td.mono (Tk.same s56))
            exact rd_ixT (i := 5) (j := 2) rfl hG rfl ⟨_, rfl, _, rfl, ⟨y2, sh, h.2.2, cs, nk, turn, true, rfl, z2, by omega, by omega, hs.same s56, q'⟩⟩
        · intro H6 hD6 s6
          have hl6 := s6 _ _ hl5
          refine ⟨p7, D2, _, _, rfl, rfl, hl6, hD6, sz_le1 (by simp only [List.length_cons, List.length_nil, List.length_map]; omega), fun r hr => ⟨r, wrS (s.wrong cs nk turn hand) :: (l.map fun h => wrS (h.2.2.wrong cs nk turn true)), rfl, SqL.of upd_same, ?_⟩⟩
          rw [ew]
          exact q _ ((s5.trans s6).trans (Same.new hr))
end
end K3
end Lp

/-! LvW: the law's spoiling of a program. -/
namespace Lp
open PySem PySem.Spec PyProof.Rows L2
def t_law_wild (K : PySem.W.Frag) (sp_law_take : Sp) (sp_law_wild : Sp) : TS :=
  tSeq (tAsg (tOp (rIxT K) (tVar 1) (tC (.int 0))) (gName 3)) (tSeq (tIfS (tAnd (tTest (tOp rEq (tVar 3) (tC (.str "say")))) (tTest (tOp rEq (tCall sp_law_take [] E0 (tCons (tVar 0) (tCons (tC (.int 3)) (tNil)))) (tC (.int 1))))) (tRet (tOp (rIxL K) (tLst (tCons (tTup (tCons (tC (.str "break")) (tNil))) (tCons (tTup (tCons (tC (.str "continue")) (tNil))) (tCons (tTup (tCons (tC (.str "again")) (tNil))) (tNil))))) (tCall sp_law_take [] E0 (tCons (tVar 0) (tCons (tC (.int 3)) (tNil)))))) (tNext)) (tSeq (tIfS (tAnd (tTest (tOp rEq (tVar 3) (tC (.str "raise")))) (tTest (tOp rEq (tCall sp_law_take [] E0 (tCons (tVar 0) (tCons (tC (.int 2)) (tNil)))) (tC (.int 1))))) (tRet (tTup (tCons (tC (.str "raise")) (tCons (tCall sp_law_take [] E0 (tCons (tVar 0) (tCons (tOp rAdI (tOp (rIxL K) (tVar 2) (tC (.int 1))) (tC (.int 1))) (tNil)))) (tCons (tOp (rIxT K) (tVar 1) (tC (.int 2))) (tCons (tOp (rIxT K) (tVar 1) (tC (.int 3))) (tNil))))))) (tNext)) (tSeq (tIfS (tAnd (tTest (tOp rEq (tVar 3) (tC (.str "call")))) (tTest (tOp rEq (tCall sp_law_take [] E0 (tCons (tVar 0) (tCons (tC (.int 2)) (tNil)))) (tC (.int 1))))) (tSeq (tAsg (tCB (rTupOf K) (tCons (tLc (iRng1 (tCons (tCall sp_law_take [] E0 (tCons (tVar 0) (tCons (tC (.int 4)) (tNil)))) (tNil))) (gName 5) (tYes) (tTup (tCons (tC (.str "num")) (tCons (tC (.int 0)) (tNil)))) [5]) (tNil))) (gName 4)) (tRet (tTup (tCons (tC (.str "call")) (tCons (tOp (rIxT K) (tVar 1) (tC (.int 1))) (tCons (tCall sp_law_take [] E0 (tCons (tVar 0) (tCons (tOp rAdI (tCB (rLenQ K) (tCons (tOp (rIxL K) (tVar 2) (tC (.int 0))) (tNil))) (tC (.int 1))) (tNil)))) (tCons (tVar 4) (tCons (tOp (rIxT K) (tVar 1) (tC (.int 4))) (tNil))))))))) (tNext)) (tSeq (tIfS (tTest (tOp rEq (tVar 3) (tC (.str "row")))) (tRet (tTup (tCons (tC (.str "row")) (tCons (tCB (rTupOf K) (tCons (tLc (iTup K (tOp (rIxT K) (tVar 1) (tC (.int 1)))) (gName 6) (tYes) (tCall sp_law_wild [] E0 (tCons (tVar 0) (tCons (tVar 6) (tCons (tVar 2) (tNil))))) [6]) (tNil))) (tNil))))) (tNext)) (tSeq (tIfS (tTest (tOp rEq (tVar 3) (tC (.str "if")))) (tSeq (tAsg (tCall sp_law_wild [] E0 (tCons (tVar 0) (tCons (tOp (rIxT K) (tVar 1) (tC (.int 2))) (tCons (tVar 2) (tNil))))) (gName 7)) (tRet (tTup (tCons (tC (.str "if")) (tCons (tOp (rIxT K) (tVar 1) (tC (.int 1))) (tCons (tVar 7) (tCons (tCall sp_law_wild [] E0 (tCons (tVar 0) (tCons (tOp (rIxT K) (tVar 1) (tC (.int 3))) (tCons (tVar 2) (tNil))))) (tNil)))))))) (tNext)) (tSeq (tIfS (tTest (tOp rEq (tVar 3) (tC (.str "while")))) (tRet (tTup (tCons (tC (.str "while")) (tCons (tOp (rIxT K) (tVar 1) (tC (.int 1))) (tCons (tCall sp_law_wild [] E0 (tCons (tVar 0) (tCons (tOp (rIxT K) (tVar 1) (tC (.int 2))) (tCons (tVar 2) (tNil))))) (tNil)))))) (tNext)) (tSeq (tIfS (tTest (tOp rEq (tVar 3) (tC (.str "clean")))) (tSeq (tAsg (tCall sp_law_wild [] E0 (tCons (tVar 0) (tCons (tOp (rIxT K) (tVar 1) (tC (.int 1))) (tCons (tVar 2) (tNil))))) (gName 8)) (tRet (tTup (tCons (tC (.str "clean")) (tCons (tVar 8) (tCons (tCall sp_law_wild [] E0 (tCons (tVar 0) (tCons (tOp (rIxT K) (tVar 1) (tC (.int 2))) (tCons (tVar 2) (tNil))))) (tNil))))))) (tNext)) (tSeq (tIfS (tTest (tOp rEq (tVar 3) (tC (.str "try")))) (tSeq (tAsg (tCall sp_law_wild [] E0 (tCons (tVar 0) (tCons (tOp (rIxT K) (tVar 1) (tC (.int 1))) (tCons (tVar 2) (tNil))))) (gName 8)) (tSeq (tAsg (tLst (tNil)) (gName 9)) (tSeq (tFor (iTup K (tOp (rIxT K) (tVar 1) (tC (.int 2)))) (gName 10) (tSeq (tAsg (tOp (rIxT K) (tVar 10) (tC (.int 0))) (gName 11)) (tSeq (tIfS (tTest (tOp rEq (tCall sp_law_take [] E0 (tCons (tVar 0) (tCons (tC (.int 4)) (tNil)))) (tC (.int 1)))) (tAsg (tOp (rIxL K) (tVar 2) (tC (.int 1))) (gName 11)) (tNext)) (tDrop (tBM K "list" rAppend (tVar 9) (tCons (tTup (tCons (tVar 11) (tCons (tOp (rIxT K) (tVar 10) (tC (.int 1))) (tCons (tCall sp_law_wild [] E0 (tCons (tVar 0) (tCons (tOp (rIxT K) (tVar 10) (tC (.int 2))) (tCons (tVar 2) (tNil))))) (tNil))))) (tNil))))))) (tRet (tTup (tCons (tC (.str "try")) (tCons (tVar 8) (tCons (tCB (rTupOf K) (tCons (tVar 9) (tNil))) (tNil))))))))) (tNext)) (tRet (tVar 1))))))))))

namespace K3
def sizL : List Sm → Nat
  | [] => 0
  | s :: r => s.siz + sizL r
def sizH : List (Option Nat × Nat × Sm) → Nat
  | [] => 0
  | h :: r => h.2.2.siz + sizH r
theorem sizL_snoc : ∀ {l : List Sm} {s : Sm}, sizL (l ++ [s]) = sizL l + s.siz
  | [], s => by show s.siz + 0 = 0 + s.siz; omega
  | x :: l, s => by show x.siz + sizL (l ++ [s]) = x.siz + sizL l + s.siz; rw [sizL_snoc]; omega
theorem sizH_snoc : ∀ {l : List (Option Nat × Nat × Sm)} {s : Option Nat × Nat × Sm}, sizH (l ++ [s]) = sizH l + s.2.2.siz
  | [], s => by show s.2.2.siz + 0 = 0 + s.2.2.siz; omega
  | x :: l, s => by show x.2.2.siz + sizH (l ++ [s]) = x.2.2.siz + sizH l + s.2.2.siz; rw [sizH_snoc]; omega
theorem siz_ofL : ∀ l : List Sm, (Sms.ofL l).siz = sizL l
  | [] => rfl
  | s :: r => by show s.siz + (Sms.ofL r).siz = s.siz + sizL r; rw [siz_ofL r]
theorem siz_ofH : ∀ l : List (Option Nat × Nat × Sm), (Hds.ofL l).siz = sizH l
  | [] => rfl
  | (k, x, t) :: r => by show t.siz + (Hds.ofL r).siz = t.siz + sizH r; rw [siz_ofH r]
theorem siz_toL : ∀ ps : Sms, sizL (toL ps) = ps.siz
  | .nil => rfl
  | .cons s r => by show s.siz + sizL (toL r) = s.siz + r.siz; rw [siz_toL r]
theorem siz_toH : ∀ hs : Hds, sizH (toH hs) = hs.siz
  | .nil => rfl
  | .cons k x t r => by show t.siz + sizH (toH r) = t.siz + r.siz; rw [siz_toH r]
theorem seqI {s t : TS} {D : Ends} {σ : L2.St} {H : Hp} (P : L2.St → Hp → Prop) (h : ∀ nx : L2.St → Hp → Prop, (∀ σ' H', P σ' H' → nx σ' H') → s { D with nx := nx } σ H) (q : ∀ σ' H', P σ' H' → t D σ' H') : tSeq s t D σ H := h (t D) q
section
variable {K : PySem.W.Frag}
structure WildP (K : PySem.W.Frag) (n : Nat) (vs : List V) (H : Hp) (Q : VK) : Prop where
  ex : ∃ (b sh : Addr) (v : V) (l : List Int) (s : Sm) (cs : List Nat) (nk : Nat), vs = [.ref b, v, .ref sh] ∧ H b = some (.lst (l.map V.int)) ∧ ShAt H b sh cs nk ∧ Tp K H v s.d ∧ s.dep ≤ n ∧ s.siz ≤ 3000 ∧ Drawn K b H Q Sm.d (fun s' => s'.dep ≤ n ∧ s'.siz ≤ s.siz)
def spWild (K : PySem.W.Frag) (n : Nat) : Sp := fun vs H Q _ => WildP K n vs H Q
theorem spWild_zero (vs : List V) (H : Hp) (Q : VK) (E : XK) : ¬ spWild K 0 vs H Q E := by
  rintro ⟨b, sh, v, l, s, cs, nk, _, _, _, _, h, _⟩
  cases s <;> simp [Sm.dep] at h
theorem skA {z x : Str} {T : TT} {A rest : TS} {D : Ends} {σ : L2.St} {H : Hp} (h3 : σ[3]? = some (some (.str z))) (hz : decide (V.str z = V.str x) = false) (hB : rest D σ H) : tSeq (tIfS (tAnd (tTest (tOp rEq (tVar 3) (tC (.str x)))) T) A (tNext)) rest D σ H :=
  seq (pb_eqS h3 _ (ifF hz (ifF rfl hB)))
theorem skW {z x : Str} {A rest : TS} {D : Ends} {σ : L2.St} {H : Hp} (h3 : σ[3]? = some (some (.str z))) (hz : decide (V.str z = V.str x) = false) (hB : rest D σ H) : tSeq (tIfS (tTest (tOp rEq (tVar 3) (tC (.str x)))) A (tNext)) rest D σ H := seq (r_ifF (pb_is (pb_eqS h3) hz) hB)
theorem tkW {z : Str} {A rest : TS} {D : Ends} {σ : L2.St} {H : Hp} (h3 : σ[3]? = some (some (.str z))) (hA : A { D with nx := rest D } σ H) : tSeq (tIfS (tTest (tOp rEq (tVar 3) (tC (.str z)))) A (tNext)) rest D σ H := seq (r_ifT (pb_is (pb_eqS h3) (decide_eq_true rfl)) hA)
/-- the word is met: a number is drawn; 1 or not -/
theorem tkA {z : Str} {m : Int} {b : Addr} {l : List Int} {A rest : TS} {D : Ends} {σ : L2.St} {H : Hp} (h0 : σ[0]? = some (some (.ref b))) (h3 : σ[3]? = some (some (.str z))) (hb : H b = some (.lst (l.map V.int))) (m0 : 0 < m) (m1 : m ≤ 2000000)
    (hA : ∀ (l1 : List Int) (H1 : Hp), H1 b = some (.lst (l1.map V.int)) → Kp (Bx b) H H1 → A { D with nx := rest D } σ H1) (hB : ∀ (l1 : List Int) (H1 : Hp), H1 b = some (.lst (l1.map V.int)) → Kp (Bx b) H H1 → rest D σ H1) :
    tSeq (tIfS (tAnd (tTest (tOp rEq (tVar 3) (tC (.str z)))) (tTest (tOp rEq (tCall spTake [] E0 (tCons (tVar 0) (tCons (tC (.int m)) (tNil)))) (tC (.int 1))))) A (tNext)) rest D σ H :=
  seq (pb_eqS h3 _ (ifT (decide_eq_true rfl) ⟨_, h0, b, l, m, rfl, hb, m0, m1, fun x l1 H1 _ _ hb1 kp1 => ⟨rfl, _, rfl, ifB (fun _ => hA l1 H1 hb1 kp1) (fun _ => hB l1 H1 hb1 kp1)⟩⟩))
theorem rd_law_wild {n : Nat} (vs : List V) (H : Hp) (Q : VK) (E : XK) (hh : spWild K (n + 1) vs H Q E) : t_law_wild K spTake (spWild K n) { nx := fun _ H' => Q .non H', rt := Q } (start ["_law_box", "_law_one", "_law_shape", "_law_word", "_law_parts", "_law_k", "_law_part_here", "_law_yes", "_law_inner", "_law_handlers", "_law_handler_here", "_law_kind"] vs) H := by
  obtain ⟨b, sh, v, l, s, cs, nk, rfl, hb, shA, tv, hd, hz, q⟩ := hh.ex
  have fin : ∀ (l1 : List Int) (H1 : Hp), H1 b = some (.lst (l1.map V.int)) → Kp (Bx b) H H1 → Q v H1 := fun l1 H1 hb1 kp1 => q v s l1 H1 ⟨hd, Nat.le_refl _⟩ (tv.mono (kp1.tk1 hb)) hb1 kp1
  have sub : ∀ {H1 : Hp} {l1 : List Int} {x : V} {w : Sm} {Q' : VK}, H1 b = some (.lst (l1.map V.int)) → Kp (Bx b) H H1 → Tp K H1 x w.d → w.dep ≤ n → w.siz ≤ 3000 → Drawn K b H1 Q' Sm.d (fun s' => s'.dep ≤ n ∧ s'.siz ≤ w.siz) → spWild K n [.ref b, x, .ref sh] H1 Q' E0 :=
    fun hb1 kp1 tx dx zx dr => ⟨b, sh, _, _, _, cs, nk, rfl, hb1, shA.mono kp1, tx, dx, zx, dr⟩
  cases s with
  | set k x =>
    obtain ⟨a, x0, x1, x2, rfl, hT, t0, t1, t2⟩ := (show Tp K H v (.tuple [.str "set", .int (k : Int), x.d]) from tv).tup3
    cases t0.strE
    refine seq (rd_ixT (j := 0) rfl hT rfl (gn ?_))
    dsimp only
    show tSeq _ _ _ [some (V.ref b), some (.ref a), some (.ref sh), some (.str "set"), none, none, none, none, none, none, none, none] _
    exact skA rfl (by decide) (skA rfl (by decide) (skA rfl (by decide) (skW rfl (by decide) (skW rfl (by decide) (skW rfl (by decide) (skW rfl (by decide) (skW rfl (by decide) ⟨_, rfl, fin l H hb (Kp.refl _ _)⟩)))))))
  | ret x =>
    obtain ⟨a, x0, x1, rfl, hT, t0, t1⟩ := (show Tp K H v (.tuple [.str "return", x.d]) from tv).tup2
    cases t0.strE
    refine seq (rd_ixT (j := 0) rfl hT rfl (gn ?_))
    dsimp only
    show tSeq _ _ _ [some (V.ref b), some (.ref a), some (.ref sh), some (.str "return"), none, none, none, none, none, none, none, none] _
    exact skA rfl (by decide) (skA rfl (by decide) (skA rfl (by decide) (skW rfl (by decide) (skW rfl (by decide) (skW rfl (by decide) (skW rfl (by decide) (skW rfl (by decide) ⟨_, rfl, fin l H hb (Kp.refl _ _)⟩)))))))
  | brk =>
    obtain ⟨a, x0, rfl, hT, t0⟩ := (show Tp K H v (.tuple [.str "break"]) from tv).tup1
    cases t0.strE
    refine seq (rd_ixT (j := 0) rfl hT rfl (gn ?_))
    dsimp only
    show tSeq _ _ _ [some (V.ref b), some (.ref a), some (.ref sh), some (.str "break"), none, none, none, none, none, none, none, none] _
    exact skA rfl (by decide) (skA rfl (by decide) (skA rfl (by decide) (skW rfl (by decide) (skW rfl (by decide) (skW rfl (by decide) (skW rfl (by decide) (skW rfl (by decide) ⟨_, rfl, fin l H hb (Kp.refl _ _)⟩)))))))
  | cnt =>
    obtain ⟨a, x0, rfl, hT, t0⟩ := (show Tp K H v (.tuple [.str "continue"]) from tv).tup1
    cases t0.strE
    refine seq (rd_ixT (j := 0) rfl hT rfl (gn ?_))
    dsimp only
    show tSeq _ _ _ [some (V.ref b), some (.ref a), some (.ref sh), some (.str "continue"), none, none, none, none, none, none, none, none] _
    exact skA rfl (by decide) (skA rfl (by decide) (skA rfl (by decide) (skW rfl (by decide) (skW rfl (by decide) (skW rfl (by decide) (skW rfl (by decide) (skW rfl (by decide) ⟨_, rfl, fin l H hb (Kp.refl _ _)⟩)))))))
  | again =>
    obtain ⟨a, x0, rfl, hT, t0⟩ := (show Tp K H v (.tuple [.str "again"]) from tv).tup1
    cases t0.strE
    refine seq (rd_ixT (j := 0) rfl hT rfl (gn ?_))
    dsimp only
    show tSeq _ _ _ [some (V.ref b), some (.ref a), some (.ref sh), some (.str "again"), none, none, none, none, none, none, none, none] _
    exact skA rfl (by decide) (skA rfl (by decide) (skA rfl (by decide) (skW rfl (by decide) (skW rfl (by decide) (skW rfl (by decide) (skW rfl (by decide) (skW rfl (by decide) ⟨_, rfl, fin l H hb (Kp.refl _ _)⟩)))))))
  | say x =>
    obtain ⟨a, x0, x1, rfl, hT, t0, t1⟩ := (show Tp K H v (.tuple [.str "say", x.d]) from tv).tup2
    cases t0.strE
    refine seq (rd_ixT (j := 0) rfl hT rfl (gn ?_))
    dsimp only
    show tSeq _ _ _ [some (V.ref b), some (.ref a), some (.ref sh), some (.str "say"), none, none, none, none, none, none, none, none] _
    refine tkA rfl rfl hb (by decide) (by decide) (fun l1 H1 hb1 kp1 => ?_) (fun l1 H1 hb1 kp1 => skA rfl (by decide) (skA rfl (by decide) (skW rfl (by decide) (skW rfl (by decide) (skW rfl (by decide) (skW rfl (by decide) (skW rfl (by decide) ⟨_, rfl, fin l1 H1 hb1 kp1⟩)))))))
    refine ⟨(by show 1 ≤ sizeLine; decide), fun p1 hp1 => ⟨(by show 1 ≤ sizeLine; decide), fun p2 hp2 => ⟨(by show 1 ≤ sizeLine; decide), fun p3 hp3 => ⟨(by show 3 ≤ sizeLine; decide), fun pl hpl => ?_⟩⟩⟩⟩
    have e1 : Tp K (L2.upd H1 p1 (.tup [V.str "break"])) (.ref p1) (.tuple [.str "break"]) := Tp.mk hp1 (.cons (.str _) .nil)
    have k1 : Kp (Bx b) H (L2.upd H1 p1 (.tup [V.str "break"])) := kp1.trans (Kp.new hp1)
    have b1 := box_new (o := .tup [V.str "break"]) hb1 hp1
    generalize L2.upd H1 p1 (.tup [V.str "break"]) = H2 at e1 k1 b1 hp2 hp3 hpl ⊢
    have e2 : Tp K (L2.upd H2 p2 (.tup [V.str "continue"])) (.ref p2) (.tuple [.str "continue"]) := Tp.mk hp2 (.cons (.str _) .nil)
    have e1 := e1.mono (Tk.new (o := .tup [V.str "continue"]) hp2)
    have k2 : Kp (Bx b) H (L2.upd H2 p2 (.tup [V.str "continue"])) := k1.trans (Kp.new hp2)
    have b2 := box_new (o := .tup [V.str "continue"]) b1 hp2
    generalize L2.upd H2 p2 (.tup [V.str "continue"]) = H3 at e1 e2 k2 b2 hp3 hpl ⊢
    have e3 : Tp K (L2.upd H3 p3 (.tup [V.str "again"])) (.ref p3) (.tuple [.str "again"]) := Tp.mk hp3 (.cons (.str _) .nil)
    have e1 := e1.mono (Tk.new (o := .tup [V.str "again"]) hp3)
    have e2 := e2.mono (Tk.new (o := .tup [V.str "again"]) hp3)
    have k3 : Kp (Bx b) H (L2.upd H3 p3 (.tup [V.str "again"])) := k2.trans (Kp.new hp3)
    have b3 := box_new (o := .tup [V.str "again"]) b2 hp3
    generalize L2.upd H3 p3 (.tup [V.str "again"]) = H4 at e1 e2 e3 k3 b3 hpl ⊢
    have plb : pl ≠ b := fun e => by rw [e, b3] at hpl; cases hpl
    have e1 := e1.mono (Tk.new (o := .lst [V.ref p1, .ref p2, .ref p3]) hpl)
    have e2 := e2.mono (Tk.new (o := .lst [V.ref p1, .ref p2, .ref p3]) hpl)
    have e3 := e3.mono (Tk.new (o := .lst [V.ref p1, .ref p2, .ref p3]) hpl)
    have k4 : Kp (Bx b) H (L2.upd H4 pl (.lst [V.ref p1, .ref p2, .ref p3])) := k3.trans (Kp.new hpl)
    have b4 := box_new (o := .lst [V.ref p1, .ref p2, .ref p3]) b3 hpl
    have h4 : L2.upd H4 pl (.lst [V.ref p1, .ref p2, .ref p3]) pl = some (.lst [V.ref p1, .ref p2, .ref p3]) := upd_same
    generalize L2.upd H4 pl (.lst [V.ref p1, .ref p2, .ref p3]) = H5 at e1 e2 e3 k4 b4 h4 ⊢
    refine ⟨_, rfl, b, l1, 3, rfl, b4, by decide, by decide, fun y l2 H6 y0 y1 hb6 kp6 => ?_⟩
    have h6 := SqL.of (K := K) (kp6 _ _ h4 plb)
    have tk6 := kp6.tk1 b4
    have g1 : ∀ {s' : Sm}, s'.dep = 1 → s'.siz = 1 → s'.dep ≤ n + 1 ∧ s'.siz ≤ (Sm.say x).siz := fun h1 h2 => ⟨by omega, by rw [h2]; exact Nat.le_refl 1⟩
    rcases (by omega : y = 0 ∨ y = 1 ∨ y = 2) with rfl | rfl | rfl
    · exact ⟨pl, _, ((0 : Nat) : Int), .ref p1, rfl, rfl, h6, atI_nat rfl, q _ .brk l2 H6 (g1 rfl rfl) (e1.mono tk6) hb6 (k4.trans kp6)⟩
    · exact ⟨pl, _, ((1 : Nat) : Int), .ref p2, rfl, rfl, h6, atI_nat rfl, q _ .cnt l2 H6 (g1 rfl rfl) (e2.mono tk6) hb6 (k4.trans kp6)⟩
    · exact ⟨pl, _, ((2 : Nat) : Int), .ref p3, rfl, rfl, h6, atI_nat rfl, q _ .again l2 H6 (g1 rfl rfl) (e3.mono tk6) hb6 (k4.trans kp6)⟩
  | rais kd x m =>
    obtain ⟨a, x0, x1, x2, x3, rfl, hT, t0, t1, t2, t3⟩ := (show Tp K H v (.tuple [.str "raise", .int (kd : Int), x.d, .int m]) from tv).tup4
    cases t0.strE
    refine seq (rd_ixT (j := 0) rfl hT rfl (gn ?_))
    dsimp only
    show tSeq _ _ _ [some (V.ref b), some (.ref a), some (.ref sh), some (.str "raise"), none, none, none, none, none, none, none, none] _
    refine skA rfl (by decide) (tkA rfl rfl hb (by decide) (by decide) (fun l1 H1 hb1 kp1 => ?_) (fun l1 H1 hb1 kp1 => skA rfl (by decide) (skW rfl (by decide) (skW rfl (by decide) (skW rfl (by decide) (skW rfl (by decide) (skW rfl (by decide) ⟨_, rfl, fin l1 H1 hb1 kp1⟩)))))))
    have sh1 := shA.mono kp1
    obtain ⟨c, hsh, hc, cb⟩ := sh1.ex
    have n9 := shA.n9
    refine ⟨_, rfl, rd_ixL (j := 1) rfl (SqL.of hsh) rfl ⟨_, _, rfl, rfl, b, l1, _, rfl, hb1, by omega, by omega, fun y l2 H2 y0 y1 hb2 kp2 => ?_⟩⟩
    obtain ⟨kd', rfl⟩ : ∃ k : Nat, y = (k : Int) := ⟨y.toNat, by omega⟩
    have kp12 := kp1.trans kp2
    have tk2 := kp12.tk1 hb
    have hT2 := tk2.sqT hT
    exact rd_ixT (j := 2) rfl hT2 rfl (rd_ixT (j := 3) rfl hT2 rfl ⟨(by show 4 ≤ sizeLine; decide), Drawn.mk q (.rais kd' x m) ⟨by show 1 ≤ n + 1; omega, Nat.le_refl 1⟩ rfl (.cons (.str _) (.cons (.int _) (.cons (t2.mono tk2) (.cons (t3.mono tk2) .nil)))) hb2 kp12⟩)
  | call k f ps m =>
    obtain ⟨a, x0, x1, x2, x3, x4, rfl, hT, t0, t1, t2, t3, t4⟩ := (show Tp K H v (.tuple [.str "call", .int (k : Int), .int (f : Int), .tuple (ps.map Ex.d), .int m]) from tv).tup5
    cases t0.strE
    refine seq (rd_ixT (j := 0) rfl hT rfl (gn ?_))
    dsimp only
    show tSeq _ _ _ [some (V.ref b), some (.ref a), some (.ref sh), some (.str "call"), none, none, none, none, none, none, none, none] _
    refine skA rfl (by decide) (skA rfl (by decide) (tkA rfl rfl hb (by decide) (by decide) (fun l1 H1 hb1 kp1 => ?_) (fun l1 H1 hb1 kp1 => (skW rfl (by decide) (skW rfl (by decide) (skW rfl (by decide) (skW rfl (by decide) (skW rfl (by decide) ⟨_, rfl, fin l1 H1 hb1 kp1⟩))))))))
    refine seq ⟨_, rfl, b, l1, 4, rfl, hb1, by decide, by decide, fun y l2 H2 y0 y1 hb2 kp2 => ⟨_, rfl, by omega, by omega, fun D hD => ?_⟩⟩
    refine lc_draw (K := K) (l := l2) Ex.d (fun e => e = .num 0) _ ?hn hb2 hD ?hw ?_ ?_
    case hn => omega
    case hw => exact fun _ => rfl
    · intro i H4 l4 hi hb4 kp4 Q' dr
      exact ⟨(by show 2 ≤ sizeLine; decide), Drawn.mk dr (.num 0) rfl rfl (.cons (.str _) (.cons (.int _) .nil)) hb4 (Kp.refl _ _)⟩
    · intro items us l4 H4 hl hg hD4 ht hb4 kp4
      refine ⟨D, us, rfl, .inl ⟨SqL.of hD4, fun p hp => gn ?_⟩⟩
      dsimp only
      have kp5 := ((kp1.trans kp2).trans kp4).trans (Kp.new (o := .tup us) hp)
      have hb5 := box_new (o := .tup us) hb4 hp
      have tp5 : Tp K (L2.upd H4 p (.tup us)) (.ref p) (.tuple (items.map Ex.d)) := Tp.mk hp ht
      generalize L2.upd H4 p (.tup us) = H5 at kp5 hb5 tp5 ⊢
      show tRet _ _ [some (V.ref b), some (.ref a), some (.ref sh), some (.str "call"), some (.ref p), none, none, none, none, none, none, none] _
      have sh5 := shA.mono kp5
      obtain ⟨c, hsh, hc, cb⟩ := sh5.ex
      have c9 := shA.c9
      have hT5 := (kp5.tk1 hb).sqT hT
      refine rd_ixT (j := 1) rfl hT5 rfl ⟨_, rfl, rd_ixL (j := 0) rfl (SqL.of hsh) rfl ⟨c, _, rfl, .inl (SqL.of hc), _, _, rfl, rfl, b, l4, _, rfl, hb5, by omega, by rw [List.length_map]; omega, fun z l6 H6 z0 z1 hb6 kp6 => ?_⟩⟩
      obtain ⟨f', rfl⟩ : ∃ k : Nat, z = (k : Int) := ⟨z.toNat, by omega⟩
      have kp56 := kp5.trans kp6
      have tk6 := kp56.tk1 hb
      exact ⟨_, rfl, rd_ixT (j := 4) rfl (tk6.sqT hT) rfl ⟨(by show 5 ≤ sizeLine; decide), Drawn.mk q (.call k f' items m) ⟨by show 1 ≤ n + 1; omega, Nat.le_refl 1⟩ rfl (.cons (.str _) (.cons (t1.mono tk6) (.cons (.int _) (.cons (tp5.mono (kp6.tk1 hb5)) (.cons (t4.mono tk6) .nil))))) hb6 kp56⟩⟩
  | row ps =>
    obtain ⟨a, x0, x1, rfl, hT, t0, t1⟩ := (show Tp K H v (.tuple [.str "row", .tuple ps.ds]) from tv).tup2
    have hd : ps.dep + 1 ≤ n + 1 := hd
    have hz : ps.siz + 1 ≤ 3000 := hz
    obtain ⟨pa, xs, rfl, hR, tps⟩ := t1.tupE
    rw [toL_ds] at tps
    obtain ⟨wl, wi⟩ := toL_len ps
    have ez := siz_toL ps
    generalize toL ps = L at tps wl wi ez
    have lxs : xs.length = L.length := by rw [tps.length, List.length_map]
    cases t0.strE
    refine seq (rd_ixT (j := 0) rfl hT rfl (gn ?_))
    dsimp only
    show tSeq _ _ _ [some (V.ref b), some (.ref a), some (.ref sh), some (.str "row"), none, none, none, none, none, none, none, none] _
    refine skA rfl (by decide) (skA rfl (by decide) (skA rfl (by decide) (tkW rfl ?_)))
    refine rd_ixT (j := 1) rfl hT rfl ⟨pa, rfl, ⟨_, hR⟩, fun D hD => lc_tup (K := K) (a := pa) (xs := xs) (fun i H' => ∃ (items : List Sm) (vs : List V) (l' : List Int), items.length = i ∧ (∀ w ∈ items, w.dep ≤ n) ∧ sizL items ≤ sizL (L.take i) ∧ H' D = some (.lst vs) ∧ TpAll K H' vs (items.map Sm.d) ∧ H' b = some (.lst (l'.map V.int)) ∧ Kp (Bx b) H H')
      ⟨[], [], l, rfl, (by simp), Nat.le_refl _, upd_same, .nil, box_new hb hD, Kp.new hD⟩ (fun i H' _ ⟨_, _, _, _, _, _, _, _, _, kp⟩ => (kp.tk1 hb).sqT hR) ?_ ?_⟩
    · rintro i x H1 hx ⟨items, vs, l1, li, hg, sz, hv, tvs, hb1, kp1⟩
      have Db : D ≠ b := fun e => by rw [e, hb] at hD; cases hD
      obtain ⟨d, hdd, td⟩ := (tps.mono (kp1.tk1 hb)).get hx
      rw [List.getElem?_map] at hdd
      cases el : L[i]? with
      | none => rw [el] at hdd; cases hdd
      | some w =>
        rw [el] at hdd
        obtain rfl : w.d = d := Option.some.inj hdd
        obtain ⟨w1, w2⟩ := wi w (List.mem_of_getElem? el)
        have hi := (List.getElem?_eq_some_iff.mp el).1
        have et : L.take (i + 1) = L.take i ++ [w] := by rw [List.take_succ, el]; rfl
        refine ⟨rfl, _, rfl, _, rfl, _, rfl, sub hb1 kp1 td (by omega) (by omega) fun y w' l2 H2 gw ty hb2 kp2 => ?_⟩
        have hv2 := kp2 _ _ hv Db
        have lv := tvs.length
        rw [List.length_map] at lv
        refine ⟨vs, hv2, sz_lt1 (by omega), items ++ [w'], vs ++ [y], l2, by simp [li], ?_, ?_, upd_same, ?_, by rw [upd_ne Db.symm]; exact hb2, (kp1.trans kp2).late hD⟩
        · intro z hz
          rcases List.mem_append.mp hz with z1 | z1
          · exact hg z z1
          · have e : z = w' := by simpa using z1
            rw [e]; exact gw.1
        · rw [et, sizL_snoc, sizL_snoc]; have := gw.2; omega
        · rw [List.map_append]
          exact ((tvs.mono (kp2.tk1 hb1)).snoc ty).mono (Tk.lst hv2)
    · rintro H1 ⟨items, vs, l1, li, hg, sz, hv, tvs, hb1, kp1⟩
      rw [List.take_of_length_le (by omega)] at sz
      refine ⟨D, vs, rfl, .inl ⟨SqL.of hv, fun p hp => ⟨(by show 2 ≤ sizeLine; decide), ?_⟩⟩⟩
      refine Drawn.mk q (.row (Sms.ofL items)) ⟨?_, ?_⟩ rfl (.cons (.str _) (.cons (Tp.mk hp ?_) .nil)) (box_new hb1 hp) (kp1.trans (Kp.new hp))
      · show (Sms.ofL items).dep + 1 ≤ n + 1
        have := Sms.dep_ofL hg
        omega
      · show (Sms.ofL items).siz + 1 ≤ ps.siz + 1
        rw [siz_ofL]; omega
      · rw [Sms.ds_ofL]; exact tvs
  | ife x s t =>
    obtain ⟨a, x0, x1, x2, x3, rfl, hT, t0, t1, t2, t3⟩ := (show Tp K H v (.tuple [.str "if", x.d, s.d, t.d]) from tv).tup4
    have hd : max s.dep t.dep + 1 ≤ n + 1 := hd
    have hz : s.siz + t.siz + 1 ≤ 3000 := hz
    cases t0.strE
    refine seq (rd_ixT (j := 0) rfl hT rfl (gn ?_))
    dsimp only
    show tSeq _ _ _ [some (V.ref b), some (.ref a), some (.ref sh), some (.str "if"), none, none, none, none, none, none, none, none] _
    refine skA rfl (by decide) (skA rfl (by decide) (skA rfl (by decide) (skW rfl (by decide) (tkW rfl ?_))))
    refine seq ⟨_, rfl, rd_ixT (j := 2) rfl hT rfl ⟨_, rfl, sub hb (Kp.refl _ _) t2 (by omega) (by omega) fun y s' l1 H1 gs ty hb1 kp1 => gn ?_⟩⟩
    dsimp only
    show tRet _ _ [some (V.ref b), some (.ref a), some (.ref sh), some (.str "if"), none, none, none, some y, none, none, none, none] _
    have tk1 := kp1.tk1 hb
    have hT1 := tk1.sqT hT
    refine rd_ixT (j := 1) rfl hT1 rfl ⟨_, rfl, _, rfl, rd_ixT (j := 3) rfl hT1 rfl ⟨_, rfl, sub hb1 kp1 (t3.mono tk1) (by omega) (by omega) fun z t' l2 H2 gt tz hb2 kp2 => ⟨(by show 4 ≤ sizeLine; decide), ?_⟩⟩⟩
    have tk2 := kp2.tk1 hb1
    exact Drawn.mk q (.ife x s' t') ⟨by show max s'.dep t'.dep + 1 ≤ n + 1; have := gs.1; have := gt.1; omega, by show s'.siz + t'.siz + 1 ≤ s.siz + t.siz + 1; have := gs.2; have := gt.2; omega⟩ rfl (.cons (.str _) (.cons ((t1.mono tk1).mono tk2) (.cons (ty.mono tk2) (.cons tz .nil)))) hb2 (kp1.trans kp2)
  | whl x s =>
    obtain ⟨a, x0, x1, x2, rfl, hT, t0, t1, t2⟩ := (show Tp K H v (.tuple [.str "while", x.d, s.d]) from tv).tup3
    have hd : s.dep + 1 ≤ n + 1 := hd
    have hz : s.siz + 1 ≤ 3000 := hz
    cases t0.strE
    refine seq (rd_ixT (j := 0) rfl hT rfl (gn ?_))
    dsimp only
    show tSeq _ _ _ [some (V.ref b), some (.ref a), some (.ref sh), some (.str "while"), none, none, none, none, none, none, none, none] _
    refine skA rfl (by decide) (skA rfl (by decide) (skA rfl (by decide) (skW rfl (by decide) (skW rfl (by decide) (tkW rfl ?_)))))
    refine rd_ixT (j := 1) rfl hT rfl ⟨_, rfl, rd_ixT (j := 2) rfl hT rfl ⟨_, rfl, sub hb (Kp.refl _ _) t2 (by omega) (by omega) fun y s' l1 H1 gs ty hb1 kp1 => ⟨(by show 3 ≤ sizeLine; decide), ?_⟩⟩⟩
    exact Drawn.mk q (.whl x s') ⟨by show s'.dep + 1 ≤ n + 1; have := gs.1; omega, by show s'.siz + 1 ≤ s.siz + 1; have := gs.2; omega⟩ rfl (.cons (.str _) (.cons (t1.mono (kp1.tk1 hb)) (.cons ty .nil))) hb1 kp1
  | cln s t =>
    obtain ⟨a, x0, x1, x2, rfl, hT, t0, t1, t2⟩ := (show Tp K H v (.tuple [.str "clean", s.d, t.d]) from tv).tup3
    have hd : max s.dep t.dep + 1 ≤ n + 1 := hd
    have hz : s.siz + t.siz + 1 ≤ 3000 := hz
    cases t0.strE
    refine seq (rd_ixT (j := 0) rfl hT rfl (gn ?_))
    dsimp only
    show tSeq _ _ _ [some (V.ref b), some (.ref a), some (.ref sh), some (.str "clean"), none, none, none, none, none, none, none, none] _
    refine skA rfl (by decide) (skA rfl (by decide) (skA rfl (by decide) (skW rfl (by decide) (skW rfl (by decide) (skW rfl (by decide) (tkW rfl ?_))))))
    refine seq ⟨_, rfl, rd_ixT (j := 1) rfl hT rfl ⟨_, rfl, sub hb (Kp.refl _ _) t1 (by omega) (by omega) fun y s' l1 H1 gs ty hb1 kp1 => gn ?_⟩⟩
    dsimp only
    show tRet _ _ [some (V.ref b), some (.ref a), some (.ref sh), some (.str "clean"), none, none, none, none, some y, none, none, none] _
    have tk1 := kp1.tk1 hb
    have hT1 := tk1.sqT hT
    refine ⟨_, rfl, _, rfl, rd_ixT (j := 2) rfl hT1 rfl ⟨_, rfl, sub hb1 kp1 (t2.mono tk1) (by omega) (by omega) fun z t' l2 H2 gt tz hb2 kp2 => ⟨(by show 3 ≤ sizeLine; decide), ?_⟩⟩⟩
    have tk2 := kp2.tk1 hb1
    exact Drawn.mk q (.cln s' t') ⟨by show max s'.dep t'.dep + 1 ≤ n + 1; have := gs.1; have := gt.1; omega, by show s'.siz + t'.siz + 1 ≤ s.siz + t.siz + 1; have := gs.2; have := gt.2; omega⟩ rfl (.cons (.str _) (.cons (ty.mono tk2) (.cons tz .nil))) hb2 (kp1.trans kp2)
  | tri s hs =>
    obtain ⟨a, x0, x1, x2, rfl, hT, t0, t1, t2⟩ := (show Tp K H v (.tuple [.str "try", s.d, .tuple hs.ds]) from tv).tup3
    have hd : max s.dep hs.dep + 1 ≤ n + 1 := hd
    have hz : s.siz + hs.siz + 1 ≤ 3000 := hz
    obtain ⟨pa, xs, rfl, hR, tps⟩ := t2.tupE
    rw [toH_ds] at tps
    obtain ⟨wl, wi⟩ := toH_len hs
    have ez := siz_toH hs
    generalize toH hs = L at tps wl wi ez
    have lxs : xs.length = L.length := by rw [tps.length, List.length_map]
    cases t0.strE
    refine seq (rd_ixT (j := 0) rfl hT rfl (gn ?_))
    dsimp only
    show tSeq _ _ _ [some (V.ref b), some (.ref a), some (.ref sh), some (.str "try"), none, none, none, none, none, none, none, none] _
    refine skA rfl (by decide) (skA rfl (by decide) (skA rfl (by decide) (skW rfl (by decide) (skW rfl (by decide) (skW rfl (by decide) (skW rfl (by decide) (tkW rfl ?_)))))))
    refine seq ⟨_, rfl, rd_ixT (j := 1) rfl hT rfl ⟨_, rfl, sub hb (Kp.refl _ _) t1 (by omega) (by omega) fun y s' l1 H1 gs ty hb1 kp1 => gn ?_⟩⟩
    dsimp only
    show tSeq _ _ _ [some (V.ref b), some (.ref a), some (.ref sh), some (.str "try"), none, none, none, none, some y, none, none, none] _
    have tk1 := kp1.tk1 hb
    refine seq ⟨(by show 0 ≤ sizeLine; decide), fun F hF => gn ?_⟩
    dsimp only
    have Fb : F ≠ b := fun e => by rw [e, hb1] at hF; cases hF
    show tSeq _ _ _ [some (V.ref b), some (.ref a), some (.ref sh), some (.str "try"), none, none, none, none, some y, some (.ref F), none, none] _
    have kpF : Kp (Bx b) H1 (L2.upd H1 F (.lst [])) := Kp.new hF
    have hF2 : L2.upd H1 F (.lst []) F = some (.lst []) := upd_same
    have hb2 := box_new (o := .lst []) hb1 hF
    generalize L2.upd H1 F (.lst []) = H2 at kpF hF2 hb2 ⊢
    have tk2 := (kp1.trans kpF).tk1 hb
    refine seq (rd_ixT (j := 2) rfl (tk2.sqT hT) rfl ⟨pa, rfl, ⟨_, tk2.sqT hR⟩, for_tup (K := K) (a := pa) (xs := xs) (fun i σ' H' => ∃ (items : List (Option Nat × Nat × Sm)) (vs : List V) (l' : List Int) (v10 v11 : Option V), σ' = [some (V.ref b), some (.ref a), some (.ref sh), some (.str "try"), none, none, none, none, some y, some (.ref F), v10, v11] ∧ items.length = i ∧ (∀ h ∈ items, h.2.2.dep ≤ n) ∧ sizH items ≤ sizH (L.take i) ∧ H' F = some (.lst vs) ∧ TpAll K H' vs (items.map hdD) ∧ H' b = some (.lst (l'.map V.int)) ∧ Kp (Bx b) H1 H')
      ⟨[], [], l1, _, _, rfl, rfl, (by simp), Nat.le_refl _, hF2, .nil, hb2, kpF⟩ (fun i σ' H' _ ⟨_, _, _, _, _, _, _, _, _, _, _, _, kp⟩ => ((kp1.trans kp).tk1 hb).sqT hR) ?_ ?_⟩)
    · rintro i x σ' H3 hx ⟨items, vs, l3, v10, v11, rfl, li, hg, sz, hv, tvs, hb3, kp3⟩
      refine gn ?_
      have kp13 := kp1.trans kp3
      obtain ⟨d, hdd, td⟩ := (tps.mono (kp13.tk1 hb)).get hx
      rw [List.getElem?_map] at hdd
      cases el : L[i]? with
      | none => rw [el] at hdd; cases hdd
      | some h =>
        rw [el] at hdd
        obtain rfl : hdD h = d := Option.some.inj hdd
        obtain ⟨w1, w2⟩ := wi h (List.mem_of_getElem? el)
        have hi := (List.getElem?_eq_some_iff.mp el).1
        have et : L.take (i + 1) = L.take i ++ [h] := by rw [List.take_succ, el]; rfl
        obtain ⟨ga, y0, y1, y2, rfl, hG, z0, z1, z2⟩ := Tp.tup3 (show Tp K H3 x (.tuple [kindD h.1, .int (h.2.1 : Int), h.2.2.d]) from td)
        have ey : y0 = kindV h.1 := by
          obtain ⟨k, sl, w⟩ := h
          cases k with
          | none => exact z0.nonE
          | some j => exact z0.intE
        subst ey
        show tSeq _ _ _ [some (V.ref b), some (.ref a), some (.ref sh), some (.str "try"), none, none, none, none, some y, some (.ref F), some (.ref ga), v11] _
        refine seq (rd_ixT (j := 0) rfl hG rfl (gn ?_))
        dsimp only
        show tSeq _ _ _ [some (V.ref b), some (.ref a), some (.ref sh), some (.str "try"), none, none, none, none, some y, some (.ref F), some (.ref ga), some (kindV h.1)] _
        refine seqI (fun σ' H' => ∃ (k' : Option Nat) (l' : List Int), σ' = [some (V.ref b), some (.ref a), some (.ref sh), some (.str "try"), none, none, none, none, some y, some (.ref F), some (.ref ga), some (kindV k')] ∧ H' b = some (.lst (l'.map V.int)) ∧ Kp (Bx b) H3 H') (fun nx hnx => ?_) ?_
        · refine ⟨_, rfl, b, l3, 4, rfl, hb3, by decide, by decide, fun u l4 H4 u0 u1 hb4 kp4 => ⟨rfl, _, rfl, ifB (fun _ => ?_) (fun _ => ?_)⟩⟩
          · obtain ⟨c, hsh, hc, cb⟩ := (shA.mono (kp13.trans kp4)).ex
            exact rd_ixL (j := 1) rfl (SqL.of hsh) rfl (gn (hnx _ _ ⟨some nk, l4, rfl, hb4, kp4⟩))
          · exact hnx _ _ ⟨h.1, l4, rfl, hb4, kp4⟩
        · rintro _ H4 ⟨k', l4, rfl, hb4, kp4⟩
          have tk4 := kp4.tk1 hb3
          have hv4 := kp4 _ _ hv Fb
          refine ⟨_, rfl, .inl ⟨rfl, _, SqL.of hv4⟩, _, rfl, rd_ixT (j := 1) rfl (tk4.sqT hG) rfl ⟨_, rfl, rd_ixT (j := 2) rfl (tk4.sqT hG) rfl ⟨_, rfl, sub hb4 (kp13.trans kp4) (z2.mono tk4) (by omega) (by omega) fun u w' l5 H5 gw tu hb5 kp5 => ⟨(by show 3 ≤ sizeLine; decide), fun p hp => ?_⟩⟩⟩⟩
          have kp6 : Kp (Bx b) H5 (L2.upd H5 p (.tup [kindV k', y1, u])) := Kp.new hp
          have tk5 := kp5.tk1 hb4
          have tp6 : Tp K (L2.upd H5 p (.tup [kindV k', y1, u])) (.ref p) (hdD (k', h.2.1, w')) := Tp.mk hp (.cons (by cases k' with | none => exact .non | some j => exact .int _) (.cons ((z1.mono tk4).mono tk5) (.cons tu .nil)))
          have hb6 := box_new (o := .tup [kindV k', y1, u]) hb5 hp
          generalize L2.upd H5 p (.tup [kindV k', y1, u]) = H6 at kp6 tp6 hb6 ⊢
          have hv6 := kp6 _ _ (kp5 _ _ hv4 Fb) Fb
          have tk46 := ((kp4.trans kp5).trans kp6).tk1 hb3
          have lv := tvs.length
          rw [List.length_map] at lv
          refine ⟨F, vs, _, rfl, rfl, hv6, sz_lt1 (by omega), items ++ [(k', h.2.1, w')], vs ++ [.ref p], l5, _, _, rfl, by simp [li], ?_, ?_, upd_same, ?_, by rw [upd_ne Fb.symm]; exact hb6, (((kp3.trans kp4).trans kp5).trans kp6).late hF⟩
          · intro z hz
            rcases List.mem_append.mp hz with q1 | q1
            · exact hg z q1
            · have e : z = (k', h.2.1, w') := by simpa using q1
              rw [e]; exact gw.1
          · rw [et, sizH_snoc, sizH_snoc]
            have := gw.2
            show sizH items + w'.siz ≤ _
            omega
          · rw [List.map_append]
            exact ((tvs.mono tk46).snoc tp6).mono (Tk.lst hv6)
    · rintro σ' H3 ⟨items, vs, l3, v10, v11, rfl, li, hg, sz, hv, tvs, hb3, kp3⟩
      rw [List.take_of_length_le (by omega)] at sz
      refine ⟨_, rfl, _, rfl, F, vs, rfl, .inl ⟨SqL.of hv, fun p hp => ⟨(by show 3 ≤ sizeLine; decide), ?_⟩⟩⟩
      have ty3 := (ty.mono (kp3.tk1 hb1)).mono (Tk.new (o := .tup vs) hp)
      refine Drawn.mk q (.tri s' (Hds.ofL items)) ⟨?_, ?_⟩ rfl (.cons (.str _) (.cons ty3 (.cons (Tp.mk hp ?_) .nil))) (box_new hb3 hp) ((kp1.trans kp3).trans (Kp.new hp))
      · show max s'.dep (Hds.ofL items).dep + 1 ≤ n + 1
        have := Hds.dep_ofL hg
        have := gs.1
        omega
      · show s'.siz + (Hds.ofL items).siz + 1 ≤ s.siz + hs.siz + 1
        rw [siz_ofH]
        have := gs.2
        omega
      · rw [Hds.ds_ofL]; exact tvs
end
end K3
end Lp

namespace Lr
open PySem PySem.Spec PyProof.Rows L2 Lp
open K3
def topS (i : Nat) : Stmt := PySem.Challenge.pw_leaps_k03_looked_through.main.body.getD i (.Pass ⟨0, 0, 0, 0⟩)
def spLaw (K : PySem.W.Frag) : Sp := fun vs H Q _ => ∃ (a : Addr) (ns : List Int), vs = [.ref a] ∧ SqL K H a (ns.map V.int) ∧ ns.length ≤ 63 ∧ ∀ H', Q (.bl true) H'
def t_law (K : PySem.W.Frag) (sp_law_program : Sp) (sp_law_take : Sp) (sp_law_wild : Sp) (sp_law_first : Sp) (sp_law_wrong : Sp) (sp_law_refusal : Sp) : TS :=
  tSeq (tAsg (tCB (rLstOf K) (tCons (tVar 0) (tNil))) (gName 1)) (tSeq (tAsg (tCall sp_law_program [] E0 (tCons (tVar 1) (tNil))) (gName 2)) (tSeq (tAsg (tLst (tCons (tLc (iTup K (tOp (rIxT K) (tVar 2) (tC (.int 1)))) (gName 4) (tYes) (tOp (rIxT K) (tVar 4) (tC (.int 0))) [4]) (tCons (tCB (rLenQ K) (tCons (tOp (rIxT K) (tVar 2) (tC (.int 0))) (tNil))) (tNil)))) (gName 3)) (tSeq (tIfS (tTest (tOp rNe (tCall sp_law_take [] E0 (tCons (tVar 1) (tCons (tC (.int 4)) (tNil)))) (tC (.int 1)))) (tSeq (tAsg (tLc (iTup K (tOp (rIxT K) (tVar 2) (tC (.int 1)))) (gName 4) (tYes) (tTup (tCons (tOp (rIxT K) (tVar 4) (tC (.int 0))) (tCons (tCall sp_law_wild [] E0 (tCons (tVar 1) (tCons (tOp (rIxT K) (tVar 4) (tC (.int 1))) (tCons (tVar 3) (tNil))))) (tNil)))) [4]) (gName 5)) (tAsg (tTup (tCons (tOp (rIxT K) (tVar 2) (tC (.int 0))) (tCons (tCB (rTupOf K) (tCons (tVar 5) (tNil))) (tNil)))) (gName 2))) (tNext)) (tSeq (tAsg (tCall sp_law_first [] E0 (tCons (tLc (iTup K (tOp (rIxT K) (tVar 2) (tC (.int 1)))) (gName 4) (tYes) (tCall sp_law_wrong [] E0 (tCons (tOp (rIxT K) (tVar 4) (tC (.int 1))) (tCons (tVar 3) (tCons (tC (.bl false)) (tCons (tC (.bl false)) (tNil)))))) [4]) (tNil))) (gName 6)) (tSeq (tIfS (tTest (tOp rEq (tVar 6) (tC (.str "")))) (tAsg (tCB (rLenQ K) (tCons (tOp (rIxT K) (tVar 2) (tC (.int 1))) (tNil))) (gName 6)) (tNext)) (tSeq (tFor (iRng1 (tCons (tC (.int 2)) (tNil))) (gName 7) (tSeq (tAsg (tCall sp_law_refusal [] E0 (tCons (tVar 2) (tNil))) (gName 8)) (tIfS (tOr (tB (tCB (rIsi K) (tCons (tVar 8) (tCons (tC (.ty "bool")) (tNil))))) (tOr (tTest (tOp rNe (tCB (rIsi K) (tCons (tVar 8) (tCons (tC (.ty "int")) (tNil)))) (tCB (rIsi K) (tCons (tVar 6) (tCons (tC (.ty "int")) (tNil)))))) (tTest (tOp (rNeD K) (tVar 8) (tVar 6))))) (tRet (tC (.bl false))) (tNext)))) (tRet (tC (.bl true)))))))))

/-- what is due -/
def dueV (p : Pg) : V := match p.wrong with
  | none => .int ((p.funs.length : Nat) : Int)
  | some w => .str w.s
theorem rd_law {K : PySem.W.Frag} (vs : List V) (H : Hp) (Q : VK) (E : XK) (h : spLaw K vs H Q E) : t_law K (spProgram K) spTake (spWild K 5) (spFirst K) (spWrong K 5) (spRefu K 5) { nx := fun _ H' => Q .non H', rt := Q } (start ["_law_script", "_law_box", "_law_program_here", "_law_shape", "_law_function", "_law_functions", "_law_due", "_law_k", "_law_told"] vs) H := by
  obtain ⟨a, ns0, rfl, hS, hlen, q⟩ := h
  refine ⟨_, rfl, a, _, rfl, .inl hS, fun b hb => ?_⟩
  refine seq ⟨_, rfl, ⟨b, ns0, rfl, upd_same, fun v p l1 H1 ok tp hb1 kp1 => gn ?_⟩⟩
  dsimp only
  show tSeq _ _ _ [some (V.ref a), some (.ref b), some v, none, none, none, none, none, none] _
  obtain ⟨pa, kv, fv, rfl, hP, tk_, tf_⟩ := Tp.tup2 (show Tp K H1 v (.tuple [.tuple (p.kinds.map kindD), .tuple (p.funs.map funD)]) from tp)
  obtain ⟨fa, fxs, rfl, hF, tfs⟩ := tf_.tupE
  obtain ⟨ka, kxs, rfl, hK, tks⟩ := tk_.tupE
  have lfs : fxs.length = p.funs.length := by rw [tfs.length, List.length_map]
  have lks : kxs.length = p.kinds.length := by rw [tks.length, List.length_map]
  have lcs : p.cs.length = p.funs.length := by unfold Pg.cs; rw [List.length_map]
  have f0 := ok.wf.f0
  have f4 := ok.f4
  have k0 := ok.wf.k0
  have k4 := ok.k4
  have many : ∀ n ∈ p.cs, n ≤ 3 := fun n hn => by
    obtain ⟨f, hf, rfl⟩ := List.mem_map.mp hn
    exact ok.wf.many f hf
  have good0 : ∀ f ∈ p.funs, f.2.dep ≤ 5 ∧ f.2.siz ≤ 3000 := fun f hf => ⟨ok.small.dep f hf, by have := ok.wgt f hf; have := f.2.siz_le; omega⟩
  -- the shape
  refine seq (rd_ixT (j := 1) rfl hP rfl ⟨fa, rfl, ⟨_, hF⟩, fun D hD => lc_tup (K := K) (a := fa) (xs := fxs) (fun i H' => H' D = some (.lst ((p.cs.take i).map fun n : Nat => V.int (n : Int))) ∧ Same H1 H') ⟨upd_same, Same.new hD⟩ (fun i H' _ ⟨_, s⟩ => s.sqT hF) ?_ ?_⟩)
  · rintro i x H2 hx ⟨hv, s2⟩
    obtain ⟨d, hdd, td⟩ := (tfs.mono (Tk.same s2)).get hx
    rw [List.getElem?_map] at hdd
    cases el : p.funs[i]? with
    | none => rw [el] at hdd; cases hdd
    | some g =>
      rw [el] at hdd
      obtain rfl : funD g = d := Option.some.inj hdd
      obtain ⟨ga, y0, y1, rfl, hG, z0, z1⟩ := Tp.tup2 (show Tp K H2 x (.tuple [.int (g.1 : Int), g.2.d]) from td)
      cases z0.intE
      have ec : p.cs[i]? = some g.1 := by unfold Pg.cs; rw [List.getElem?_map, el]; rfl
      refine ⟨rfl, rd_ixT (i := 4) (j := 0) rfl hG rfl ⟨_, hv, ?_, ?_, fun b u e => by rw [upd_ne (ne_of_none e hD)]; exact s2 b u e⟩⟩
      · rw [List.length_map, List.length_take]; exact sz_lt1 (by omega)
      · rw [upd_same, List.take_succ, ec, List.map_append]; rfl
  rintro H2 ⟨hD2, s2⟩
  rw [List.take_of_length_le (by omega)] at hD2
  refine rd_ixT (j := 0) rfl (s2.sqT hP) rfl ⟨ka, kxs, rfl, .inr (s2.sqT hK), (by show 2 ≤ sizeLine; decide), fun sh hsh => gn ?_⟩
  rw [lks]
  dsimp only
  have kp2 : Kp (Bx b) H1 H2 := Kp.same s2
  have hb2 := s2 _ _ hb1
  have Db : D ≠ b := fun e => by rw [e, hb1] at hD; cases hD
  have shb : sh ≠ b := fun e => by rw [e, hb2] at hsh; cases hsh
  have hb3 := box_new (o := .lst [.ref D, .int (p.kinds.length : Nat)]) hb2 hsh
  have hD3 : L2.upd H2 sh (.lst [.ref D, .int (p.kinds.length : Nat)]) D = some (.lst (p.cs.map fun n : Nat => V.int (n : Int))) := by rw [upd_ne (ne_of_none hD2 hsh)]; exact hD2
  have s3 : Same H1 (L2.upd H2 sh (.lst [.ref D, .int (p.kinds.length : Nat)])) := s2.trans (Same.new hsh)
  have shA : ShAt (L2.upd H2 sh (.lst [.ref D, .int (p.kinds.length : Nat)])) b sh p.cs p.kinds.length := ⟨⟨D, upd_same, hD3, Db⟩, shb, k0, by omega, by omega, by omega, many⟩
  generalize L2.upd H2 sh (.lst [.ref D, .int (p.kinds.length : Nat)]) = H3 at hb3 s3 shA ⊢
  show tSeq _ _ _ [some (V.ref a), some (.ref b), some (.ref pa), some (.ref sh), none, none, none, none, none] _
  -- spoilt or not
  refine seqI (fun σ' H' => ∃ (v' : V) (p' : Pg) (v5 : Option V), σ' = [some (V.ref a), some (.ref b), some v', some (.ref sh), none, v5, none, none, none] ∧ Tp K H' v' p'.d ∧ p'.cs = p.cs ∧ p'.kinds.length = p.kinds.length ∧ (∀ f ∈ p'.funs, f.2.dep ≤ 5 ∧ f.2.siz ≤ 3000) ∧ ShAt H' b sh p.cs p.kinds.length) (fun nx hnx => ?_) ?_
  · refine ⟨_, rfl, b, l1, 4, rfl, hb3, by decide, by decide, fun x l4 H4 x0 x1 hb4 kp4 => ⟨rfl, _, rfl, ?_⟩⟩
    have kp14 : Kp (Bx b) H1 H4 := (Kp.same s3).trans kp4
    have tk14 := kp14.tk1 hb1
    have hP4 := tk14.sqT hP
    have hF4 := tk14.sqT hF
    have tfs4 := tfs.mono tk14
    have shA4 := shA.mono kp4
    refine ifB (fun _ => ?_) (fun _ => hnx _ _ ⟨_, p, _, rfl, tp.mono tk14, rfl, rfl, good0, shA4⟩)
    refine seq (rd_ixT (j := 1) rfl hP4 rfl ⟨fa, rfl, ⟨_, hF4⟩, fun D hD => lc_tup (K := K) (a := fa) (xs := fxs) (fun i H' => ∃ (fs : List (Nat × Sm)) (vs : List V) (l' : List Int), fs.map (·.1) = p.cs.take i ∧ (∀ f ∈ fs, f.2.dep ≤ 5 ∧ f.2.siz ≤ 3000) ∧ H' D = some (.lst vs) ∧ TpAll K H' vs (fs.map funD) ∧ H' b = some (.lst (l'.map V.int)) ∧ Kp (Bx b) H4 H')
      ⟨[], [], l4, rfl, (by simp), upd_same, .nil, box_new hb4 hD, Kp.new hD⟩ (fun i H' _ ⟨_, _, _, _, _, _, _, _, kp⟩ => (kp.tk1 hb4).sqT hF4) ?_ ?_⟩)
    · rintro i x H5 hx ⟨fs, vs, l5, hf1, hf2, hv, tvs, hb5, kp5⟩
      have Db : D ≠ b := fun e => by rw [e, hb4] at hD; cases hD
      obtain ⟨d, hdd, td⟩ := (tfs4.mono (kp5.tk1 hb4)).get hx
      rw [List.getElem?_map] at hdd
      cases el : p.funs[i]? with
      | none => rw [el] at hdd; cases hdd
      | some g =>
        rw [el] at hdd
        obtain rfl : funD g = d := Option.some.inj hdd
        obtain ⟨ga, y0, y1, rfl, hG, z0, z1⟩ := Tp.tup2 (show Tp K H5 x (.tuple [.int (g.1 : Int), g.2.d]) from td)
        have ec : p.cs[i]? = some g.1 := by unfold Pg.cs; rw [List.getElem?_map, el]; rfl
        obtain ⟨g1, g2⟩ := good0 g (List.mem_of_getElem? el)
        have lv := tvs.length
        have lf : fs.length = (p.cs.take i).length := by rw [← hf1, List.length_map]
        rw [List.length_map, lf, List.length_take] at lv
        refine ⟨rfl, rd_ixT (i := 4) (j := 0) rfl hG rfl ⟨_, rfl, rd_ixT (i := 4) (j := 1) rfl hG rfl ⟨_, rfl, ⟨b, sh, y1, l5, g.2, p.cs, p.kinds.length, rfl, hb5, shA4.mono kp5, z1, g1, g2, fun w s' l6 H6 gs tw hb6 kp6 => ⟨(by show 2 ≤ sizeLine; decide), fun r hr => ?_⟩⟩⟩⟩⟩
        have tk6 := kp6.tk1 hb5
        have tr : Tp K (L2.upd H6 r (.tup [y0, w])) (.ref r) (funD (g.1, s')) := Tp.mk hr (.cons (z0.mono tk6) (.cons tw .nil))
        have kp7 : Kp (Bx b) H6 (L2.upd H6 r (.tup [y0, w])) := Kp.new hr
        have hb7 := box_new (o := .tup [y0, w]) hb6 hr
        have hv7 := kp7 _ _ (kp6 _ _ hv Db) Db
        have tvs7 := (tvs.mono tk6).mono (kp7.tk1 hb6)
        generalize L2.upd H6 r (.tup [y0, w]) = H7 at tr kp7 hb7 hv7 tvs7 ⊢
        refine ⟨vs, hv7, sz_lt1 (by omega), fs ++ [(g.1, s')], vs ++ [.ref r], l6, ?_, ?_, upd_same, ?_, by rw [upd_ne Db.symm]; exact hb7, ((kp5.trans kp6).trans kp7).late hD⟩
        · rw [List.map_append, hf1, List.take_succ, ec]; rfl
        · intro f hf
          rcases List.mem_append.mp hf with z | z
          · exact hf2 f z
          · obtain rfl : f = (g.1, s') := by simpa using z
            exact ⟨gs.1, by have := gs.2; show s'.siz ≤ 3000; omega⟩
        · rw [List.map_append]
          exact (tvs7.snoc tr).mono (Tk.lst hv7)
    · rintro H5 ⟨fs, vs, l5, hf1, hf2, hv, tvs, hb5, kp5⟩
      rw [List.take_of_length_le (by omega)] at hf1
      refine gn ?_
      dsimp only
      have tk15 := (kp14.trans kp5).tk1 hb1
      refine rd_ixT (j := 0) rfl (tk15.sqT hP) rfl ⟨_, rfl, D, vs, rfl, .inl ⟨SqL.of hv, fun p1 hp1 => ⟨(by show 2 ≤ sizeLine; decide), fun p2 hp2 => gn (hnx _ _ ⟨.ref p2, ⟨p.kinds, fs⟩, _, rfl, ?_, hf1, rfl, hf2, ?_⟩)⟩⟩⟩
      · have t1 : Tp K (L2.upd H5 p1 (.tup vs)) (.ref p1) (.tuple (fs.map funD)) := Tp.mk hp1 tvs
        have t2 := ((tk_.mono tk15).mono (Tk.new (o := .tup vs) hp1))
        exact Tp.mk hp2 (.cons t2 (.cons t1 .nil))
      · exact ((shA4.mono kp5).mono (Kp.new hp1)).mono (Kp.new hp2)
  rintro _ H4 ⟨v', p', v5, rfl, tp4, ecs, eks, good, shA4⟩
  rw [← ecs, ← eks] at shA4
  clear ecs eks
  obtain ⟨cA, hsh4, hcA4, _⟩ := shA4.ex
  have shp : Shp H4 sh p'.cs p'.kinds.length := ⟨cA, hsh4, hcA4⟩
  obtain ⟨pa', kv', fv', rfl, hP4, tk4, tf4⟩ := Tp.tup2 (show Tp K H4 v' (.tuple [.tuple (p'.kinds.map kindD), .tuple (p'.funs.map funD)]) from tp4)
  obtain ⟨fa', fxs', rfl, hF4, tfs4⟩ := tf4.tupE
  have lfs4 : fxs'.length = p'.funs.length := by rw [tfs4.length, List.length_map]
  have c9 := shA4.c9
  have lcs4 : p'.cs.length = p'.funs.length := by unfold Pg.cs; rw [List.length_map]
  -- what is due
  refine seq (rd_ixT (j := 1) rfl hP4 rfl ⟨fa', rfl, ⟨_, hF4⟩, fun D hD => lc_strT (K := K) (xs := fxs') (ss := p'.funs.map fun f => wrS (f.2.wrong p'.cs p'.kinds.length false false)) hF4 (by rw [List.length_map]; exact lfs4) hD (by rw [List.length_map]; omega) (fun _ => rfl) ?_ ?_⟩)
  · intro i x z H5 hx hz s5 Q' q'
    rw [List.getElem?_map] at hz
    obtain ⟨d, hdd, td⟩ := (tfs4.mono (Tk.same s5)).get hx
    rw [List.getElem?_map] at hdd
    cases el : p'.funs[i]? with
    | none => rw [el] at hdd; cases hdd
    | some g =>
      rw [el] at hdd hz
      obtain rfl : funD g = d := Option.some.inj hdd
      obtain rfl : wrS (g.2.wrong p'.cs p'.kinds.length false false) = z := Option.some.inj hz
      obtain ⟨ga, y0, y1, rfl, hG, z0, z1⟩ := Tp.tup2 (show Tp K H5 x (.tuple [.int (g.1 : Int), g.2.d]) from td)
      obtain ⟨g1, g2⟩ := good g (List.mem_of_getElem? el)
      exact rd_ixT (i := 4) (j := 1) rfl hG rfl ⟨_, rfl, ⟨y1, sh, g.2, p'.cs, p'.kinds.length, false, false, rfl, z1, g1, g2, shp.same s5, q'⟩⟩
  intro H5 hD5 s5
  refine ⟨D, _, rfl, SqL.of hD5, gn ?_⟩
  rw [firstS_wr]
  dsimp only
  show tSeq _ _ _ [some (V.ref a), some (.ref b), some (.ref pa'), some (.ref sh), none, v5, some (.str (wrS p'.wrong)), none, none] _
  refine seqI (fun σ' H' => σ' = [some (V.ref a), some (.ref b), some (.ref pa'), some (.ref sh), none, v5, some (dueV p'), none, none] ∧ H5 = H') (fun nx hnx => ?_) ?_
  · cases hw : p'.wrong with
    | none =>
      refine r_ifT (pb_is (pb_eqS rfl) (decide_eq_true rfl)) ?_
      refine rd_ixT (j := 1) rfl (s5.sqT hP4) rfl ⟨fa', fxs', rfl, .inr (s5.sqT hF4), gn (hnx _ _ ⟨?_, rfl⟩)⟩
      have e : dueV p' = .int ((p'.funs.length : Nat) : Int) := by unfold dueV; rw [hw]
      rw [e, lfs4]; rfl
    | some w =>
      refine r_ifF (pb_is (pb_eqS rfl) (decide_eq_false fun e => by injection e with e; exact wrS_ne e)) ?_
      refine hnx _ _ ⟨?_, rfl⟩
      have e : dueV p' = .str w.s := by unfold dueV; rw [hw]
      rw [e]; rfl
  rintro _ _ ⟨rfl, rfl⟩
  have tp5 := tp4.mono (Tk.same s5)
  refine seq ⟨2, rfl, by decide, by decide, for_range (lo := 0) (n := (2 : Int).toNat) (fun i σ H' => ∃ (v7 v8 : Option V), σ = [some (V.ref a), some (.ref b), some (.ref pa'), some (.ref sh), none, v5, some (dueV p'), v7, v8] ∧ Same H5 H')
    ⟨_, _, rfl, Same.refl _⟩ ?_ ?_⟩
  · rintro i σ H6 hi ⟨v7, v8, rfl, s6⟩
    refine gn ?_
    dsimp only
    refine seq ⟨_, rfl, ⟨_, p', rfl, tp5.mono (Tk.same s6), fun f hf => (good f hf).1, fun hw H7 s7 => gn ?_, fun w hw H7 s7 => gn ?_⟩⟩
    · dsimp only
      have e : dueV p' = .int ((p'.funs.length : Nat) : Int) := by unfold dueV; rw [hw]
      rw [e]
      have p1 : PB (tB (tCB (rIsi K) (tCons (tVar 8) (tCons (tC (.ty "bool")) (tNil))))) [some (V.ref a), some (.ref b), some (.ref pa'), some (.ref sh), none, v5, some (.int ((p'.funs.length : Nat) : Int)), some (.int (0 + (i : Int))), some (.int ((p'.funs.length : Nat) : Int))] H7 false := fun Q' q' => rIs rfl (.base (.int _)) kit_ib ⟨_, rfl, q'⟩
      have p2 : PB (tTest (tOp rNe (tCB (rIsi K) (tCons (tVar 8) (tCons (tC (.ty "int")) (tNil)))) (tCB (rIsi K) (tCons (tVar 6) (tCons (tC (.ty "int")) (tNil)))))) [some (V.ref a), some (.ref b), some (.ref pa'), some (.ref sh), none, v5, some (.int ((p'.funs.length : Nat) : Int)), some (.int (0 + (i : Int))), some (.int ((p'.funs.length : Nat) : Int))] H7 false := fun Q' q' => rIs rfl (.base (.int _)) kit_ii (rIs rfl (.base (.int _)) kit_ii ⟨rfl, _, rfl, q'⟩)
      have p3 : PB (tTest (tOp (rNeD K) (tVar 8) (tVar 6))) [some (V.ref a), some (.ref b), some (.ref pa'), some (.ref sh), none, v5, some (.int ((p'.funs.length : Nat) : Int)), some (.int (0 + (i : Int))), some (.int ((p'.funs.length : Nat) : Int))] H7 (!PyData.eqv (.int ((p'.funs.length : Nat) : Int)) (.int ((p'.funs.length : Nat) : Int))) := fun Q' q' => ⟨_, rfl, _, rfl, .int _, .int _, .int _, .int _, rfl, rfl, _, rfl, q'⟩
      rw [SeqAt.eqv_refl _ (SeqAt.canLay_of_shaped rfl)] at p3
      exact r_ifF (pb_or p1 (pb_or p2 p3)) ⟨_, _, rfl, s6.trans s7⟩
    · dsimp only
      have e : dueV p' = .str w.s := by unfold dueV; rw [hw]
      rw [e]
      have sw : SeqAt.shaped (PyData.str w.s) = true := by cases w <;> first | rfl | decide +kernel
      have p1 : PB (tB (tCB (rIsi K) (tCons (tVar 8) (tCons (tC (.ty "bool")) (tNil))))) [some (V.ref a), some (.ref b), some (.ref pa'), some (.ref sh), none, v5, some (.str w.s), some (.int (0 + (i : Int))), some (.str w.s)] H7 false := fun Q' q' => rIs rfl (.base (.str _)) kit_sb ⟨_, rfl, q'⟩
      have p2 : PB (tTest (tOp rNe (tCB (rIsi K) (tCons (tVar 8) (tCons (tC (.ty "int")) (tNil)))) (tCB (rIsi K) (tCons (tVar 6) (tCons (tC (.ty "int")) (tNil)))))) [some (V.ref a), some (.ref b), some (.ref pa'), some (.ref sh), none, v5, some (.str w.s), some (.int (0 + (i : Int))), some (.str w.s)] H7 false := fun Q' q' => rIs rfl (.base (.str _)) kit_si (rIs rfl (.base (.str _)) kit_si ⟨rfl, _, rfl, q'⟩)
      have p3 : PB (tTest (tOp (rNeD K) (tVar 8) (tVar 6))) [some (V.ref a), some (.ref b), some (.ref pa'), some (.ref sh), none, v5, some (.str w.s), some (.int (0 + (i : Int))), some (.str w.s)] H7 (!PyData.eqv (.str w.s) (.str w.s)) := fun Q' q' => ⟨_, rfl, _, rfl, .str _, .str _, .str _, .str _, sw, sw, _, rfl, q'⟩
      rw [SeqAt.eqv_refl _ (SeqAt.canLay_of_shaped sw)] at p3
      exact r_ifF (pb_or p1 (pb_or p2 p3)) ⟨_, _, rfl, s6.trans s7⟩
  · rintro σ H6 ⟨v7, v8, rfl, s6⟩
    exact q _
section
variable {P : Program} {w : World} {K : PySem.W.Frag} {mg : Str → Option Value} {base : Heap} {k : Nat}
abbrev s_Looker_init : Stmt := inClass (topS 7) 0
abbrev N_Looker_init : List Str := ["self", "program"]
theorem sc_Looker_init : FnScope N_Looker_init ["self", "program"] (defScope s_Looker_init) := ⟨rfl, rfl, rfl, by decide +kernel, rfl, by decide +kernel, by decide +kernel⟩
theorem ok_Looker_init  {f : Addr} {fd : FuncData} (D : FunD K "__init__" "Looker.__init__" (defArgs s_Looker_init) (defBody s_Looker_init) (defScope s_Looker_init) [] [] f fd)  {sp : Sp}
    (len : ∀ vs H Q E, sp vs H Q E → vs.length = 2)
    (rd : ∀ vs H Q E, sp vs H Q E → t_Looker_init K { nx := fun _ H' => Q .non H', rt := Q } (start N_Looker_init vs) H) : FnOk P w K mg base CX0 (k + 1) f fd ["self", "program"] sp := by
  refine D.ok sc_Looker_init len (fun cdv A outer s H vs Q E hr h => ⟨t_Looker_init K, PSs.nox ?_, rd vs H Q E h⟩)
  · unfold t_Looker_init
    exact pss_cons (ps_fld (pv 0) (pe_ix ix_tup (pv 1) (pe_int) (fun _ _ => rfl)) (by rfl))
        (pss_one (ps_fld (pv 0) (pe_ix ix_tup (pv 1) (pe_int) (fun _ _ => rfl)) (by rfl)))

abbrev s_Looker_kind : Stmt := inClass (topS 7) 1
abbrev N_Looker_kind : List Str := ["self", "number"]
theorem sc_Looker_kind : FnScope N_Looker_kind ["self", "number"] (defScope s_Looker_kind) := ⟨rfl, rfl, rfl, by decide +kernel, rfl, by decide +kernel, by decide +kernel⟩
theorem ok_Looker_kind {C_Unknown : Addr} {f : Addr} {fd : FuncData} (D : FunD K "kind" "Looker.kind" (defArgs s_Looker_kind) (defBody s_Looker_kind) (defScope s_Looker_kind) [] [] f fd) (B_len : mg "len" = none) (U_Unknown : ExU K mg "Unknown" C_Unknown) {sp : Sp}
    (len : ∀ vs H Q E, sp vs H Q E → vs.length = 2)
    (rd : ∀ vs H Q E, sp vs H Q E → t_Looker_kind K C_Unknown E { nx := fun _ H' => Q .non H', rt := Q } (start N_Looker_kind vs) H) : FnOk P w K mg base (L2.CX P w) (k + 1) f fd ["self", "number"] sp := by
  refine D.ok sc_Looker_kind len (fun cdv A outer s H vs Q E hr h => ⟨t_Looker_kind K C_Unknown E, ?_, rd vs H Q E h⟩)
  · unfold t_Looker_kind
    exact pss_one (ps_if (PW.pt (pw_and (pt_cmpR op_notN (pv 1) (pe_non) (nomark _)) (pw_and1 (pt_cmpR op_ge (pv 1) (pe_callB call_len_seq (by rfl) B_len PySem.boot_len (pa_cons (pe_fld (pv 0) (by rfl)) (pa_nil))) (nomark _))))) (pss_one (ps_rz U_Unknown (takes_of rfl rfl rfl rfl))) (pss_nil))

abbrev s_Looker_call : Stmt := inClass (topS 7) 2
abbrev N_Looker_call : List Str := ["self", "one"]
theorem sc_Looker_call : FnScope N_Looker_call ["self", "one"] (defScope s_Looker_call) := ⟨rfl, rfl, rfl, by decide +kernel, rfl, by decide +kernel, by decide +kernel⟩
theorem ok_Looker_call {C_Unknown : Addr} {C_Uneven : Addr} {f : Addr} {fd : FuncData} (D : FunD K "call" "Looker.call" (defArgs s_Looker_call) (defBody s_Looker_call) (defScope s_Looker_call) [] [] f fd) (B_len : mg "len" = none) (U_Unknown : ExU K mg "Unknown" C_Unknown) (U_Uneven : ExU K mg "Uneven" C_Uneven) {sp : Sp}
    (len : ∀ vs H Q E, sp vs H Q E → vs.length = 2)
    (rd : ∀ vs H Q E, sp vs H Q E → t_Looker_call K C_Unknown C_Uneven E { nx := fun _ H' => Q .non H', rt := Q } (start N_Looker_call vs) H) : FnOk P w K mg base (L2.CX P w) (k + 1) f fd ["self", "one"] sp := by
  refine D.ok sc_Looker_call len (fun cdv A outer s H vs Q E hr h => ⟨t_Looker_call K C_Unknown C_Uneven E, ?_, rd vs H Q E h⟩)
  · unfold t_Looker_call
    exact pss_cons (ps_if (pt_cmpR op_ge (pe_ix ix_tup (pv 1) (pe_int) (fun _ _ => rfl)) (pe_callB call_len_seq (by rfl) B_len PySem.boot_len (pa_cons (pe_fld (pv 0) (by rfl)) (pa_nil))) (nomark _)) (pss_one (ps_rz U_Unknown (takes_of rfl rfl rfl rfl))) (pss_nil))
        (pss_one (ps_if (pt_cmpR op_ne (pe_callB call_len_seq (by rfl) B_len PySem.boot_len (pa_cons (pe_ix ix_tup (pv 1) (pe_int) (fun _ _ => rfl)) (pa_nil))) (pe_ix ix_tup (pe_ix ix_tup (pe_fld (pv 0) (by rfl)) (pe_ix ix_tup (pv 1) (pe_int) (fun _ _ => rfl)) (fun _ _ => rfl)) (pe_int) (fun _ _ => rfl)) (nomark _)) (pss_one (ps_rz U_Uneven (takes_of rfl rfl rfl rfl))) (pss_nil)))

abbrev s_Looker_tried : Stmt := inClass (topS 7) 3
abbrev N_Looker_tried : List Str := ["self", "one", "in_turn", "in_handler", "handler"]
theorem sc_Looker_tried : FnScope N_Looker_tried ["self", "one", "in_turn", "in_handler"] (defScope s_Looker_tried) := ⟨rfl, rfl, rfl, by decide +kernel, rfl, by decide +kernel, by decide +kernel⟩
theorem ok_Looker_tried {C_Looker : Addr} {sp_Looker_kind : Sp} {sp_Looker_look : Sp} {f : Addr} {fd : FuncData} (D : FunD K "tried" "Looker.tried" (defArgs s_Looker_tried) (defBody s_Looker_tried) (defScope s_Looker_tried) [] [] f fd) (c_Looker_kind : CalXM P w K mg base k C_Looker "kind" ["self", "number"] sp_Looker_kind) (c_Looker_look : CalXM P w K mg base k C_Looker "look" ["self", "one", "in_turn", "in_handler"] sp_Looker_look) {sp : Sp}
    (len : ∀ vs H Q E, sp vs H Q E → vs.length = 4)
    (rd : ∀ vs H Q E, sp vs H Q E → t_Looker_tried K C_Looker sp_Looker_kind sp_Looker_look E { nx := fun _ H' => Q .non H', rt := Q } (start N_Looker_tried vs) H) : FnOk P w K mg base (L2.CX P w) (k + 1) f fd ["self", "one", "in_turn", "in_handler"] sp := by
  refine D.ok sc_Looker_tried len (fun cdv A outer s H vs Q E hr h => ⟨t_Looker_tried K C_Looker sp_Looker_kind sp_Looker_look E, ?_, rd vs H Q E h⟩)
  · unfold t_Looker_tried
    exact pss_cons (ps_for (passes_of rfl) rfl (pi_tup (pe_ix ix_tup (pv 1) (pe_int) (fun _ _ => rfl))) (pg_name (i := 4) sc_Looker_tried.nd rfl (by first | exact Or.inl rfl | exact Or.inr rfl)) (pss_one (ps_expr (pmX c_Looker_kind hr (takes_of rfl rfl rfl rfl) (pv 0) (pa_cons (pe_ix ix_tup (pv 4) (pe_int) (fun _ _ => rfl)) (pa_nil))))))
        (pss_cons (ps_expr (pmX c_Looker_look hr (takes_of rfl rfl rfl rfl) (pv 0) (pa_cons (pe_ix ix_tup (pv 1) (pe_int) (fun _ _ => rfl)) (pa_cons (pv 2) (pa_cons (pv 3) (pa_nil))))))
        (pss_one (ps_for (passes_of rfl) rfl (pi_tup (pe_ix ix_tup (pv 1) (pe_int) (fun _ _ => rfl))) (pg_name (i := 4) sc_Looker_tried.nd rfl (by first | exact Or.inl rfl | exact Or.inr rfl)) (pss_one (ps_expr (pmX c_Looker_look hr (takes_of rfl rfl rfl rfl) (pv 0) (pa_cons (pe_ix ix_tup (pv 4) (pe_int) (fun _ _ => rfl)) (pa_cons (pv 2) (pa_cons (pe_bl) (pa_nil))))))))))

abbrev s_Looker_look : Stmt := inClass (topS 7) 4
abbrev N_Looker_look : List Str := ["self", "one", "in_turn", "in_handler", "word", "part"]
theorem sc_Looker_look : FnScope N_Looker_look ["self", "one", "in_turn", "in_handler"] (defScope s_Looker_look) := ⟨rfl, rfl, rfl, by decide +kernel, rfl, by decide +kernel, by decide +kernel⟩
theorem ok_Looker_look {C_Looker : Addr} {sp_Looker_look : Sp} {sp_Looker_tried : Sp} {sp_Looker_call : Sp} {sp_Looker_kind : Sp} {C_Stray : Addr} {f : Addr} {fd : FuncData} (D : FunD K "look" "Looker.look" (defArgs s_Looker_look) (defBody s_Looker_look) (defScope s_Looker_look) [] [] f fd) (c_Looker_look : CalXM P w K mg base k C_Looker "look" ["self", "one", "in_turn", "in_handler"] sp_Looker_look) (c_Looker_tried : CalXM P w K mg base k C_Looker "tried" ["self", "one", "in_turn", "in_handler"] sp_Looker_tried) (c_Looker_call : CalXM P w K mg base k C_Looker "call" ["self", "one"] sp_Looker_call) (c_Looker_kind : CalXM P w K mg base k C_Looker "kind" ["self", "number"] sp_Looker_kind) (U_Stray : ExU K mg "Stray" C_Stray) {sp : Sp}
    (len : ∀ vs H Q E, sp vs H Q E → vs.length = 4)
    (rd : ∀ vs H Q E, sp vs H Q E → t_Looker_look K C_Looker sp_Looker_look sp_Looker_tried sp_Looker_call sp_Looker_kind C_Stray E { nx := fun _ H' => Q .non H', rt := Q } (start N_Looker_look vs) H) : FnOk P w K mg base (L2.CX P w) (k + 1) f fd ["self", "one", "in_turn", "in_handler"] sp := by
  refine D.ok sc_Looker_look len (fun cdv A outer s H vs Q E hr h => ⟨t_Looker_look K C_Looker sp_Looker_look sp_Looker_tried sp_Looker_call sp_Looker_kind C_Stray E, ?_, rd vs H Q E h⟩)
  · unfold t_Looker_look
    exact pss_cons (ps_set (i := 4) sc_Looker_look.nd rfl (by first | exact Or.inl rfl | exact Or.inr rfl) (pe_ix ix_tup (pv 1) (pe_int) (fun _ _ => rfl)))
        (pss_one (ps_if (pt_cmpR op_eq (pv 4) (pe_str) (nomark _)) (pss_one (ps_for (passes_of rfl) rfl (pi_tup (pe_ix ix_tup (pv 1) (pe_int) (fun _ _ => rfl))) (pg_name (i := 5) sc_Looker_look.nd rfl (by first | exact Or.inl rfl | exact Or.inr rfl)) (pss_one (ps_expr (pmX c_Looker_look hr (takes_of rfl rfl rfl rfl) (pv 0) (pa_cons (pv 5) (pa_cons (pv 2) (pa_cons (pv 3) (pa_nil))))))))) (pss_one (ps_if (pt_cmpR op_eq (pv 4) (pe_str) (nomark _)) (pss_cons (ps_expr (pmX c_Looker_look hr (takes_of rfl rfl rfl rfl) (pv 0) (pa_cons (pe_ix ix_tup (pv 1) (pe_int) (fun _ _ => rfl)) (pa_cons (pv 2) (pa_cons (pv 3) (pa_nil))))))
        (pss_one (ps_expr (pmX c_Looker_look hr (takes_of rfl rfl rfl rfl) (pv 0) (pa_cons (pe_ix ix_tup (pv 1) (pe_int) (fun _ _ => rfl)) (pa_cons (pv 2) (pa_cons (pv 3) (pa_nil)))))))) (pss_one (ps_if (pt_cmpR op_eq (pv 4) (pe_str) (nomark _)) (pss_one (ps_expr (pmX c_Looker_look hr (takes_of rfl rfl rfl rfl) (pv 0) (pa_cons (pe_ix ix_tup (pv 1) (pe_int) (fun _ _ => rfl)) (pa_cons (pe_bl) (pa_cons (pv 3) (pa_nil))))))) (pss_one (ps_if (pt_cmpR op_eq (pv 4) (pe_str) (nomark _)) (pss_one (ps_expr (pmX c_Looker_tried hr (takes_of rfl rfl rfl rfl) (pv 0) (pa_cons (pv 1) (pa_cons (pv 2) (pa_cons (pv 3) (pa_nil))))))) (pss_one (ps_if (pt_cmpR op_eq (pv 4) (pe_str) (nomark _)) (pss_cons (ps_expr (pmX c_Looker_look hr (takes_of rfl rfl rfl rfl) (pv 0) (pa_cons (pe_ix ix_tup (pv 1) (pe_int) (fun _ _ => rfl)) (pa_cons (pv 2) (pa_cons (pv 3) (pa_nil))))))
        (pss_one (ps_expr (pmX c_Looker_look hr (takes_of rfl rfl rfl rfl) (pv 0) (pa_cons (pe_ix ix_tup (pv 1) (pe_int) (fun _ _ => rfl)) (pa_cons (pv 2) (pa_cons (pv 3) (pa_nil)))))))) (pss_one (ps_if (pt_cmpR op_eq (pv 4) (pe_str) (nomark _)) (pss_one (ps_expr (pmX c_Looker_call hr (takes_of rfl rfl rfl rfl) (pv 0) (pa_cons (pv 1) (pa_nil))))) (pss_one (ps_if (pt_cmpR op_eq (pv 4) (pe_str) (nomark _)) (pss_one (ps_expr (pmX c_Looker_kind hr (takes_of rfl rfl rfl rfl) (pv 0) (pa_cons (pe_ix ix_tup (pv 1) (pe_int) (fun _ _ => rfl)) (pa_nil))))) (pss_one (ps_if (PW.pt (pw_and (pt_cmpR op_in_seq (pv 4) (pe_tup (pa_cons (pe_str) (pa_cons (pe_str) (pa_nil)))) (by rfl)) (pw_and1 (pt_not (pt_val (pv 2)))))) (pss_one (ps_rz U_Stray (takes_of rfl rfl rfl rfl))) (pss_one (ps_if (PW.pt (pw_and (pt_cmpR op_eq (pv 4) (pe_str) (nomark _)) (pw_and1 (pt_not (pt_val (pv 3)))))) (pss_one (ps_rz U_Stray (takes_of rfl rfl rfl rfl))) (pss_nil)))))))))))))))))))

abbrev s_looked : Stmt := topS 8
abbrev N_looked : List Str := ["program", "looker", "function"]
theorem sc_looked : FnScope N_looked ["program"] (defScope s_looked) := ⟨rfl, rfl, rfl, by decide +kernel, rfl, by decide +kernel, by decide +kernel⟩
theorem ok_looked {C_Looker : Addr} {sp_Looker_init : Sp} {sp_Looker_look : Sp} {f : Addr} {fd : FuncData} (D : FunD K "looked" "looked" (defArgs s_looked) (defBody s_looked) (defScope s_looked) [] [] f fd) (c_Looker_init : CalC P w K mg base k "Looker" C_Looker ["self", "program"] sp_Looker_init) (c_Looker_look : CalXM P w K mg base k C_Looker "look" ["self", "one", "in_turn", "in_handler"] sp_Looker_look) (B_len : mg "len" = none) {sp : Sp}
    (len : ∀ vs H Q E, sp vs H Q E → vs.length = 1)
    (rd : ∀ vs H Q E, sp vs H Q E → t_looked K C_Looker sp_Looker_init sp_Looker_look E { nx := fun _ H' => Q .non H', rt := Q } (start N_looked vs) H) : FnOk P w K mg base (L2.CX P w) (k + 2) f fd ["program"] sp := by
  refine D.ok sc_looked len (fun cdv A outer s H vs Q E hr h => ⟨t_looked K C_Looker sp_Looker_init sp_Looker_look E, ?_, rd vs H Q E h⟩)
  · have hrm := hr; have hr : Room k _ := hr.mono (by omega)
    unfold t_looked
    exact pss_cons (ps_set (i := 1) sc_looked.nd rfl (by first | exact Or.inl rfl | exact Or.inr rfl) (pk c_Looker_init hrm (pa_cons (pv 0) (pa_nil))))
        (pss_cons (ps_for (passes_of rfl) rfl (pi_tup (pe_ix ix_tup (pv 0) (pe_int) (fun _ _ => rfl))) (pg_name (i := 2) sc_looked.nd rfl (by first | exact Or.inl rfl | exact Or.inr rfl)) (pss_one (ps_expr (pmX c_Looker_look hr (takes_of rfl rfl rfl rfl) (pv 1) (pa_cons (pe_ix ix_tup (pv 2) (pe_int) (fun _ _ => rfl)) (pa_cons (pe_bl) (pa_cons (pe_bl) (pa_nil))))))))
        (pss_one (ps_ret (pe_callB call_len_seq (by rfl) B_len PySem.boot_len (pa_cons (pe_ix ix_tup (pv 0) (pe_int) (fun _ _ => rfl)) (pa_nil))))))

abbrev s_law_take : Stmt := topS 10
abbrev N_law_take : List Str := ["_law_box", "_law_many", "_law_number"]
theorem sc_law_take : FnScope N_law_take ["_law_box", "_law_many"] (defScope s_law_take) := ⟨rfl, rfl, rfl, by decide +kernel, rfl, by decide +kernel, by decide +kernel⟩
theorem ok_law_take  {f : Addr} {fd : FuncData} (D : FunD K "_law_take" "_law_take" (defArgs s_law_take) (defBody s_law_take) (defScope s_law_take) [] [] f fd)  {sp : Sp}
    (len : ∀ vs H Q E, sp vs H Q E → vs.length = 2)
    (rd : ∀ vs H Q E, sp vs H Q E → t_law_take K { nx := fun _ H' => Q .non H', rt := Q } (start N_law_take vs) H) : FnOk P w K mg base CX0 (k + 1) f fd ["_law_box", "_law_many"] sp := by
  refine D.ok sc_law_take len (fun cdv A outer s H vs Q E hr h => ⟨t_law_take K, PSs.nox ?_, rd vs H Q E h⟩)
  · unfold t_law_take
    exact pss_cons (ps_if (pt_cmpR (op_eqD hr.units) (pv 0) (pe_lst (pa_nil)) (nomark _)) (pss_one (ps_ret (pe_int))) (pss_nil))
        (pss_cons (ps_set (i := 2) sc_law_take.nd rfl (by first | exact Or.inl rfl | exact Or.inr rfl) (pe_ix ix_list (pv 0) (pe_int) (fun _ _ => rfl)))
        (pss_cons (ps_asg (pe_op op_fdivW (pv 2) (pv 1)) (pg_sub (pv 0) (pe_int) set_list))
        (pss_cons (ps_if (PW.pt (pw_or (pt_cmpR op_eq (pe_ix ix_list (pv 0) (pe_int) (fun _ _ => rfl)) (pe_int) (nomark _)) (pw_or1 (pt_cmpR op_eq (pe_ix ix_list (pv 0) (pe_int) (fun _ _ => rfl)) (pe_un un_neg (pe_int)) (nomark _))))) (pss_one (ps_expr (pe_bm PySem.F.plainAttrs_list PySem.F.slot_list_pop PySem.F.type_list_pop mt_popAt (pv 0) (pa_cons (pe_int) (pa_nil))))) (pss_nil))
        (pss_one (ps_ret (pe_op op_mod (pv 2) (pv 1)))))))

abbrev s_law_part : Stmt := topS 11
abbrev N_law_part : List Str := ["_law_box", "_law_deep", "_law_kind", "_law_word", "_law_one"]
theorem sc_law_part : FnScope N_law_part ["_law_box", "_law_deep"] (defScope s_law_part) := ⟨rfl, rfl, rfl, by decide +kernel, rfl, by decide +kernel, by decide +kernel⟩
theorem ok_law_part {sp_law_take : Sp} {sp_law_part : Sp} {f : Addr} {fd : FuncData} (D : FunD K "_law_part" "_law_part" (defArgs s_law_part) (defBody s_law_part) (defScope s_law_part) [] [] f fd) (c_law_take : Cal P w K mg base k "_law_take" ["_law_box", "_law_many"] sp_law_take) (c_law_part : Cal P w K mg base k "_law_part" ["_law_box", "_law_deep"] sp_law_part) {sp : Sp}
    (len : ∀ vs H Q E, sp vs H Q E → vs.length = 2)
    (rd : ∀ vs H Q E, sp vs H Q E → t_law_part K sp_law_take sp_law_part { nx := fun _ H' => Q .non H', rt := Q } (start N_law_part vs) H) : FnOk P w K mg base CX0 (k + 1) f fd ["_law_box", "_law_deep"] sp := by
  refine D.ok sc_law_part len (fun cdv A outer s H vs Q E hr h => ⟨t_law_part K sp_law_take sp_law_part, PSs.nox ?_, rd vs H Q E h⟩)
  · unfold t_law_part
    exact pss_cons (ps_set (i := 2) sc_law_part.nd rfl (by first | exact Or.inl rfl | exact Or.inr rfl) (pc c_law_take hr (pa_cons (pv 0) (pa_cons (pe_int) (pa_nil)))))
        (pss_cons (ps_if (pt_cmpR op_lt (pv 2) (pe_int) (nomark _)) (pss_one (ps_ret (pe_tup (pa_cons (pe_str) (pa_cons (pc c_law_take hr (pa_cons (pv 0) (pa_cons (pe_int) (pa_nil)))) (pa_nil)))))) (pss_nil))
        (pss_cons (ps_if (PW.pt (pw_or (pt_cmpR op_eq (pv 1) (pe_int) (nomark _)) (pw_or1 (pt_cmpR op_eq (pv 2) (pe_int) (nomark _))))) (pss_one (ps_ret (pe_tup (pa_cons (pe_str) (pa_cons (pc c_law_take hr (pa_cons (pv 0) (pa_cons (pe_int) (pa_nil)))) (pa_nil)))))) (pss_nil))
        (pss_cons (ps_if (pt_cmpR op_lt (pv 2) (pe_int) (nomark _)) (pss_one (ps_ret (pe_tup (pa_cons (pe_str) (pa_cons (pc c_law_take hr (pa_cons (pv 0) (pa_cons (pe_int) (pa_nil)))) (pa_nil)))))) (pss_nil))
        (pss_cons (ps_set (i := 3) sc_law_part.nd rfl (by first | exact Or.inl rfl | exact Or.inr rfl) (pe_ix ix_list (pe_lst (pa_cons (pe_str) (pa_cons (pe_str) (pa_cons (pe_str) (pa_cons (pe_str) (pa_nil)))))) (pc c_law_take hr (pa_cons (pv 0) (pa_cons (pe_int) (pa_nil)))) (fun _ _ => rfl)))
        (pss_cons (ps_set (i := 4) sc_law_part.nd rfl (by first | exact Or.inl rfl | exact Or.inr rfl) (pc c_law_part hr (pa_cons (pv 0) (pa_cons (pe_op op_sub (pv 1) (pe_int)) (pa_nil)))))
        (pss_one (ps_ret (pe_tup (pa_cons (pv 3) (pa_cons (pv 4) (pa_cons (pc c_law_part hr (pa_cons (pv 0) (pa_cons (pe_op op_sub (pv 1) (pe_int)) (pa_nil)))) (pa_nil))))))))))))

abbrev s_law_kinds : Stmt := topS 12
abbrev N_law_kinds : List Str := ["_law_box", "_law_most", "_law_kinds_here", "_law_k", "_law_above_here"]
theorem sc_law_kinds : FnScope N_law_kinds ["_law_box", "_law_most"] (defScope s_law_kinds) := ⟨rfl, rfl, rfl, by decide +kernel, rfl, by decide +kernel, by decide +kernel⟩
theorem ok_law_kinds {sp_law_take : Sp} {f : Addr} {fd : FuncData} (D : FunD K "_law_kinds" "_law_kinds" (defArgs s_law_kinds) (defBody s_law_kinds) (defScope s_law_kinds) [] [] f fd) (B_range : mg "range" = none) (c_law_take : Cal P w K mg base k "_law_take" ["_law_box", "_law_many"] sp_law_take) (B_int : mg "int" = none) (B_tuple : mg "tuple" = none) {sp : Sp}
    (len : ∀ vs H Q E, sp vs H Q E → vs.length = 2)
    (rd : ∀ vs H Q E, sp vs H Q E → t_law_kinds K sp_law_take { nx := fun _ H' => Q .non H', rt := Q } (start N_law_kinds vs) H) : FnOk P w K mg base CX0 (k + 1) f fd ["_law_box", "_law_most"] sp := by
  refine D.ok sc_law_kinds len (fun cdv A outer s H vs Q E hr h => ⟨t_law_kinds K sp_law_take, PSs.nox ?_, rd vs H Q E h⟩)
  · unfold t_law_kinds
    exact pss_cons (ps_set (i := 2) sc_law_kinds.nd rfl (by first | exact Or.inl rfl | exact Or.inr rfl) (pe_lst (pa_nil)))
        (pss_cons (ps_for PassesOwn.never rfl (pi_range1 (by rfl) B_range (pa_cons (pe_op op_add (pe_int) (pc c_law_take hr (pa_cons (pv 0) (pa_cons (pv 1) (pa_nil))))) (pa_nil))) (pg_name (i := 3) sc_law_kinds.nd rfl (by first | exact Or.inl rfl | exact Or.inr rfl)) (pss_cons (ps_set (i := 4) sc_law_kinds.nd rfl (by first | exact Or.inl rfl | exact Or.inr rfl) (pc c_law_take hr (pa_cons (pv 0) (pa_cons (pe_op op_add (pv 3) (pe_int)) (pa_nil)))))
        (pss_one (ps_expr (pe_bm PySem.F.plainAttrs_list PySem.F.slot_list_append PySem.F.type_list_append mt_append (pv 2) (pa_cons (pe_ix ix_list (pe_lst (pa_cons (pe_non) (pa_cons (pe_op op_sub (pv 4) (pe_int)) (pa_nil)))) (pe_callTy call_int1 (by rfl) B_int (by decide +kernel) (pa_cons (pe_cmpR op_gt (pv 4) (pe_int) (nomark _)) (pa_nil))) (fun _ _ => rfl)) (pa_nil)))))))
        (pss_one (ps_ret (pe_callTy call_tuple_of (by rfl) B_tuple (by decide +kernel) (pa_cons (pv 2) (pa_nil))))))

abbrev s_law_call : Stmt := topS 14
abbrev N_law_call : List Str := ["_law_box", "_law_shape", "_law_number", "_law_slot", "_law_parts", "_law_k"]
theorem sc_law_call : FnScope N_law_call ["_law_box", "_law_shape"] (defScope s_law_call) := ⟨rfl, rfl, rfl, by decide +kernel, rfl, by decide +kernel, by decide +kernel⟩
theorem ok_law_call {sp_law_take : Sp} {sp_law_part : Sp} {f : Addr} {fd : FuncData} (D : FunD K "_law_call" "_law_call" (defArgs s_law_call) (defBody s_law_call) (defScope s_law_call) [] [] f fd) (c_law_take : Cal P w K mg base k "_law_take" ["_law_box", "_law_many"] sp_law_take) (B_len : mg "len" = none) (B_range : mg "range" = none) (c_law_part : Cal P w K mg base k "_law_part" ["_law_box", "_law_deep"] sp_law_part) (B_tuple : mg "tuple" = none) {sp : Sp}
    (len : ∀ vs H Q E, sp vs H Q E → vs.length = 2)
    (rd : ∀ vs H Q E, sp vs H Q E → t_law_call K sp_law_take sp_law_part { nx := fun _ H' => Q .non H', rt := Q } (start N_law_call vs) H) : FnOk P w K mg base CX0 (k + 1) f fd ["_law_box", "_law_shape"] sp := by
  refine D.ok sc_law_call len (fun cdv A outer s H vs Q E hr h => ⟨t_law_call K sp_law_take sp_law_part, PSs.nox ?_, rd vs H Q E h⟩)
  · unfold t_law_call
    exact pss_cons (ps_set (i := 2) sc_law_call.nd rfl (by first | exact Or.inl rfl | exact Or.inr rfl) (pc c_law_take hr (pa_cons (pv 0) (pa_cons (pe_callB call_len_seq (by rfl) B_len PySem.boot_len (pa_cons (pe_ix ix_list (pv 1) (pe_int) (fun _ _ => rfl)) (pa_nil))) (pa_nil)))))
        (pss_cons (ps_set (i := 3) sc_law_call.nd rfl (by first | exact Or.inl rfl | exact Or.inr rfl) (pc c_law_take hr (pa_cons (pv 0) (pa_cons (pe_int) (pa_nil)))))
        (pss_cons (by first | exact ps_setLc (i := 4) (own := [("_law_k", 5)]) (g := gName 5) rfl sc_law_call.nd rfl rfl (sw_true rfl rfl rfl (by decide +kernel)) (pi_range1 (by rfl) B_range (pa_cons (pe_ix ix_list (pe_ix ix_list (pv 1) (pe_int) (fun _ _ => rfl)) (pv 2) (fun _ _ => rfl)) (pa_nil))) (blkOk_by (own := [("_law_k", 5)]) (N := N_law_call) (sc := defScope s_law_call) (by decide +kernel)) (fun _ _ _ _ _ => pg_name (i := 5) sc_law_call.nd rfl (Or.inl rfl)) (fun _ _ _ _ _ => pts_nil) (fun _ _ _ _ _ => pc c_law_part hr (pa_cons (pv 0) (pa_cons (pe_int) (pa_nil)))) | exact ps_set (i := 4) sc_law_call.nd rfl (Or.inr rfl) (pe_lc (own := [("_law_k", 5)]) (g := gName 5) rfl sc_law_call.nd (pi_range1 (by rfl) B_range (pa_cons (pe_ix ix_list (pe_ix ix_list (pv 1) (pe_int) (fun _ _ => rfl)) (pv 2) (fun _ _ => rfl)) (pa_nil))) (blkOk_by (own := [("_law_k", 5)]) (N := N_law_call) (sc := defScope s_law_call) (by decide +kernel)) (fun _ _ _ _ _ => pg_name (i := 5) sc_law_call.nd rfl (Or.inl rfl)) (fun _ _ _ _ _ => pts_nil) (fun _ _ _ _ _ => pc c_law_part hr (pa_cons (pv 0) (pa_cons (pe_int) (pa_nil))))))
        (pss_one (ps_ret (pe_tup (pa_cons (pe_str) (pa_cons (pv 3) (pa_cons (pv 2) (pa_cons (pe_callTy call_tuple_of (by rfl) B_tuple (by decide +kernel) (pa_cons (pv 4) (pa_nil))) (pa_cons (pc c_law_take hr (pa_cons (pv 0) (pa_cons (pe_int) (pa_nil)))) (pa_nil)))))))))))

abbrev s_law_simple : Stmt := topS 15
abbrev N_law_simple : List Str := ["_law_box", "_law_shape", "_law_turn", "_law_handler_here", "_law_kind", "_law_number"]
theorem sc_law_simple : FnScope N_law_simple ["_law_box", "_law_shape", "_law_turn", "_law_handler_here"] (defScope s_law_simple) := ⟨rfl, rfl, rfl, by decide +kernel, rfl, by decide +kernel, by decide +kernel⟩
theorem ok_law_simple {sp_law_take : Sp} {sp_law_call : Sp} {sp_law_part : Sp} {f : Addr} {fd : FuncData} (D : FunD K "_law_simple" "_law_simple" (defArgs s_law_simple) (defBody s_law_simple) (defScope s_law_simple) [] [] f fd) (c_law_take : Cal P w K mg base k "_law_take" ["_law_box", "_law_many"] sp_law_take) (c_law_call : Cal P w K mg base k "_law_call" ["_law_box", "_law_shape"] sp_law_call) (c_law_part : Cal P w K mg base k "_law_part" ["_law_box", "_law_deep"] sp_law_part) {sp : Sp}
    (len : ∀ vs H Q E, sp vs H Q E → vs.length = 4)
    (rd : ∀ vs H Q E, sp vs H Q E → t_law_simple K sp_law_take sp_law_call sp_law_part { nx := fun _ H' => Q .non H', rt := Q } (start N_law_simple vs) H) : FnOk P w K mg base CX0 (k + 1) f fd ["_law_box", "_law_shape", "_law_turn", "_law_handler_here"] sp := by
  refine D.ok sc_law_simple len (fun cdv A outer s H vs Q E hr h => ⟨t_law_simple K sp_law_take sp_law_call sp_law_part, PSs.nox ?_, rd vs H Q E h⟩)
  · unfold t_law_simple
    exact pss_cons (ps_set (i := 4) sc_law_simple.nd rfl (by first | exact Or.inl rfl | exact Or.inr rfl) (pc c_law_take hr (pa_cons (pv 0) (pa_cons (pe_int) (pa_nil)))))
        (pss_cons (ps_if (PW.pt (pw_and (pt_cmpR op_eq (pv 4) (pe_int) (nomark _)) (pw_and1 (pt_val (pv 3))))) (pss_one (ps_ret (pe_tup (pa_cons (pe_str) (pa_nil))))) (pss_nil))
        (pss_cons (ps_if (PW.pt (pw_and (pt_cmpR op_eq (pv 4) (pe_int) (nomark _)) (pw_and1 (pt_val (pv 2))))) (pss_one (ps_ret (pe_tup (pa_cons (pe_ix ix_list (pe_lst (pa_cons (pe_str) (pa_cons (pe_str) (pa_nil)))) (pc c_law_take hr (pa_cons (pv 0) (pa_cons (pe_int) (pa_nil)))) (fun _ _ => rfl)) (pa_nil))))) (pss_nil))
        (pss_cons (ps_if (pt_cmpR op_eq (pv 4) (pe_int) (nomark _)) (pss_one (ps_ret (pc c_law_call hr (pa_cons (pv 0) (pa_cons (pv 1) (pa_nil)))))) (pss_nil))
        (pss_cons (ps_if (pt_cmpR op_eq (pv 4) (pe_int) (nomark _)) (pss_cons (ps_set (i := 5) sc_law_simple.nd rfl (by first | exact Or.inl rfl | exact Or.inr rfl) (pc c_law_part hr (pa_cons (pv 0) (pa_cons (pe_int) (pa_nil)))))
        (pss_one (ps_ret (pe_tup (pa_cons (pe_str) (pa_cons (pc c_law_take hr (pa_cons (pv 0) (pa_cons (pe_ix ix_list (pv 1) (pe_int) (fun _ _ => rfl)) (pa_nil)))) (pa_cons (pv 5) (pa_cons (pc c_law_take hr (pa_cons (pv 0) (pa_cons (pe_int) (pa_nil)))) (pa_nil))))))))) (pss_nil))
        (pss_cons (ps_if (pt_cmpR op_eq (pv 4) (pe_int) (nomark _)) (pss_one (ps_ret (pe_tup (pa_cons (pe_str) (pa_cons (pc c_law_part hr (pa_cons (pv 0) (pa_cons (pe_int) (pa_nil)))) (pa_nil)))))) (pss_nil))
        (pss_cons (ps_if (pt_cmpR op_eq (pv 4) (pe_int) (nomark _)) (pss_one (ps_ret (pe_tup (pa_cons (pe_str) (pa_cons (pe_tup (pa_nil)) (pa_nil)))))) (pss_nil))
        (pss_cons (ps_if (pt_cmpR op_eq (pv 4) (pe_int) (nomark _)) (pss_one (ps_ret (pe_tup (pa_cons (pe_str) (pa_cons (pc c_law_take hr (pa_cons (pv 0) (pa_cons (pe_int) (pa_nil)))) (pa_cons (pc c_law_part hr (pa_cons (pv 0) (pa_cons (pe_int) (pa_nil)))) (pa_nil))))))) (pss_nil))
        (pss_one (ps_ret (pe_tup (pa_cons (pe_str) (pa_cons (pc c_law_part hr (pa_cons (pv 0) (pa_cons (pe_int) (pa_nil)))) (pa_nil)))))))))))))

abbrev s_law_handler : Stmt := topS 16
abbrev N_law_handler : List Str := ["_law_box", "_law_shape", "_law_deep", "_law_turn", "_law_kind", "_law_slot"]
theorem sc_law_handler : FnScope N_law_handler ["_law_box", "_law_shape", "_law_deep", "_law_turn"] (defScope s_law_handler) := ⟨rfl, rfl, rfl, by decide +kernel, rfl, by decide +kernel, by decide +kernel⟩
theorem ok_law_handler {sp_law_take : Sp} {sp_law_statement : Sp} {f : Addr} {fd : FuncData} (D : FunD K "_law_handler" "_law_handler" (defArgs s_law_handler) (defBody s_law_handler) (defScope s_law_handler) [] [] f fd) (c_law_take : Cal P w K mg base k "_law_take" ["_law_box", "_law_many"] sp_law_take) (c_law_statement : Cal P w K mg base k "_law_statement" ["_law_box", "_law_shape", "_law_deep", "_law_turn", "_law_handler_here"] sp_law_statement) {sp : Sp}
    (len : ∀ vs H Q E, sp vs H Q E → vs.length = 4)
    (rd : ∀ vs H Q E, sp vs H Q E → t_law_handler K sp_law_take sp_law_statement { nx := fun _ H' => Q .non H', rt := Q } (start N_law_handler vs) H) : FnOk P w K mg base CX0 (k + 1) f fd ["_law_box", "_law_shape", "_law_deep", "_law_turn"] sp := by
  refine D.ok sc_law_handler len (fun cdv A outer s H vs Q E hr h => ⟨t_law_handler K sp_law_take sp_law_statement, PSs.nox ?_, rd vs H Q E h⟩)
  · unfold t_law_handler
    exact pss_cons (ps_set (i := 4) sc_law_handler.nd rfl (by first | exact Or.inl rfl | exact Or.inr rfl) (pc c_law_take hr (pa_cons (pv 0) (pa_cons (pe_op op_add (pe_ix ix_list (pv 1) (pe_int) (fun _ _ => rfl)) (pe_int)) (pa_nil)))))
        (pss_cons (ps_set (i := 5) sc_law_handler.nd rfl (by first | exact Or.inl rfl | exact Or.inr rfl) (pc c_law_take hr (pa_cons (pv 0) (pa_cons (pe_int) (pa_nil)))))
        (pss_cons (ps_if (pt_cmpR op_eq (pv 4) (pe_ix ix_list (pv 1) (pe_int) (fun _ _ => rfl)) (nomark _)) (pss_one (ps_set (i := 4) sc_law_handler.nd rfl (by first | exact Or.inl rfl | exact Or.inr rfl) (pe_non))) (pss_nil))
        (pss_one (ps_ret (pe_tup (pa_cons (pv 4) (pa_cons (pv 5) (pa_cons (pc c_law_statement hr (pa_cons (pv 0) (pa_cons (pv 1) (pa_cons (pv 2) (pa_cons (pv 3) (pa_cons (pe_bl) (pa_nil))))))) (pa_nil)))))))))

abbrev s_law_statement : Stmt := topS 17
abbrev N_law_statement : List Str := ["_law_box", "_law_shape", "_law_deep", "_law_turn", "_law_handler_here", "_law_kind", "_law_k", "_law_many", "_law_part_here", "_law_yes", "_law_inner"]
theorem sc_law_statement : FnScope N_law_statement ["_law_box", "_law_shape", "_law_deep", "_law_turn", "_law_handler_here"] (defScope s_law_statement) := ⟨rfl, rfl, rfl, by decide +kernel, rfl, by decide +kernel, by decide +kernel⟩
theorem ok_law_statement {sp_law_take : Sp} {sp_law_simple : Sp} {sp_law_statement : Sp} {sp_law_part : Sp} {sp_law_handler : Sp} {f : Addr} {fd : FuncData} (D : FunD K "_law_statement" "_law_statement" (defArgs s_law_statement) (defBody s_law_statement) (defScope s_law_statement) [] [] f fd) (c_law_take : Cal P w K mg base k "_law_take" ["_law_box", "_law_many"] sp_law_take) (c_law_simple : Cal P w K mg base k "_law_simple" ["_law_box", "_law_shape", "_law_turn", "_law_handler_here"] sp_law_simple) (B_tuple : mg "tuple" = none) (B_range : mg "range" = none) (c_law_statement : Cal P w K mg base k "_law_statement" ["_law_box", "_law_shape", "_law_deep", "_law_turn", "_law_handler_here"] sp_law_statement) (c_law_part : Cal P w K mg base k "_law_part" ["_law_box", "_law_deep"] sp_law_part) (c_law_handler : Cal P w K mg base k "_law_handler" ["_law_box", "_law_shape", "_law_deep", "_law_turn"] sp_law_handler) {sp : Sp}
    (len : ∀ vs H Q E, sp vs H Q E → vs.length = 5)
    (rd : ∀ vs H Q E, sp vs H Q E → t_law_statement K sp_law_take sp_law_simple sp_law_statement sp_law_part sp_law_handler { nx := fun _ H' => Q .non H', rt := Q } (start N_law_statement vs) H) : FnOk P w K mg base CX0 (k + 1) f fd ["_law_box", "_law_shape", "_law_deep", "_law_turn", "_law_handler_here"] sp := by
  refine D.ok sc_law_statement len (fun cdv A outer s H vs Q E hr h => ⟨t_law_statement K sp_law_take sp_law_simple sp_law_statement sp_law_part sp_law_handler, PSs.nox ?_, rd vs H Q E h⟩)
  · unfold t_law_statement
    exact pss_cons (ps_set (i := 5) sc_law_statement.nd rfl (by first | exact Or.inl rfl | exact Or.inr rfl) (pc c_law_take hr (pa_cons (pv 0) (pa_cons (pe_int) (pa_nil)))))
        (pss_cons (ps_if (PW.pt (pw_or (pt_cmpR op_eq (pv 2) (pe_int) (nomark _)) (pw_or1 (pt_cmpR op_lt (pv 5) (pe_int) (nomark _))))) (pss_one (ps_ret (pc c_law_simple hr (pa_cons (pv 0) (pa_cons (pv 1) (pa_cons (pv 3) (pa_cons (pv 4) (pa_nil)))))))) (pss_nil))
        (pss_cons (ps_if (PW.pt (pw_and (pt_cmpR op_eq (pv 5) (pe_int) (nomark _)) (pw_and1 (pt_cmpR op_eq (pc c_law_take hr (pa_cons (pv 0) (pa_cons (pe_int) (pa_nil)))) (pe_int) (nomark _))))) (pss_one (ps_ret (pe_tup (pa_cons (pe_str) (pa_cons (pe_callTy call_tuple_of (by rfl) B_tuple (by decide +kernel) (pa_cons (pe_lc (own := [("_law_k", 6)]) (g := gName 6) rfl sc_law_statement.nd (pi_range1 (by rfl) B_range (pa_cons (pc c_law_take hr (pa_cons (pv 0) (pa_cons (pe_int) (pa_nil)))) (pa_nil))) (blkOk_by (own := [("_law_k", 6)]) (N := N_law_statement) (sc := defScope s_law_statement) (by decide +kernel)) (fun _ _ _ _ _ => pg_name (i := 6) sc_law_statement.nd rfl (Or.inl rfl)) (fun _ _ _ _ _ => pts_nil) (fun _ _ _ _ _ => pc c_law_simple hr (pa_cons (pv 0) (pa_cons (pv 1) (pa_cons (pv 3) (pa_cons (pv 4) (pa_nil))))))) (pa_nil))) (pa_nil)))))) (pss_nil))
        (pss_cons (ps_if (pt_cmpR op_lt (pv 5) (pe_int) (nomark _)) (pss_cons (ps_set (i := 7) sc_law_statement.nd rfl (by first | exact Or.inl rfl | exact Or.inr rfl) (pe_op op_add (pe_int) (pc c_law_take hr (pa_cons (pv 0) (pa_cons (pe_int) (pa_nil))))))
        (pss_one (ps_ret (pe_tup (pa_cons (pe_str) (pa_cons (pe_callTy call_tuple_of (by rfl) B_tuple (by decide +kernel) (pa_cons (pe_lc (own := [("_law_k", 6)]) (g := gName 6) rfl sc_law_statement.nd (pi_range1 (by rfl) B_range (pa_cons (pv 7) (pa_nil))) (blkOk_by (own := [("_law_k", 6)]) (N := N_law_statement) (sc := defScope s_law_statement) (by decide +kernel)) (fun _ _ _ _ _ => pg_name (i := 6) sc_law_statement.nd rfl (Or.inl rfl)) (fun _ _ _ _ _ => pts_nil) (fun _ _ _ _ _ => pc c_law_statement hr (pa_cons (pv 0) (pa_cons (pv 1) (pa_cons (pe_op op_sub (pv 2) (pe_int)) (pa_cons (pv 3) (pa_cons (pv 4) (pa_nil)))))))) (pa_nil))) (pa_nil))))))) (pss_nil))
        (pss_cons (ps_if (pt_cmpR op_eq (pv 5) (pe_int) (nomark _)) (pss_cons (ps_set (i := 8) sc_law_statement.nd rfl (by first | exact Or.inl rfl | exact Or.inr rfl) (pc c_law_part hr (pa_cons (pv 0) (pa_cons (pe_int) (pa_nil)))))
        (pss_cons (ps_set (i := 9) sc_law_statement.nd rfl (by first | exact Or.inl rfl | exact Or.inr rfl) (pc c_law_statement hr (pa_cons (pv 0) (pa_cons (pv 1) (pa_cons (pe_op op_sub (pv 2) (pe_int)) (pa_cons (pv 3) (pa_cons (pv 4) (pa_nil))))))))
        (pss_one (ps_ret (pe_tup (pa_cons (pe_str) (pa_cons (pv 8) (pa_cons (pv 9) (pa_cons (pc c_law_statement hr (pa_cons (pv 0) (pa_cons (pv 1) (pa_cons (pe_op op_sub (pv 2) (pe_int)) (pa_cons (pv 3) (pa_cons (pv 4) (pa_nil))))))) (pa_nil)))))))))) (pss_nil))
        (pss_cons (ps_if (pt_cmpR op_lt (pv 5) (pe_int) (nomark _)) (pss_cons (ps_set (i := 8) sc_law_statement.nd rfl (by first | exact Or.inl rfl | exact Or.inr rfl) (pc c_law_part hr (pa_cons (pv 0) (pa_cons (pe_int) (pa_nil)))))
        (pss_one (ps_ret (pe_tup (pa_cons (pe_str) (pa_cons (pv 8) (pa_cons (pc c_law_statement hr (pa_cons (pv 0) (pa_cons (pv 1) (pa_cons (pe_op op_sub (pv 2) (pe_int)) (pa_cons (pe_bl) (pa_cons (pv 4) (pa_nil))))))) (pa_nil)))))))) (pss_nil))
        (pss_cons (ps_set (i := 10) sc_law_statement.nd rfl (by first | exact Or.inl rfl | exact Or.inr rfl) (pc c_law_statement hr (pa_cons (pv 0) (pa_cons (pv 1) (pa_cons (pe_op op_sub (pv 2) (pe_int)) (pa_cons (pv 3) (pa_cons (pv 4) (pa_nil))))))))
        (pss_cons (ps_if (pt_cmpR op_lt (pv 5) (pe_int) (nomark _)) (pss_cons (ps_set (i := 7) sc_law_statement.nd rfl (by first | exact Or.inl rfl | exact Or.inr rfl) (pe_op op_add (pe_int) (pc c_law_take hr (pa_cons (pv 0) (pa_cons (pe_int) (pa_nil))))))
        (pss_one (ps_ret (pe_tup (pa_cons (pe_str) (pa_cons (pv 10) (pa_cons (pe_callTy call_tuple_of (by rfl) B_tuple (by decide +kernel) (pa_cons (pe_lc (own := [("_law_k", 6)]) (g := gName 6) rfl sc_law_statement.nd (pi_range1 (by rfl) B_range (pa_cons (pv 7) (pa_nil))) (blkOk_by (own := [("_law_k", 6)]) (N := N_law_statement) (sc := defScope s_law_statement) (by decide +kernel)) (fun _ _ _ _ _ => pg_name (i := 6) sc_law_statement.nd rfl (Or.inl rfl)) (fun _ _ _ _ _ => pts_nil) (fun _ _ _ _ _ => pc c_law_handler hr (pa_cons (pv 0) (pa_cons (pv 1) (pa_cons (pe_op op_sub (pv 2) (pe_int)) (pa_cons (pv 3) (pa_nil))))))) (pa_nil))) (pa_nil)))))))) (pss_nil))
        (pss_one (ps_ret (pe_tup (pa_cons (pe_str) (pa_cons (pv 10) (pa_cons (pc c_law_statement hr (pa_cons (pv 0) (pa_cons (pv 1) (pa_cons (pe_op op_sub (pv 2) (pe_int)) (pa_cons (pv 3) (pa_cons (pv 4) (pa_nil))))))) (pa_nil))))))))))))))

abbrev s_law_program : Stmt := topS 18
abbrev N_law_program : List Str := ["_law_box", "_law_kinds_here", "_law_shape", "_law_k", "_law_functions", "_law_many", "_law_parts"]
theorem sc_law_program : FnScope N_law_program ["_law_box"] (defScope s_law_program) := ⟨rfl, rfl, rfl, by decide +kernel, rfl, by decide +kernel, by decide +kernel⟩
theorem ok_law_program {sp_law_kinds : Sp} {sp_law_take : Sp} {sp_law_statement : Sp} {f : Addr} {fd : FuncData} (D : FunD K "_law_program" "_law_program" (defArgs s_law_program) (defBody s_law_program) (defScope s_law_program) [] [] f fd) (c_law_kinds : Cal P w K mg base k "_law_kinds" ["_law_box", "_law_most"] sp_law_kinds) (B_range : mg "range" = none) (c_law_take : Cal P w K mg base k "_law_take" ["_law_box", "_law_many"] sp_law_take) (B_len : mg "len" = none) (c_law_statement : Cal P w K mg base k "_law_statement" ["_law_box", "_law_shape", "_law_deep", "_law_turn", "_law_handler_here"] sp_law_statement) (B_tuple : mg "tuple" = none) {sp : Sp}
    (len : ∀ vs H Q E, sp vs H Q E → vs.length = 1)
    (rd : ∀ vs H Q E, sp vs H Q E → t_law_program K sp_law_kinds sp_law_take sp_law_statement { nx := fun _ H' => Q .non H', rt := Q } (start N_law_program vs) H) : FnOk P w K mg base CX0 (k + 1) f fd ["_law_box"] sp := by
  refine D.ok sc_law_program len (fun cdv A outer s H vs Q E hr h => ⟨t_law_program K sp_law_kinds sp_law_take sp_law_statement, PSs.nox ?_, rd vs H Q E h⟩)
  · unfold t_law_program
    exact pss_cons (ps_set (i := 1) sc_law_program.nd rfl (by first | exact Or.inl rfl | exact Or.inr rfl) (pc c_law_kinds hr (pa_cons (pv 0) (pa_cons (pe_int) (pa_nil)))))
        (pss_cons (ps_set (i := 2) sc_law_program.nd rfl (by first | exact Or.inl rfl | exact Or.inr rfl) (pe_lst (pa_cons (pe_lc (own := [("_law_k", 3)]) (g := gName 3) rfl sc_law_program.nd (pi_range1 (by rfl) B_range (pa_cons (pe_op op_add (pe_int) (pc c_law_take hr (pa_cons (pv 0) (pa_cons (pe_int) (pa_nil))))) (pa_nil))) (blkOk_by (own := [("_law_k", 3)]) (N := N_law_program) (sc := defScope s_law_program) (by decide +kernel)) (fun _ _ _ _ _ => pg_name (i := 3) sc_law_program.nd rfl (Or.inl rfl)) (fun _ _ _ _ _ => pts_nil) (fun _ _ _ _ _ => pc c_law_take hr (pa_cons (pv 0) (pa_cons (pe_int) (pa_nil))))) (pa_cons (pe_callB call_len_seq (by rfl) B_len PySem.boot_len (pa_cons (pv 1) (pa_nil))) (pa_nil)))))
        (pss_cons (ps_set (i := 4) sc_law_program.nd rfl (by first | exact Or.inl rfl | exact Or.inr rfl) (pe_lst (pa_nil)))
        (pss_cons (ps_for PassesOwn.never rfl (pi_list (pe_ix ix_list (pv 2) (pe_int) (fun _ _ => rfl))) (pg_name (i := 5) sc_law_program.nd rfl (by first | exact Or.inl rfl | exact Or.inr rfl)) (pss_cons (by first | exact ps_setLc (i := 6) (own := [("_law_k", 3)]) (g := gName 3) rfl sc_law_program.nd rfl rfl (sw_true rfl rfl rfl (by decide +kernel)) (pi_range1 (by rfl) B_range (pa_cons (pe_op op_add (pe_int) (pc c_law_take hr (pa_cons (pv 0) (pa_cons (pe_int) (pa_nil))))) (pa_nil))) (blkOk_by (own := [("_law_k", 3)]) (N := N_law_program) (sc := defScope s_law_program) (by decide +kernel)) (fun _ _ _ _ _ => pg_name (i := 3) sc_law_program.nd rfl (Or.inl rfl)) (fun _ _ _ _ _ => pts_nil) (fun _ _ _ _ _ => pc c_law_statement hr (pa_cons (pv 0) (pa_cons (pv 2) (pa_cons (pe_int) (pa_cons (pe_bl) (pa_cons (pe_bl) (pa_nil))))))) | exact ps_set (i := 6) sc_law_program.nd rfl (Or.inr rfl) (pe_lc (own := [("_law_k", 3)]) (g := gName 3) rfl sc_law_program.nd (pi_range1 (by rfl) B_range (pa_cons (pe_op op_add (pe_int) (pc c_law_take hr (pa_cons (pv 0) (pa_cons (pe_int) (pa_nil))))) (pa_nil))) (blkOk_by (own := [("_law_k", 3)]) (N := N_law_program) (sc := defScope s_law_program) (by decide +kernel)) (fun _ _ _ _ _ => pg_name (i := 3) sc_law_program.nd rfl (Or.inl rfl)) (fun _ _ _ _ _ => pts_nil) (fun _ _ _ _ _ => pc c_law_statement hr (pa_cons (pv 0) (pa_cons (pv 2) (pa_cons (pe_int) (pa_cons (pe_bl) (pa_cons (pe_bl) (pa_nil)))))))))
        (pss_one (ps_expr (pe_bm PySem.F.plainAttrs_list PySem.F.slot_list_append PySem.F.type_list_append mt_append (pv 4) (pa_cons (pe_tup (pa_cons (pv 5) (pa_cons (pe_tup (pa_cons (pe_str) (pa_cons (pe_callTy call_tuple_of (by rfl) B_tuple (by decide +kernel) (pa_cons (pv 6) (pa_nil))) (pa_nil)))) (pa_nil)))) (pa_nil)))))))
        (pss_one (ps_ret (pe_tup (pa_cons (pv 1) (pa_cons (pe_callTy call_tuple_of (by rfl) B_tuple (by decide +kernel) (pa_cons (pv 4) (pa_nil))) (pa_nil)))))))))

abbrev s_law_wild : Stmt := topS 19
abbrev N_law_wild : List Str := ["_law_box", "_law_one", "_law_shape", "_law_word", "_law_parts", "_law_k", "_law_part_here", "_law_yes", "_law_inner", "_law_handlers", "_law_handler_here", "_law_kind"]
theorem sc_law_wild : FnScope N_law_wild ["_law_box", "_law_one", "_law_shape"] (defScope s_law_wild) := ⟨rfl, rfl, rfl, by decide +kernel, rfl, by decide +kernel, by decide +kernel⟩
theorem ok_law_wild {sp_law_take : Sp} {sp_law_wild : Sp} {f : Addr} {fd : FuncData} (D : FunD K "_law_wild" "_law_wild" (defArgs s_law_wild) (defBody s_law_wild) (defScope s_law_wild) [] [] f fd) (c_law_take : Cal P w K mg base k "_law_take" ["_law_box", "_law_many"] sp_law_take) (B_tuple : mg "tuple" = none) (B_range : mg "range" = none) (B_len : mg "len" = none) (c_law_wild : Cal P w K mg base k "_law_wild" ["_law_box", "_law_one", "_law_shape"] sp_law_wild) {sp : Sp}
    (len : ∀ vs H Q E, sp vs H Q E → vs.length = 3)
    (rd : ∀ vs H Q E, sp vs H Q E → t_law_wild K sp_law_take sp_law_wild { nx := fun _ H' => Q .non H', rt := Q } (start N_law_wild vs) H) : FnOk P w K mg base CX0 (k + 1) f fd ["_law_box", "_law_one", "_law_shape"] sp := by
  refine D.ok sc_law_wild len (fun cdv A outer s H vs Q E hr h => ⟨t_law_wild K sp_law_take sp_law_wild, PSs.nox ?_, rd vs H Q E h⟩)
  · unfold t_law_wild
    exact pss_cons (ps_set (i := 3) sc_law_wild.nd rfl (by first | exact Or.inl rfl | exact Or.inr rfl) (pe_ix ix_tup (pv 1) (pe_int) (fun _ _ => rfl)))
        (pss_cons (ps_if (PW.pt (pw_and (pt_cmpR op_eq (pv 3) (pe_str) (nomark _)) (pw_and1 (pt_cmpR op_eq (pc c_law_take hr (pa_cons (pv 0) (pa_cons (pe_int) (pa_nil)))) (pe_int) (nomark _))))) (pss_one (ps_ret (pe_ix ix_list (pe_lst (pa_cons (pe_tup (pa_cons (pe_str) (pa_nil))) (pa_cons (pe_tup (pa_cons (pe_str) (pa_nil))) (pa_cons (pe_tup (pa_cons (pe_str) (pa_nil))) (pa_nil))))) (pc c_law_take hr (pa_cons (pv 0) (pa_cons (pe_int) (pa_nil)))) (fun _ _ => rfl)))) (pss_nil))
        (pss_cons (ps_if (PW.pt (pw_and (pt_cmpR op_eq (pv 3) (pe_str) (nomark _)) (pw_and1 (pt_cmpR op_eq (pc c_law_take hr (pa_cons (pv 0) (pa_cons (pe_int) (pa_nil)))) (pe_int) (nomark _))))) (pss_one (ps_ret (pe_tup (pa_cons (pe_str) (pa_cons (pc c_law_take hr (pa_cons (pv 0) (pa_cons (pe_op op_add (pe_ix ix_list (pv 2) (pe_int) (fun _ _ => rfl)) (pe_int)) (pa_nil)))) (pa_cons (pe_ix ix_tup (pv 1) (pe_int) (fun _ _ => rfl)) (pa_cons (pe_ix ix_tup (pv 1) (pe_int) (fun _ _ => rfl)) (pa_nil)))))))) (pss_nil))
        (pss_cons (ps_if (PW.pt (pw_and (pt_cmpR op_eq (pv 3) (pe_str) (nomark _)) (pw_and1 (pt_cmpR op_eq (pc c_law_take hr (pa_cons (pv 0) (pa_cons (pe_int) (pa_nil)))) (pe_int) (nomark _))))) (pss_cons (ps_set (i := 4) sc_law_wild.nd rfl (by first | exact Or.inl rfl | exact Or.inr rfl) (pe_callTy call_tuple_of (by rfl) B_tuple (by decide +kernel) (pa_cons (pe_lc (own := [("_law_k", 5)]) (g := gName 5) rfl sc_law_wild.nd (pi_range1 (by rfl) B_range (pa_cons (pc c_law_take hr (pa_cons (pv 0) (pa_cons (pe_int) (pa_nil)))) (pa_nil))) (blkOk_by (own := [("_law_k", 5)]) (N := N_law_wild) (sc := defScope s_law_wild) (by decide +kernel)) (fun _ _ _ _ _ => pg_name (i := 5) sc_law_wild.nd rfl (Or.inl rfl)) (fun _ _ _ _ _ => pts_nil) (fun _ _ _ _ _ => pe_tup (pa_cons (pe_str) (pa_cons (pe_int) (pa_nil))))) (pa_nil))))
        (pss_one (ps_ret (pe_tup (pa_cons (pe_str) (pa_cons (pe_ix ix_tup (pv 1) (pe_int) (fun _ _ => rfl)) (pa_cons (pc c_law_take hr (pa_cons (pv 0) (pa_cons (pe_op op_add (pe_callB call_len_seq (by rfl) B_len PySem.boot_len (pa_cons (pe_ix ix_list (pv 2) (pe_int) (fun _ _ => rfl)) (pa_nil))) (pe_int)) (pa_nil)))) (pa_cons (pv 4) (pa_cons (pe_ix ix_tup (pv 1) (pe_int) (fun _ _ => rfl)) (pa_nil)))))))))) (pss_nil))
        (pss_cons (ps_if (pt_cmpR op_eq (pv 3) (pe_str) (nomark _)) (pss_one (ps_ret (pe_tup (pa_cons (pe_str) (pa_cons (pe_callTy call_tuple_of (by rfl) B_tuple (by decide +kernel) (pa_cons (pe_lc (own := [("_law_part_here", 6)]) (g := gName 6) rfl sc_law_wild.nd (pi_tup (pe_ix ix_tup (pv 1) (pe_int) (fun _ _ => rfl))) (blkOk_by (own := [("_law_part_here", 6)]) (N := N_law_wild) (sc := defScope s_law_wild) (by decide +kernel)) (fun _ _ _ _ _ => pg_name (i := 6) sc_law_wild.nd rfl (Or.inl rfl)) (fun _ _ _ _ _ => pts_nil) (fun _ _ _ _ _ => pc c_law_wild hr (pa_cons (pv 0) (pa_cons (pv 6) (pa_cons (pv 2) (pa_nil)))))) (pa_nil))) (pa_nil)))))) (pss_nil))
        (pss_cons (ps_if (pt_cmpR op_eq (pv 3) (pe_str) (nomark _)) (pss_cons (ps_set (i := 7) sc_law_wild.nd rfl (by first | exact Or.inl rfl | exact Or.inr rfl) (pc c_law_wild hr (pa_cons (pv 0) (pa_cons (pe_ix ix_tup (pv 1) (pe_int) (fun _ _ => rfl)) (pa_cons (pv 2) (pa_nil))))))
        (pss_one (ps_ret (pe_tup (pa_cons (pe_str) (pa_cons (pe_ix ix_tup (pv 1) (pe_int) (fun _ _ => rfl)) (pa_cons (pv 7) (pa_cons (pc c_law_wild hr (pa_cons (pv 0) (pa_cons (pe_ix ix_tup (pv 1) (pe_int) (fun _ _ => rfl)) (pa_cons (pv 2) (pa_nil))))) (pa_nil))))))))) (pss_nil))
        (pss_cons (ps_if (pt_cmpR op_eq (pv 3) (pe_str) (nomark _)) (pss_one (ps_ret (pe_tup (pa_cons (pe_str) (pa_cons (pe_ix ix_tup (pv 1) (pe_int) (fun _ _ => rfl)) (pa_cons (pc c_law_wild hr (pa_cons (pv 0) (pa_cons (pe_ix ix_tup (pv 1) (pe_int) (fun _ _ => rfl)) (pa_cons (pv 2) (pa_nil))))) (pa_nil))))))) (pss_nil))
        (pss_cons (ps_if (pt_cmpR op_eq (pv 3) (pe_str) (nomark _)) (pss_cons (ps_set (i := 8) sc_law_wild.nd rfl (by first | exact Or.inl rfl | exact Or.inr rfl) (pc c_law_wild hr (pa_cons (pv 0) (pa_cons (pe_ix ix_tup (pv 1) (pe_int) (fun _ _ => rfl)) (pa_cons (pv 2) (pa_nil))))))
        (pss_one (ps_ret (pe_tup (pa_cons (pe_str) (pa_cons (pv 8) (pa_cons (pc c_law_wild hr (pa_cons (pv 0) (pa_cons (pe_ix ix_tup (pv 1) (pe_int) (fun _ _ => rfl)) (pa_cons (pv 2) (pa_nil))))) (pa_nil)))))))) (pss_nil))
        (pss_cons (ps_if (pt_cmpR op_eq (pv 3) (pe_str) (nomark _)) (pss_cons (ps_set (i := 8) sc_law_wild.nd rfl (by first | exact Or.inl rfl | exact Or.inr rfl) (pc c_law_wild hr (pa_cons (pv 0) (pa_cons (pe_ix ix_tup (pv 1) (pe_int) (fun _ _ => rfl)) (pa_cons (pv 2) (pa_nil))))))
        (pss_cons (ps_set (i := 9) sc_law_wild.nd rfl (by first | exact Or.inl rfl | exact Or.inr rfl) (pe_lst (pa_nil)))
        (pss_cons (ps_for PassesOwn.never rfl (pi_tup (pe_ix ix_tup (pv 1) (pe_int) (fun _ _ => rfl))) (pg_name (i := 10) sc_law_wild.nd rfl (by first | exact Or.inl rfl | exact Or.inr rfl)) (pss_cons (ps_set (i := 11) sc_law_wild.nd rfl (by first | exact Or.inl rfl | exact Or.inr rfl) (pe_ix ix_tup (pv 10) (pe_int) (fun _ _ => rfl)))
        (pss_cons (ps_if (pt_cmpR op_eq (pc c_law_take hr (pa_cons (pv 0) (pa_cons (pe_int) (pa_nil)))) (pe_int) (nomark _)) (pss_one (ps_set (i := 11) sc_law_wild.nd rfl (by first | exact Or.inl rfl | exact Or.inr rfl) (pe_ix ix_list (pv 2) (pe_int) (fun _ _ => rfl)))) (pss_nil))
        (pss_one (ps_expr (pe_bm PySem.F.plainAttrs_list PySem.F.slot_list_append PySem.F.type_list_append mt_append (pv 9) (pa_cons (pe_tup (pa_cons (pv 11) (pa_cons (pe_ix ix_tup (pv 10) (pe_int) (fun _ _ => rfl)) (pa_cons (pc c_law_wild hr (pa_cons (pv 0) (pa_cons (pe_ix ix_tup (pv 10) (pe_int) (fun _ _ => rfl)) (pa_cons (pv 2) (pa_nil))))) (pa_nil))))) (pa_nil))))))))
        (pss_one (ps_ret (pe_tup (pa_cons (pe_str) (pa_cons (pv 8) (pa_cons (pe_callTy call_tuple_of (by rfl) B_tuple (by decide +kernel) (pa_cons (pv 9) (pa_nil))) (pa_nil)))))))))) (pss_nil))
        (pss_one (ps_ret (pv 1)))))))))))

abbrev s_law_first : Stmt := topS 20
abbrev N_law_first : List Str := ["_law_rows", "_law_word"]
theorem sc_law_first : FnScope N_law_first ["_law_rows"] (defScope s_law_first) := ⟨rfl, rfl, rfl, by decide +kernel, rfl, by decide +kernel, by decide +kernel⟩
theorem ok_law_first  {f : Addr} {fd : FuncData} (D : FunD K "_law_first" "_law_first" (defArgs s_law_first) (defBody s_law_first) (defScope s_law_first) [] [] f fd)  {sp : Sp}
    (len : ∀ vs H Q E, sp vs H Q E → vs.length = 1)
    (rd : ∀ vs H Q E, sp vs H Q E → t_law_first K { nx := fun _ H' => Q .non H', rt := Q } (start N_law_first vs) H) : FnOk P w K mg base CX0 (k + 1) f fd ["_law_rows"] sp := by
  refine D.ok sc_law_first len (fun cdv A outer s H vs Q E hr h => ⟨t_law_first K, PSs.nox ?_, rd vs H Q E h⟩)
  · unfold t_law_first
    exact pss_cons (ps_for PassesOwn.never rfl (pi_list (pv 0)) (pg_name (i := 1) sc_law_first.nd rfl (by first | exact Or.inl rfl | exact Or.inr rfl)) (pss_one (ps_if (pt_cmpR op_ne (pv 1) (pe_str) (nomark _)) (pss_one (ps_ret (pv 1))) (pss_nil))))
        (pss_one (ps_ret (pe_str)))

abbrev s_law_wrong : Stmt := topS 21
abbrev N_law_wrong : List Str := ["_law_one", "_law_shape", "_law_turn", "_law_handler_here", "_law_word", "_law_part_here", "_law_parts", "_law_told"]
theorem sc_law_wrong : FnScope N_law_wrong ["_law_one", "_law_shape", "_law_turn", "_law_handler_here"] (defScope s_law_wrong) := ⟨rfl, rfl, rfl, by decide +kernel, rfl, by decide +kernel, by decide +kernel⟩
theorem ok_law_wrong {sp_law_first : Sp} {sp_law_wrong : Sp} {f : Addr} {fd : FuncData} (D : FunD K "_law_wrong" "_law_wrong" (defArgs s_law_wrong) (defBody s_law_wrong) (defScope s_law_wrong) [] [] f fd) (B_int : mg "int" = none) (B_len : mg "len" = none) (c_law_first : Cal P w K mg base k "_law_first" ["_law_rows"] sp_law_first) (c_law_wrong : Cal P w K mg base k "_law_wrong" ["_law_one", "_law_shape", "_law_turn", "_law_handler_here"] sp_law_wrong) (B_list : mg "list" = none) {sp : Sp}
    (len : ∀ vs H Q E, sp vs H Q E → vs.length = 4)
    (rd : ∀ vs H Q E, sp vs H Q E → t_law_wrong K sp_law_first sp_law_wrong { nx := fun _ H' => Q .non H', rt := Q } (start N_law_wrong vs) H) : FnOk P w K mg base CX0 (k + 1) f fd ["_law_one", "_law_shape", "_law_turn", "_law_handler_here"] sp := by
  refine D.ok sc_law_wrong len (fun cdv A outer s H vs Q E hr h => ⟨t_law_wrong K sp_law_first sp_law_wrong, PSs.nox ?_, rd vs H Q E h⟩)
  · unfold t_law_wrong
    exact pss_cons (ps_set (i := 4) sc_law_wrong.nd rfl (by first | exact Or.inl rfl | exact Or.inr rfl) (pe_ix ix_tup (pv 0) (pe_int) (fun _ _ => rfl)))
        (pss_cons (ps_if (pt_cmpR op_in_seq (pv 4) (pe_tup (pa_cons (pe_str) (pa_cons (pe_str) (pa_nil)))) (by rfl)) (pss_one (ps_ret (pe_ix ix_list (pe_lst (pa_cons (pe_str) (pa_cons (pe_str) (pa_nil)))) (pe_callTy call_int1 (by rfl) B_int (by decide +kernel) (pa_cons (pv 2) (pa_nil))) (fun _ _ => rfl)))) (pss_nil))
        (pss_cons (ps_if (pt_cmpR op_eq (pv 4) (pe_str) (nomark _)) (pss_one (ps_ret (pe_ix ix_list (pe_lst (pa_cons (pe_str) (pa_cons (pe_str) (pa_nil)))) (pe_callTy call_int1 (by rfl) B_int (by decide +kernel) (pa_cons (pv 3) (pa_nil))) (fun _ _ => rfl)))) (pss_nil))
        (pss_cons (ps_if (pt_cmpR op_eq (pv 4) (pe_str) (nomark _)) (pss_one (ps_ret (pe_ix ix_list (pe_lst (pa_cons (pe_str) (pa_cons (pe_str) (pa_nil)))) (pe_callTy call_int1 (by rfl) B_int (by decide +kernel) (pa_cons (pe_cmpR op_ge (pe_ix ix_tup (pv 0) (pe_int) (fun _ _ => rfl)) (pe_ix ix_list (pv 1) (pe_int) (fun _ _ => rfl)) (nomark _)) (pa_nil))) (fun _ _ => rfl)))) (pss_nil))
        (pss_cons (ps_if (pt_cmpR op_eq (pv 4) (pe_str) (nomark _)) (pss_cons (ps_if (pt_cmpR op_ge (pe_ix ix_tup (pv 0) (pe_int) (fun _ _ => rfl)) (pe_callB call_len_seq (by rfl) B_len PySem.boot_len (pa_cons (pe_ix ix_list (pv 1) (pe_int) (fun _ _ => rfl)) (pa_nil))) (nomark _)) (pss_one (ps_ret (pe_str))) (pss_nil))
        (pss_one (ps_ret (pe_ix ix_list (pe_lst (pa_cons (pe_str) (pa_cons (pe_str) (pa_nil)))) (pe_callTy call_int1 (by rfl) B_int (by decide +kernel) (pa_cons (pe_cmpR op_ne (pe_callB call_len_seq (by rfl) B_len PySem.boot_len (pa_cons (pe_ix ix_tup (pv 0) (pe_int) (fun _ _ => rfl)) (pa_nil))) (pe_ix ix_list (pe_ix ix_list (pv 1) (pe_int) (fun _ _ => rfl)) (pe_ix ix_tup (pv 0) (pe_int) (fun _ _ => rfl)) (fun _ _ => rfl)) (nomark _)) (pa_nil))) (fun _ _ => rfl))))) (pss_nil))
        (pss_cons (ps_if (pt_cmpR op_eq (pv 4) (pe_str) (nomark _)) (pss_one (ps_ret (pc c_law_first hr (pa_cons (pe_lc (own := [("_law_part_here", 5)]) (g := gName 5) rfl sc_law_wrong.nd (pi_tup (pe_ix ix_tup (pv 0) (pe_int) (fun _ _ => rfl))) (blkOk_by (own := [("_law_part_here", 5)]) (N := N_law_wrong) (sc := defScope s_law_wrong) (by decide +kernel)) (fun _ _ _ _ _ => pg_name (i := 5) sc_law_wrong.nd rfl (Or.inl rfl)) (fun _ _ _ _ _ => pts_nil) (fun _ _ _ _ _ => pc c_law_wrong hr (pa_cons (pv 5) (pa_cons (pv 1) (pa_cons (pv 2) (pa_cons (pv 3) (pa_nil))))))) (pa_nil))))) (pss_nil))
        (pss_cons (ps_if (PW.pt (pw_or (pt_cmpR op_eq (pv 4) (pe_str) (nomark _)) (pw_or1 (pt_cmpR op_eq (pv 4) (pe_str) (nomark _))))) (pss_cons (ps_set (i := 6) sc_law_wrong.nd rfl (by first | exact Or.inl rfl | exact Or.inr rfl) (pe_callTy call_list_of (by rfl) B_list (by decide +kernel) (pa_cons (pe_slice sl_tupA (pv 0) (po_some (pe_op op_sub (pe_callB call_len_seq (by rfl) B_len PySem.boot_len (pa_cons (pv 0) (pa_nil))) (pe_int))) po_none) (pa_nil))))
        (pss_one (ps_ret (pc c_law_first hr (pa_cons (pe_lc (own := [("_law_part_here", 5)]) (g := gName 5) rfl sc_law_wrong.nd (pi_list (pv 6)) (blkOk_by (own := [("_law_part_here", 5)]) (N := N_law_wrong) (sc := defScope s_law_wrong) (by decide +kernel)) (fun _ _ _ _ _ => pg_name (i := 5) sc_law_wrong.nd rfl (Or.inl rfl)) (fun _ _ _ _ _ => pts_nil) (fun _ _ _ _ _ => pc c_law_wrong hr (pa_cons (pv 5) (pa_cons (pv 1) (pa_cons (pv 2) (pa_cons (pv 3) (pa_nil))))))) (pa_nil)))))) (pss_nil))
        (pss_cons (ps_if (pt_cmpR op_eq (pv 4) (pe_str) (nomark _)) (pss_one (ps_ret (pc c_law_wrong hr (pa_cons (pe_ix ix_tup (pv 0) (pe_int) (fun _ _ => rfl)) (pa_cons (pv 1) (pa_cons (pe_bl) (pa_cons (pv 3) (pa_nil)))))))) (pss_nil))
        (pss_cons (ps_if (pt_cmpR op_eq (pv 4) (pe_str) (nomark _)) (pss_cons (ps_if (pt_cmpR (op_neE hr.units) (pe_lc (own := [("_law_part_here", 5)]) (g := gName 5) rfl sc_law_wrong.nd (pi_tup (pe_ix ix_tup (pv 0) (pe_int) (fun _ _ => rfl))) (blkOk_by (own := [("_law_part_here", 5)]) (N := N_law_wrong) (sc := defScope s_law_wrong) (by decide +kernel)) (fun _ _ _ _ _ => pg_name (i := 5) sc_law_wrong.nd rfl (Or.inl rfl)) (fun _ _ _ _ _ => pts_one (PW.pt (pw_and (pt_cmpR op_notN (pe_ix ix_tup (pv 5) (pe_int) (fun _ _ => rfl)) (pe_non) (nomark _)) (pw_and1 (pt_cmpR op_ge (pe_ix ix_tup (pv 5) (pe_int) (fun _ _ => rfl)) (pe_ix ix_list (pv 1) (pe_int) (fun _ _ => rfl)) (nomark _)))))) (fun _ _ _ _ _ => pv 5)) (pe_lst (pa_nil)) (nomark _)) (pss_one (ps_ret (pe_str))) (pss_nil))
        (pss_cons (ps_set (i := 7) sc_law_wrong.nd rfl (by first | exact Or.inl rfl | exact Or.inr rfl) (pe_lst (pa_cons (pc c_law_wrong hr (pa_cons (pe_ix ix_tup (pv 0) (pe_int) (fun _ _ => rfl)) (pa_cons (pv 1) (pa_cons (pv 2) (pa_cons (pv 3) (pa_nil)))))) (pa_nil))))
        (pss_one (ps_ret (pc c_law_first hr (pa_cons (pe_op op_cat (pv 7) (pe_lc (own := [("_law_part_here", 5)]) (g := gName 5) rfl sc_law_wrong.nd (pi_tup (pe_ix ix_tup (pv 0) (pe_int) (fun _ _ => rfl))) (blkOk_by (own := [("_law_part_here", 5)]) (N := N_law_wrong) (sc := defScope s_law_wrong) (by decide +kernel)) (fun _ _ _ _ _ => pg_name (i := 5) sc_law_wrong.nd rfl (Or.inl rfl)) (fun _ _ _ _ _ => pts_nil) (fun _ _ _ _ _ => pc c_law_wrong hr (pa_cons (pe_ix ix_tup (pv 5) (pe_int) (fun _ _ => rfl)) (pa_cons (pv 1) (pa_cons (pv 2) (pa_cons (pe_bl) (pa_nil)))))))) (pa_nil))))))) (pss_nil))
        (pss_one (ps_ret (pe_str)))))))))))

abbrev s_law_refusal : Stmt := topS 22
abbrev N_law_refusal : List Str := ["_law_program_here", "e", "_law_kinds_here"]
theorem sc_law_refusal : FnScope N_law_refusal ["_law_program_here"] (defScope s_law_refusal) := ⟨rfl, rfl, rfl, by decide +kernel, rfl, by decide +kernel, by decide +kernel⟩
theorem ok_law_refusal {C_LeapError : Addr} {sp_looked : Sp} {C_Stray : Addr} {C_Unknown : Addr} {C_Uneven : Addr} {C_Unread : Addr} {f : Addr} {fd : FuncData} (D : FunD K "_law_refusal" "_law_refusal" (defArgs s_law_refusal) (defBody s_law_refusal) (defScope s_law_refusal) [] [] f fd) (G_LeapError : mg "LeapError" = some (.ref C_LeapError)) (x_looked : CalX P w K mg base k "looked" ["program"] sp_looked) (B_isinstance : mg "isinstance" = none) (G_Stray : mg "Stray" = some (.ref C_Stray)) (G_Unknown : mg "Unknown" = some (.ref C_Unknown)) (G_Uneven : mg "Uneven" = some (.ref C_Uneven)) (G_Unread : mg "Unread" = some (.ref C_Unread)) (B_ValueError : mg "ValueError" = none) {sp : Sp}
    (len : ∀ vs H Q E, sp vs H Q E → vs.length = 1)
    (rd : ∀ vs H Q E, sp vs H Q E → t_law_refusal K C_LeapError sp_looked C_Stray C_Unknown C_Uneven C_Unread { nx := fun _ H' => Q .non H', rt := Q } (start N_law_refusal vs) H) : FnOk P w K mg base CX0 (k + 1) f fd ["_law_program_here"] sp := by
  refine D.ok sc_law_refusal len (fun cdv A outer s H vs Q E hr h => ⟨t_law_refusal K C_LeapError sp_looked C_Stray C_Unknown C_Uneven C_Unread, PSs.nox ?_, rd vs H Q E h⟩)
  · unfold t_law_refusal
    exact pss_one (ps_tryAs (i := 1) rfl rfl sc_law_refusal.nd rfl rfl ⟨rfl, by decide, Or.inl G_LeapError⟩ (fun W pn xe tk _ => pss_one (ps_ret (pcW x_looked hr tk (pa_cons (pv 0) (pa_nil))))) (fun a oe cls d pn hz hf => pss_cons (ps_set (i := 2) sc_law_refusal.nd rfl (by first | exact Or.inl rfl | exact Or.inr rfl) (pe_lst (pa_cons (pe_callB (call_isEx hz hf) (by rfl) B_isinstance (by decide +kernel) (pa_cons (pv 1) (pa_cons (pe_glob (by rfl) G_Stray rfl) (pa_nil)))) (pa_cons (pe_callB (call_isEx hz hf) (by rfl) B_isinstance (by decide +kernel) (pa_cons (pv 1) (pa_cons (pe_glob (by rfl) G_Unknown rfl) (pa_nil)))) (pa_cons (pe_callB (call_isEx hz hf) (by rfl) B_isinstance (by decide +kernel) (pa_cons (pv 1) (pa_cons (pe_glob (by rfl) G_Uneven rfl) (pa_nil)))) (pa_cons (pe_callB (call_isEx hz hf) (by rfl) B_isinstance (by decide +kernel) (pa_cons (pv 1) (pa_cons (pe_glob (by rfl) G_Unread rfl) (pa_nil)))) (pa_nil)))))))
        (pss_cons (ps_if (PW.pt (pw_or (pt_not (pt_val (pe_callB (call_isEx hz hf) (by rfl) B_isinstance (by decide +kernel) (pa_cons (pv 1) (pa_cons (pe_bltn (by rfl) B_ValueError (by decide +kernel) rfl) (pa_nil)))))) (pw_or1 (pt_cmpR op_ne (pe_bm PySem.F.plainAttrs_list PySem.F.slot_list_count PySem.F.type_list_count mt_countV (pv 2) (pa_cons (pe_bl) (pa_nil))) (pe_int) (nomark _))))) (pss_one (ps_ret (pe_str))) (pss_nil))
        (pss_one (ps_ret (pe_ix ix_list (pe_lst (pa_cons (pe_str) (pa_cons (pe_str) (pa_cons (pe_str) (pa_cons (pe_str) (pa_nil)))))) (pe_bm PySem.F.plainAttrs_list PySem.F.slot_list_index PySem.F.type_list_index mt_index (pv 2) (pa_cons (pe_bl) (pa_nil))) (fun _ _ => rfl)))))))

abbrev s_law : Stmt := topS 23
abbrev N_law : List Str := ["_law_script", "_law_box", "_law_program_here", "_law_shape", "_law_function", "_law_functions", "_law_due", "_law_k", "_law_told"]
theorem sc_law : FnScope N_law ["_law_script"] (defScope s_law) := ⟨rfl, rfl, rfl, by decide +kernel, rfl, by decide +kernel, by decide +kernel⟩
theorem ok_law {sp_law_program : Sp} {sp_law_take : Sp} {sp_law_wild : Sp} {sp_law_first : Sp} {sp_law_wrong : Sp} {sp_law_refusal : Sp} {f : Addr} {fd : FuncData} (D : FunD K "law" "law" (defArgs s_law) (defBody s_law) (defScope s_law) [] [] f fd) (B_list : mg "list" = none) (c_law_program : Cal P w K mg base k "_law_program" ["_law_box"] sp_law_program) (B_len : mg "len" = none) (c_law_take : Cal P w K mg base k "_law_take" ["_law_box", "_law_many"] sp_law_take) (c_law_wild : Cal P w K mg base k "_law_wild" ["_law_box", "_law_one", "_law_shape"] sp_law_wild) (B_tuple : mg "tuple" = none) (c_law_first : Cal P w K mg base k "_law_first" ["_law_rows"] sp_law_first) (c_law_wrong : Cal P w K mg base k "_law_wrong" ["_law_one", "_law_shape", "_law_turn", "_law_handler_here"] sp_law_wrong) (B_range : mg "range" = none) (c_law_refusal : Cal P w K mg base k "_law_refusal" ["_law_program_here"] sp_law_refusal) (B_isinstance : mg "isinstance" = none) (B_bool : mg "bool" = none) (B_int : mg "int" = none) {sp : Sp}
    (len : ∀ vs H Q E, sp vs H Q E → vs.length = 1)
    (rd : ∀ vs H Q E, sp vs H Q E → t_law K sp_law_program sp_law_take sp_law_wild sp_law_first sp_law_wrong sp_law_refusal { nx := fun _ H' => Q .non H', rt := Q } (start N_law vs) H) : FnOk P w K mg base CX0 (k + 1) f fd ["_law_script"] sp := by
  refine D.ok sc_law len (fun cdv A outer s H vs Q E hr h => ⟨t_law K sp_law_program sp_law_take sp_law_wild sp_law_first sp_law_wrong sp_law_refusal, PSs.nox ?_, rd vs H Q E h⟩)
  · unfold t_law
    exact pss_cons (ps_set (i := 1) sc_law.nd rfl (by first | exact Or.inl rfl | exact Or.inr rfl) (pe_callTy call_list_of (by rfl) B_list (by decide +kernel) (pa_cons (pv 0) (pa_nil))))
        (pss_cons (ps_set (i := 2) sc_law.nd rfl (by first | exact Or.inl rfl | exact Or.inr rfl) (pc c_law_program hr (pa_cons (pv 1) (pa_nil))))
        (pss_cons (ps_set (i := 3) sc_law.nd rfl (by first | exact Or.inl rfl | exact Or.inr rfl) (pe_lst (pa_cons (pe_lc (own := [("_law_function", 4)]) (g := gName 4) rfl sc_law.nd (pi_tup (pe_ix ix_tup (pv 2) (pe_int) (fun _ _ => rfl))) (blkOk_by (own := [("_law_function", 4)]) (N := N_law) (sc := defScope s_law) (by decide +kernel)) (fun _ _ _ _ _ => pg_name (i := 4) sc_law.nd rfl (Or.inl rfl)) (fun _ _ _ _ _ => pts_nil) (fun _ _ _ _ _ => pe_ix ix_tup (pv 4) (pe_int) (fun _ _ => rfl))) (pa_cons (pe_callB call_len_seq (by rfl) B_len PySem.boot_len (pa_cons (pe_ix ix_tup (pv 2) (pe_int) (fun _ _ => rfl)) (pa_nil))) (pa_nil)))))
        (pss_cons (ps_if (pt_cmpR op_ne (pc c_law_take hr (pa_cons (pv 1) (pa_cons (pe_int) (pa_nil)))) (pe_int) (nomark _)) (pss_cons (by first | exact ps_setLc (i := 5) (own := [("_law_function", 4)]) (g := gName 4) rfl sc_law.nd rfl rfl (sw_true rfl rfl rfl (by decide +kernel)) (pi_tup (pe_ix ix_tup (pv 2) (pe_int) (fun _ _ => rfl))) (blkOk_by (own := [("_law_function", 4)]) (N := N_law) (sc := defScope s_law) (by decide +kernel)) (fun _ _ _ _ _ => pg_name (i := 4) sc_law.nd rfl (Or.inl rfl)) (fun _ _ _ _ _ => pts_nil) (fun _ _ _ _ _ => pe_tup (pa_cons (pe_ix ix_tup (pv 4) (pe_int) (fun _ _ => rfl)) (pa_cons (pc c_law_wild hr (pa_cons (pv 1) (pa_cons (pe_ix ix_tup (pv 4) (pe_int) (fun _ _ => rfl)) (pa_cons (pv 3) (pa_nil))))) (pa_nil)))) | exact ps_set (i := 5) sc_law.nd rfl (Or.inr rfl) (pe_lc (own := [("_law_function", 4)]) (g := gName 4) rfl sc_law.nd (pi_tup (pe_ix ix_tup (pv 2) (pe_int) (fun _ _ => rfl))) (blkOk_by (own := [("_law_function", 4)]) (N := N_law) (sc := defScope s_law) (by decide +kernel)) (fun _ _ _ _ _ => pg_name (i := 4) sc_law.nd rfl (Or.inl rfl)) (fun _ _ _ _ _ => pts_nil) (fun _ _ _ _ _ => pe_tup (pa_cons (pe_ix ix_tup (pv 4) (pe_int) (fun _ _ => rfl)) (pa_cons (pc c_law_wild hr (pa_cons (pv 1) (pa_cons (pe_ix ix_tup (pv 4) (pe_int) (fun _ _ => rfl)) (pa_cons (pv 3) (pa_nil))))) (pa_nil))))))
        (pss_one (ps_set (i := 2) sc_law.nd rfl (by first | exact Or.inl rfl | exact Or.inr rfl) (pe_tup (pa_cons (pe_ix ix_tup (pv 2) (pe_int) (fun _ _ => rfl)) (pa_cons (pe_callTy call_tuple_of (by rfl) B_tuple (by decide +kernel) (pa_cons (pv 5) (pa_nil))) (pa_nil))))))) (pss_nil))
        (pss_cons (ps_set (i := 6) sc_law.nd rfl (by first | exact Or.inl rfl | exact Or.inr rfl) (pc c_law_first hr (pa_cons (pe_lc (own := [("_law_function", 4)]) (g := gName 4) rfl sc_law.nd (pi_tup (pe_ix ix_tup (pv 2) (pe_int) (fun _ _ => rfl))) (blkOk_by (own := [("_law_function", 4)]) (N := N_law) (sc := defScope s_law) (by decide +kernel)) (fun _ _ _ _ _ => pg_name (i := 4) sc_law.nd rfl (Or.inl rfl)) (fun _ _ _ _ _ => pts_nil) (fun _ _ _ _ _ => pc c_law_wrong hr (pa_cons (pe_ix ix_tup (pv 4) (pe_int) (fun _ _ => rfl)) (pa_cons (pv 3) (pa_cons (pe_bl) (pa_cons (pe_bl) (pa_nil))))))) (pa_nil))))
        (pss_cons (ps_if (pt_cmpR op_eq (pv 6) (pe_str) (nomark _)) (pss_one (ps_set (i := 6) sc_law.nd rfl (by first | exact Or.inl rfl | exact Or.inr rfl) (pe_callB call_len_seq (by rfl) B_len PySem.boot_len (pa_cons (pe_ix ix_tup (pv 2) (pe_int) (fun _ _ => rfl)) (pa_nil))))) (pss_nil))
        (pss_cons (ps_for PassesOwn.never rfl (pi_range1 (by rfl) B_range (pa_cons (pe_int) (pa_nil))) (pg_name (i := 7) sc_law.nd rfl (by first | exact Or.inl rfl | exact Or.inr rfl)) (pss_cons (ps_set (i := 8) sc_law.nd rfl (by first | exact Or.inl rfl | exact Or.inr rfl) (pc c_law_refusal hr (pa_cons (pv 2) (pa_nil))))
        (pss_one (ps_if (PW.pt (pw_or (pt_val (pe_callB call_isi (by rfl) B_isinstance (by decide +kernel) (pa_cons (pv 8) (pa_cons (pe_bltn (by rfl) B_bool (by decide +kernel) rfl) (pa_nil))))) (pw_or (pt_cmpR op_ne (pe_callB call_isi (by rfl) B_isinstance (by decide +kernel) (pa_cons (pv 8) (pa_cons (pe_bltn (by rfl) B_int (by decide +kernel) rfl) (pa_nil)))) (pe_callB call_isi (by rfl) B_isinstance (by decide +kernel) (pa_cons (pv 6) (pa_cons (pe_bltn (by rfl) B_int (by decide +kernel) rfl) (pa_nil)))) (nomark _)) (pw_or1 (pt_cmpR (op_neD hr.units) (pv 8) (pv 6) (nomark _)))))) (pss_one (ps_ret (pe_bl))) (pss_nil)))))
        (pss_one (ps_ret (pe_bl)))))))))

end
def d_Looker_init : He.DefD := ⟨("Looker", some "__init__"), "__init__", "Looker.__init__", defArgs s_Looker_init, defBody s_Looker_init, defScope s_Looker_init, [], []⟩
def d_Looker_kind : He.DefD := ⟨("Looker", some "kind"), "kind", "Looker.kind", defArgs s_Looker_kind, defBody s_Looker_kind, defScope s_Looker_kind, [], []⟩
def d_Looker_call : He.DefD := ⟨("Looker", some "call"), "call", "Looker.call", defArgs s_Looker_call, defBody s_Looker_call, defScope s_Looker_call, [], []⟩
def d_Looker_tried : He.DefD := ⟨("Looker", some "tried"), "tried", "Looker.tried", defArgs s_Looker_tried, defBody s_Looker_tried, defScope s_Looker_tried, [], []⟩
def d_Looker_look : He.DefD := ⟨("Looker", some "look"), "look", "Looker.look", defArgs s_Looker_look, defBody s_Looker_look, defScope s_Looker_look, [], []⟩
def d_looked : He.DefD := ⟨("looked", none), "looked", "looked", defArgs s_looked, defBody s_looked, defScope s_looked, [], []⟩
def d_law_take : He.DefD := ⟨("_law_take", none), "_law_take", "_law_take", defArgs s_law_take, defBody s_law_take, defScope s_law_take, [], []⟩
def d_law_part : He.DefD := ⟨("_law_part", none), "_law_part", "_law_part", defArgs s_law_part, defBody s_law_part, defScope s_law_part, [], []⟩
def d_law_kinds : He.DefD := ⟨("_law_kinds", none), "_law_kinds", "_law_kinds", defArgs s_law_kinds, defBody s_law_kinds, defScope s_law_kinds, [], []⟩
def d_law_call : He.DefD := ⟨("_law_call", none), "_law_call", "_law_call", defArgs s_law_call, defBody s_law_call, defScope s_law_call, [], []⟩
def d_law_simple : He.DefD := ⟨("_law_simple", none), "_law_simple", "_law_simple", defArgs s_law_simple, defBody s_law_simple, defScope s_law_simple, [], []⟩
def d_law_handler : He.DefD := ⟨("_law_handler", none), "_law_handler", "_law_handler", defArgs s_law_handler, defBody s_law_handler, defScope s_law_handler, [], []⟩
def d_law_statement : He.DefD := ⟨("_law_statement", none), "_law_statement", "_law_statement", defArgs s_law_statement, defBody s_law_statement, defScope s_law_statement, [], []⟩
def d_law_program : He.DefD := ⟨("_law_program", none), "_law_program", "_law_program", defArgs s_law_program, defBody s_law_program, defScope s_law_program, [], []⟩
def d_law_wild : He.DefD := ⟨("_law_wild", none), "_law_wild", "_law_wild", defArgs s_law_wild, defBody s_law_wild, defScope s_law_wild, [], []⟩
def d_law_first : He.DefD := ⟨("_law_first", none), "_law_first", "_law_first", defArgs s_law_first, defBody s_law_first, defScope s_law_first, [], []⟩
def d_law_wrong : He.DefD := ⟨("_law_wrong", none), "_law_wrong", "_law_wrong", defArgs s_law_wrong, defBody s_law_wrong, defScope s_law_wrong, [], []⟩
def d_law_refusal : He.DefD := ⟨("_law_refusal", none), "_law_refusal", "_law_refusal", defArgs s_law_refusal, defBody s_law_refusal, defScope s_law_refusal, [], []⟩
def d_law : He.DefD := ⟨("law", none), "law", "law", defArgs s_law, defBody s_law, defScope s_law, [], []⟩
def fn : List He.DefD := [d_Looker_init, d_Looker_kind, d_Looker_call, d_Looker_tried, d_Looker_look, d_looked, d_law_take, d_law_part, d_law_kinds, d_law_call, d_law_simple, d_law_handler, d_law_statement, d_law_program, d_law_wild, d_law_first, d_law_wrong, d_law_refusal, d_law]
def fa : List He.Fa := [.glo "Looker", .cls "Looker", .mkr "Looker", .meth "Looker" "kind", .meth "Looker" "call", .meth "Looker" "tried", .meth "Looker" "look", .glo "looked", .glo "_law_take", .glo "_law_part", .glo "_law_kinds", .glo "_law_call", .glo "_law_simple", .glo "_law_handler", .glo "_law_statement", .glo "_law_program", .glo "_law_wild", .glo "_law_first", .glo "_law_wrong", .glo "_law_refusal", .glo "law", .free "len", .glo "Unknown", .exc "Unknown", .glo "Uneven", .exc "Uneven", .glo "Stray", .exc "Stray", .free "range", .free "int", .free "tuple", .free "list", .glo "LeapError", .free "isinstance", .glo "Unread", .free "ValueError", .free "bool", .noat "Looker" "kinds", .noat "Looker" "functions", .exm "Stray" "LeapError" true, .exm "Unknown" "LeapError" true, .exm "Uneven" "LeapError" true]
abbrev loose : List PySem.Str := ["LeapError", "Stray", "Unknown", "Uneven", "Unread", "Looker", "looked", "_law_take", "_law_part", "_law_kinds", "_law_above", "_law_call", "_law_simple", "_law_handler", "_law_statement", "_law_program", "_law_wild", "_law_first", "_law_wrong", "_law_refusal"]
abbrev R : PySem.W.OpenRow := PySem.W.OpenLaw.row PySem.Challenge.rw_leaps_k03_looked_through
def tabs : List He.Tab := []
def exB (K : PySem.W.Frag) : Bool := (excB K "Stray" && (kitB K "Stray" "Stray" true && (kitB K "Stray" "Unknown" false && (kitB K "Stray" "Uneven" false && (kitB K "Stray" "Unread" false && (kitT K "Stray" "ValueError" true && (excB K "Unknown" && (kitB K "Unknown" "Stray" false && (kitB K "Unknown" "Unknown" true && (kitB K "Unknown" "Uneven" false && (kitB K "Unknown" "Unread" false && (kitT K "Unknown" "ValueError" true && (excB K "Uneven" && (kitB K "Uneven" "Stray" false && (kitB K "Uneven" "Unknown" false && (kitB K "Uneven" "Uneven" true && (kitB K "Uneven" "Unread" false && kitT K "Uneven" "ValueError" true)))))))))))))))))
abbrev hk : PySem.W.Hook := He.hookX 7 fa fn tabs [] exB
def ob (s : PySem.W.SharedT) : He.AlX := He.obsX 7 fa fn tabs [] exB (HandSHeadRun.getT s)
theorem ob_eq (s : PySem.W.SharedT) : ob s = hk.obs s.abs := He.obsX_eq (HandSHeadRun.getT_eq s)
set_option maxHeartbeats 0 in
theorem run (w : World) : HandSHeadRun.RunEq R (PySem.W.view R.prog [23]) hk ob 4000 loose w := by
  intro os
  kernel_rfl
theorem facts {w : World} {K : PySem.W.Frag} {h : Heap} {mg : Str → Option Value} {f : Addr} (X : K.In h) (G : h.Ns mainGlobals mg) (hfa : mg ("law" : Str) = some (.ref f)) (cx : He.SaysX fa fn tabs [] exB w h K) :
    ∃ fd : FuncData, (∀ (s : Shared) (v : Value), BindsTo s fd ⟨[v], []⟩ [("_law_script", v)]) ∧ ∀ base : Heap, K.In base → base.Ns mainGlobals mg → FnOk PySem.Challenge.pw_leaps_k03_looked_through w K mg base CX0 18 f fd ["_law_script"] (spLaw K) := by
  have c : He.SaysD fa fn K := cx.t.d
  have cex := cx.more
  obtain ⟨fd_Looker_init, D_Looker_init⟩ := c.def_ 0 (d := d_Looker_init) rfl
  obtain ⟨fd_Looker_kind, D_Looker_kind⟩ := c.def_ 1 (d := d_Looker_kind) rfl
  obtain ⟨fd_Looker_call, D_Looker_call⟩ := c.def_ 2 (d := d_Looker_call) rfl
  obtain ⟨fd_Looker_tried, D_Looker_tried⟩ := c.def_ 3 (d := d_Looker_tried) rfl
  obtain ⟨fd_Looker_look, D_Looker_look⟩ := c.def_ 4 (d := d_Looker_look) rfl
  obtain ⟨fd_looked, D_looked⟩ := c.def_ 5 (d := d_looked) rfl
  obtain ⟨fd_law_take, D_law_take⟩ := c.def_ 6 (d := d_law_take) rfl
  obtain ⟨fd_law_part, D_law_part⟩ := c.def_ 7 (d := d_law_part) rfl
  obtain ⟨fd_law_kinds, D_law_kinds⟩ := c.def_ 8 (d := d_law_kinds) rfl
  obtain ⟨fd_law_call, D_law_call⟩ := c.def_ 9 (d := d_law_call) rfl
  obtain ⟨fd_law_simple, D_law_simple⟩ := c.def_ 10 (d := d_law_simple) rfl
  obtain ⟨fd_law_handler, D_law_handler⟩ := c.def_ 11 (d := d_law_handler) rfl
  obtain ⟨fd_law_statement, D_law_statement⟩ := c.def_ 12 (d := d_law_statement) rfl
  obtain ⟨fd_law_program, D_law_program⟩ := c.def_ 13 (d := d_law_program) rfl
  obtain ⟨fd_law_wild, D_law_wild⟩ := c.def_ 14 (d := d_law_wild) rfl
  obtain ⟨fd_law_first, D_law_first⟩ := c.def_ 15 (d := d_law_first) rfl
  obtain ⟨fd_law_wrong, D_law_wrong⟩ := c.def_ 16 (d := d_law_wrong) rfl
  obtain ⟨fd_law_refusal, D_law_refusal⟩ := c.def_ 17 (d := d_law_refusal) rfl
  obtain ⟨fd_law, D_law⟩ := c.def_ 18 (d := d_law) rfl
  have G_Looker := He.glo_ok X G (c.fact 0 (f := .glo "Looker") rfl)
  have Cl_Looker := He.cls_ok (c.fact 1 (f := .cls "Looker") rfl)
  have Mk_Looker := He.mkr_ok (c.fact 2 (f := .mkr "Looker") rfl)
  have Me_Looker_kind := He.meth_ok (c.fact 3 (f := .meth "Looker" "kind") rfl)
  have Me_Looker_call := He.meth_ok (c.fact 4 (f := .meth "Looker" "call") rfl)
  have Me_Looker_tried := He.meth_ok (c.fact 5 (f := .meth "Looker" "tried") rfl)
  have Me_Looker_look := He.meth_ok (c.fact 6 (f := .meth "Looker" "look") rfl)
  have G_looked := He.glo_ok X G (c.fact 7 (f := .glo "looked") rfl)
  have G__law_take := He.glo_ok X G (c.fact 8 (f := .glo "_law_take") rfl)
  have G__law_part := He.glo_ok X G (c.fact 9 (f := .glo "_law_part") rfl)
  have G__law_kinds := He.glo_ok X G (c.fact 10 (f := .glo "_law_kinds") rfl)
  have G__law_call := He.glo_ok X G (c.fact 11 (f := .glo "_law_call") rfl)
  have G__law_simple := He.glo_ok X G (c.fact 12 (f := .glo "_law_simple") rfl)
  have G__law_handler := He.glo_ok X G (c.fact 13 (f := .glo "_law_handler") rfl)
  have G__law_statement := He.glo_ok X G (c.fact 14 (f := .glo "_law_statement") rfl)
  have G__law_program := He.glo_ok X G (c.fact 15 (f := .glo "_law_program") rfl)
  have G__law_wild := He.glo_ok X G (c.fact 16 (f := .glo "_law_wild") rfl)
  have G__law_first := He.glo_ok X G (c.fact 17 (f := .glo "_law_first") rfl)
  have G__law_wrong := He.glo_ok X G (c.fact 18 (f := .glo "_law_wrong") rfl)
  have G__law_refusal := He.glo_ok X G (c.fact 19 (f := .glo "_law_refusal") rfl)
  have G_law := He.glo_ok X G (c.fact 20 (f := .glo "law") rfl)
  have B_len := He.free_ok X G (c.fact 21 (f := .free "len") rfl)
  have G_Unknown := He.glo_ok X G (c.fact 22 (f := .glo "Unknown") rfl)
  have X_Unknown := He.exc_ok (c.fact 23 (f := .exc "Unknown") rfl)
  have U_Unknown : ExU K mg "Unknown" (He.ga K "Unknown") := ⟨G_Unknown, X_Unknown.1, X_Unknown.2.1, X_Unknown.2.2.1, X_Unknown.2.2.2⟩
  have G_Uneven := He.glo_ok X G (c.fact 24 (f := .glo "Uneven") rfl)
  have X_Uneven := He.exc_ok (c.fact 25 (f := .exc "Uneven") rfl)
  have U_Uneven : ExU K mg "Uneven" (He.ga K "Uneven") := ⟨G_Uneven, X_Uneven.1, X_Uneven.2.1, X_Uneven.2.2.1, X_Uneven.2.2.2⟩
  have G_Stray := He.glo_ok X G (c.fact 26 (f := .glo "Stray") rfl)
  have X_Stray := He.exc_ok (c.fact 27 (f := .exc "Stray") rfl)
  have U_Stray : ExU K mg "Stray" (He.ga K "Stray") := ⟨G_Stray, X_Stray.1, X_Stray.2.1, X_Stray.2.2.1, X_Stray.2.2.2⟩
  have B_range := He.free_ok X G (c.fact 28 (f := .free "range") rfl)
  have B_int := He.free_ok X G (c.fact 29 (f := .free "int") rfl)
  have B_tuple := He.free_ok X G (c.fact 30 (f := .free "tuple") rfl)
  have B_list := He.free_ok X G (c.fact 31 (f := .free "list") rfl)
  have G_LeapError := He.glo_ok X G (c.fact 32 (f := .glo "LeapError") rfl)
  have B_isinstance := He.free_ok X G (c.fact 33 (f := .free "isinstance") rfl)
  have G_Unread := He.glo_ok X G (c.fact 34 (f := .glo "Unread") rfl)
  have B_ValueError := He.free_ok X G (c.fact 35 (f := .free "ValueError") rfl)
  have B_bool := He.free_ok X G (c.fact 36 (f := .free "bool") rfl)
  have Na_Looker_kinds := He.noat_ok (c.fact 37 (f := .noat "Looker" "kinds") rfl)
  have Na_Looker_functions := He.noat_ok (c.fact 38 (f := .noat "Looker" "functions") rfl)
  have M_Stray_LeapError := He.exm_ok (c.fact 39 (f := .exm "Stray" "LeapError" true) rfl)
  have M_Unknown_LeapError := He.exm_ok (c.fact 40 (f := .exm "Unknown" "LeapError" true) rfl)
  have M_Uneven_LeapError := He.exm_ok (c.fact 41 (f := .exm "Uneven" "LeapError" true) rfl)
  have eLaw := hfa.symm.trans G_law
  cases eLaw
  have b_Looker_init := FunD.bindsN (ps := ["self", "program"]) D_Looker_init fun _ _ _ _ _ _ us hl => match us, hl with | [_, _], _ => rfl
  have b_Looker_kind := FunD.bindsN (ps := ["self", "number"]) D_Looker_kind fun _ _ _ _ _ _ us hl => match us, hl with | [_, _], _ => rfl
  have b_Looker_call := FunD.bindsN (ps := ["self", "one"]) D_Looker_call fun _ _ _ _ _ _ us hl => match us, hl with | [_, _], _ => rfl
  have b_Looker_tried := FunD.bindsN (ps := ["self", "one", "in_turn", "in_handler"]) D_Looker_tried fun _ _ _ _ _ _ us hl => match us, hl with | [_, _, _, _], _ => rfl
  have b_Looker_look := FunD.bindsN (ps := ["self", "one", "in_turn", "in_handler"]) D_Looker_look fun _ _ _ _ _ _ us hl => match us, hl with | [_, _, _, _], _ => rfl
  have b_looked := FunD.bindsN (ps := ["program"]) D_looked fun _ _ _ _ _ _ us hl => match us, hl with | [_], _ => rfl
  have b_law_take := FunD.bindsN (ps := ["_law_box", "_law_many"]) D_law_take fun _ _ _ _ _ _ us hl => match us, hl with | [_, _], _ => rfl
  have b_law_part := FunD.bindsN (ps := ["_law_box", "_law_deep"]) D_law_part fun _ _ _ _ _ _ us hl => match us, hl with | [_, _], _ => rfl
  have b_law_kinds := FunD.bindsN (ps := ["_law_box", "_law_most"]) D_law_kinds fun _ _ _ _ _ _ us hl => match us, hl with | [_, _], _ => rfl
  have b_law_call := FunD.bindsN (ps := ["_law_box", "_law_shape"]) D_law_call fun _ _ _ _ _ _ us hl => match us, hl with | [_, _], _ => rfl
  have b_law_simple := FunD.bindsN (ps := ["_law_box", "_law_shape", "_law_turn", "_law_handler_here"]) D_law_simple fun _ _ _ _ _ _ us hl => match us, hl with | [_, _, _, _], _ => rfl
  have b_law_handler := FunD.bindsN (ps := ["_law_box", "_law_shape", "_law_deep", "_law_turn"]) D_law_handler fun _ _ _ _ _ _ us hl => match us, hl with | [_, _, _, _], _ => rfl
  have b_law_statement := FunD.bindsN (ps := ["_law_box", "_law_shape", "_law_deep", "_law_turn", "_law_handler_here"]) D_law_statement fun _ _ _ _ _ _ us hl => match us, hl with | [_, _, _, _, _], _ => rfl
  have b_law_program := FunD.bindsN (ps := ["_law_box"]) D_law_program fun _ _ _ _ _ _ us hl => match us, hl with | [_], _ => rfl
  have b_law_wild := FunD.bindsN (ps := ["_law_box", "_law_one", "_law_shape"]) D_law_wild fun _ _ _ _ _ _ us hl => match us, hl with | [_, _, _], _ => rfl
  have b_law_first := FunD.bindsN (ps := ["_law_rows"]) D_law_first fun _ _ _ _ _ _ us hl => match us, hl with | [_], _ => rfl
  have b_law_wrong := FunD.bindsN (ps := ["_law_one", "_law_shape", "_law_turn", "_law_handler_here"]) D_law_wrong fun _ _ _ _ _ _ us hl => match us, hl with | [_, _, _, _], _ => rfl
  have b_law_refusal := FunD.bindsN (ps := ["_law_program_here"]) D_law_refusal fun _ _ _ _ _ _ us hl => match us, hl with | [_], _ => rfl
  have b_law := FunD.bindsA (ps := ["_law_script"]) D_law fun _ _ _ _ _ _ us hl => match us, hl with | [_], _ => rfl
  refine ⟨fd_law, fun s v => b_law s [v] rfl, fun base _ _ => ?_⟩
  have TL : LkTxt K (He.ga K "Looker") := ⟨Cl_Looker, Na_Looker_kinds, Na_Looker_functions⟩
  have c_Looker_init : CalC PySem.Challenge.pw_leaps_k03_looked_through w K mg base 1 "Looker" (He.ga K "Looker") ["self", "program"] (spLInit K (He.ga K "Looker")) := ⟨_, _, ok_Looker_init (k := 0) D_Looker_init  (fun vs H Q E h => by obtain ⟨_, _, _, _, rfl, _⟩ := h; rfl) (rd_linit TL), b_Looker_init, Mk_Looker, G_Looker⟩
  have c_Looker_kind : CalXM PySem.Challenge.pw_leaps_k03_looked_through w K mg base 1 (He.ga K "Looker") "kind" ["self", "number"] (spKind K (He.ga K "Looker") (He.ga K "Unknown")) := ⟨_, _, ok_Looker_kind (k := 0) D_Looker_kind B_len U_Unknown (fun vs H Q E h => by obtain ⟨_, _, _, rfl, _⟩ := h; rfl) (rd_kind TL), b_Looker_kind, Cl_Looker, Me_Looker_kind⟩
  have c_Looker_call : CalXM PySem.Challenge.pw_leaps_k03_looked_through w K mg base 1 (He.ga K "Looker") "call" ["self", "one"] (spLCall K (He.ga K "Looker") (He.ga K "Unknown") (He.ga K "Uneven")) := ⟨_, _, ok_Looker_call (k := 0) D_Looker_call B_len U_Unknown U_Uneven (fun vs H Q E h => by obtain ⟨_, _, _, _, _, _, _, rfl, _⟩ := h; rfl) (rd_lcall TL), b_Looker_call, Cl_Looker, Me_Looker_call⟩
  have r_Looker_look : ∀ n, CalXM PySem.Challenge.pw_leaps_k03_looked_through w K mg base (1 + 2 * n) (He.ga K "Looker") "look" ["self", "one", "in_turn", "in_handler"] (spLook K (He.ga K "Looker") (He.ga K "Stray") (He.ga K "Unknown") (He.ga K "Uneven") n) := by
    intro n
    induction n with
    | zero => exact ⟨_, _, FnOk.zeroX spLook_zero, b_Looker_look, Cl_Looker, Me_Looker_look⟩
    | succ n c_Looker_look =>
      have c_Looker_tried : CalXM PySem.Challenge.pw_leaps_k03_looked_through w K mg base (1 + 2 * n + 0 + 1) (He.ga K "Looker") "tried" ["self", "one", "in_turn", "in_handler"] (spTri K (He.ga K "Looker") (He.ga K "Stray") (He.ga K "Unknown") (He.ga K "Uneven") n) := ⟨_, _, ok_Looker_tried (k := 1 + 2 * n + 0) D_Looker_tried (c_Looker_kind.mono (by omega)) (c_Looker_look.mono (by omega)) (fun vs H Q E h => by obtain ⟨_, _, _, _, _, _, _, rfl, _⟩ := h; rfl) (rd_tried TL), b_Looker_tried, Cl_Looker, Me_Looker_tried⟩
      have z : CalXM PySem.Challenge.pw_leaps_k03_looked_through w K mg base (1 + 2 * n + 1 + 1) (He.ga K "Looker") "look" ["self", "one", "in_turn", "in_handler"] (spLook K (He.ga K "Looker") (He.ga K "Stray") (He.ga K "Unknown") (He.ga K "Uneven") (n + 1)) := ⟨_, _, ok_Looker_look (k := 1 + 2 * n + 1) D_Looker_look (c_Looker_look.mono (by omega)) (c_Looker_tried.mono (by omega)) (c_Looker_call.mono (by omega)) (c_Looker_kind.mono (by omega)) U_Stray (fun vs H Q E h => by obtain ⟨_, _, _, _, _, _, rfl, _⟩ := h; rfl) (rd_look TL), b_Looker_look, Cl_Looker, Me_Looker_look⟩
      exact z.mono (by omega)
  have c_Looker_look : CalXM PySem.Challenge.pw_leaps_k03_looked_through w K mg base (11) (He.ga K "Looker") "look" ["self", "one", "in_turn", "in_handler"] (spLook K (He.ga K "Looker") (He.ga K "Stray") (He.ga K "Unknown") (He.ga K "Uneven") 5) := r_Looker_look 5
  have c_looked : CalX PySem.Challenge.pw_leaps_k03_looked_through w K mg base 13 "looked" ["program"] (spLooked K (He.ga K "Stray") (He.ga K "Unknown") (He.ga K "Uneven") 5) := ⟨_, _, ok_looked (k := 11) D_looked (c_Looker_init.mono (by decide)) (c_Looker_look.mono (by decide)) B_len (fun vs H Q E h => by obtain ⟨_, _, rfl, _⟩ := h; rfl) (rd_looked TL), b_looked, D_looked.kp, G_looked⟩
  have c_law_take : Cal PySem.Challenge.pw_leaps_k03_looked_through w K mg base 1 "_law_take" ["_law_box", "_law_many"] spTake := ⟨_, _, ok_law_take (k := 0) D_law_take  (fun vs H Q E h => by obtain ⟨_, _, _, rfl, _⟩ := h; rfl) rd_take, b_law_take, D_law_take.kp, G__law_take⟩
  have r_law_part : ∀ n, Cal PySem.Challenge.pw_leaps_k03_looked_through w K mg base (1 + 1 * n) "_law_part" ["_law_box", "_law_deep"] (spPart K n) := by
    intro n
    induction n with
    | zero => exact ⟨_, _, FnOk.zero spPart_zero, b_law_part, D_law_part.kp, G__law_part⟩
    | succ n c_law_part =>
      have z : Cal PySem.Challenge.pw_leaps_k03_looked_through w K mg base (1 + 1 * n + 0 + 1) "_law_part" ["_law_box", "_law_deep"] (spPart K (n + 1)) := ⟨_, _, ok_law_part (k := 1 + 1 * n + 0) D_law_part (c_law_take.mono (by omega)) (c_law_part.mono (by omega)) (fun vs H Q E h => by obtain ⟨_, _, _, rfl, _⟩ := h; rfl) rd_law_part, b_law_part, D_law_part.kp, G__law_part⟩
      exact z.mono (by omega)
  have c_law_part : Cal PySem.Challenge.pw_leaps_k03_looked_through w K mg base (6) "_law_part" ["_law_box", "_law_deep"] (spPart K 5) := r_law_part 5
  have c_law_kinds : Cal PySem.Challenge.pw_leaps_k03_looked_through w K mg base 2 "_law_kinds" ["_law_box", "_law_most"] spKinds := ⟨_, _, ok_law_kinds (k := 1) D_law_kinds B_range (c_law_take.mono (by decide)) B_int B_tuple (fun vs H Q E h => by obtain ⟨_, _, _, rfl, _⟩ := h; rfl) rd_kinds, b_law_kinds, D_law_kinds.kp, G__law_kinds⟩
  have c_law_call : Cal PySem.Challenge.pw_leaps_k03_looked_through w K mg base 7 "_law_call" ["_law_box", "_law_shape"] (spCallS K) := ⟨_, _, ok_law_call (k := 6) D_law_call (c_law_take.mono (by decide)) B_len B_range (c_law_part.mono (by decide)) B_tuple (fun vs H Q E h => by obtain ⟨_, _, _, _, _, rfl, _⟩ := h; rfl) rd_law_call, b_law_call, D_law_call.kp, G__law_call⟩
  have c_law_simple : Cal PySem.Challenge.pw_leaps_k03_looked_through w K mg base 8 "_law_simple" ["_law_box", "_law_shape", "_law_turn", "_law_handler_here"] (spSimple K) := ⟨_, _, ok_law_simple (k := 7) D_law_simple (c_law_take.mono (by decide)) (c_law_call.mono (by decide)) (c_law_part.mono (by decide)) (fun vs H Q E h => by obtain ⟨_, _, _, _, _, _, _, rfl, _⟩ := h; rfl) rd_law_simple, b_law_simple, D_law_simple.kp, G__law_simple⟩
  have r_law_statement : ∀ n, Cal PySem.Challenge.pw_leaps_k03_looked_through w K mg base (8 + 2 * n) "_law_statement" ["_law_box", "_law_shape", "_law_deep", "_law_turn", "_law_handler_here"] (spStmt K n) := by
    intro n
    induction n with
    | zero => exact ⟨_, _, FnOk.zero spStmt_zero, b_law_statement, D_law_statement.kp, G__law_statement⟩
    | succ n c_law_statement =>
      have c_law_handler : Cal PySem.Challenge.pw_leaps_k03_looked_through w K mg base (8 + 2 * n + 0 + 1) "_law_handler" ["_law_box", "_law_shape", "_law_deep", "_law_turn"] (spHandler K n) := ⟨_, _, ok_law_handler (k := 8 + 2 * n + 0) D_law_handler (c_law_take.mono (by omega)) (c_law_statement.mono (by omega)) (fun vs H Q E h => by obtain ⟨_, _, _, _, _, _, _, rfl, _⟩ := h; rfl) rd_law_handler, b_law_handler, D_law_handler.kp, G__law_handler⟩
      have z : Cal PySem.Challenge.pw_leaps_k03_looked_through w K mg base (8 + 2 * n + 1 + 1) "_law_statement" ["_law_box", "_law_shape", "_law_deep", "_law_turn", "_law_handler_here"] (spStmt K (n + 1)) := ⟨_, _, ok_law_statement (k := 8 + 2 * n + 1) D_law_statement (c_law_take.mono (by omega)) (c_law_simple.mono (by omega)) B_tuple B_range (c_law_statement.mono (by omega)) (c_law_part.mono (by omega)) (c_law_handler.mono (by omega)) (fun vs H Q E h => by obtain ⟨_, _, _, _, _, _, _, _, rfl, _⟩ := h; rfl) rd_law_statement, b_law_statement, D_law_statement.kp, G__law_statement⟩
      exact z.mono (by omega)
  have c_law_statement : Cal PySem.Challenge.pw_leaps_k03_looked_through w K mg base (16) "_law_statement" ["_law_box", "_law_shape", "_law_deep", "_law_turn", "_law_handler_here"] (spStmt K 4) := r_law_statement 4
  have c_law_program : Cal PySem.Challenge.pw_leaps_k03_looked_through w K mg base 17 "_law_program" ["_law_box"] (spProgram K) := ⟨_, _, ok_law_program (k := 16) D_law_program (c_law_kinds.mono (by decide)) B_range (c_law_take.mono (by decide)) B_len (c_law_statement.mono (by decide)) B_tuple (fun vs H Q E h => by obtain ⟨_, _, rfl, _⟩ := h; rfl) rd_law_program, b_law_program, D_law_program.kp, G__law_program⟩
  have r_law_wild : ∀ n, Cal PySem.Challenge.pw_leaps_k03_looked_through w K mg base (1 + 1 * n) "_law_wild" ["_law_box", "_law_one", "_law_shape"] (spWild K n) := by
    intro n
    induction n with
    | zero => exact ⟨_, _, FnOk.zero spWild_zero, b_law_wild, D_law_wild.kp, G__law_wild⟩
    | succ n c_law_wild =>
      have z : Cal PySem.Challenge.pw_leaps_k03_looked_through w K mg base (1 + 1 * n + 0 + 1) "_law_wild" ["_law_box", "_law_one", "_law_shape"] (spWild K (n + 1)) := ⟨_, _, ok_law_wild (k := 1 + 1 * n + 0) D_law_wild (c_law_take.mono (by omega)) B_tuple B_range B_len (c_law_wild.mono (by omega)) (fun vs H Q E h => by obtain ⟨_, _, _, _, _, _, _, rfl, _⟩ := h; rfl) rd_law_wild, b_law_wild, D_law_wild.kp, G__law_wild⟩
      exact z.mono (by omega)
  have c_law_wild : Cal PySem.Challenge.pw_leaps_k03_looked_through w K mg base (6) "_law_wild" ["_law_box", "_law_one", "_law_shape"] (spWild K 5) := r_law_wild 5
  have c_law_first : Cal PySem.Challenge.pw_leaps_k03_looked_through w K mg base 1 "_law_first" ["_law_rows"] (spFirst K) := ⟨_, _, ok_law_first (k := 0) D_law_first  (fun vs H Q E h => by obtain ⟨_, _, rfl, _⟩ := h; rfl) rd_law_first, b_law_first, D_law_first.kp, G__law_first⟩
  have r_law_wrong : ∀ n, Cal PySem.Challenge.pw_leaps_k03_looked_through w K mg base (1 + 1 * n) "_law_wrong" ["_law_one", "_law_shape", "_law_turn", "_law_handler_here"] (spWrong K n) := by
    intro n
    induction n with
    | zero => exact ⟨_, _, FnOk.zero spWrong_zero, b_law_wrong, D_law_wrong.kp, G__law_wrong⟩
    | succ n c_law_wrong =>
      have z : Cal PySem.Challenge.pw_leaps_k03_looked_through w K mg base (1 + 1 * n + 0 + 1) "_law_wrong" ["_law_one", "_law_shape", "_law_turn", "_law_handler_here"] (spWrong K (n + 1)) := ⟨_, _, ok_law_wrong (k := 1 + 1 * n + 0) D_law_wrong B_int B_len (c_law_first.mono (by omega)) (c_law_wrong.mono (by omega)) B_list (fun vs H Q E h => by obtain ⟨_, _, _, _, _, _, _, rfl, _⟩ := h; rfl) rd_law_wrong, b_law_wrong, D_law_wrong.kp, G__law_wrong⟩
      exact z.mono (by omega)
  have c_law_wrong : Cal PySem.Challenge.pw_leaps_k03_looked_through w K mg base (6) "_law_wrong" ["_law_one", "_law_shape", "_law_turn", "_law_handler_here"] (spWrong K 5) := r_law_wrong 5
  obtain ⟨cx0, cz1⟩ := Bool.and_eq_true_iff.mp cex
  obtain ⟨cx1, cz2⟩ := Bool.and_eq_true_iff.mp cz1
  obtain ⟨cx2, cz3⟩ := Bool.and_eq_true_iff.mp cz2
  obtain ⟨cx3, cz4⟩ := Bool.and_eq_true_iff.mp cz3
  obtain ⟨cx4, cz5⟩ := Bool.and_eq_true_iff.mp cz4
  obtain ⟨cx5, cz6⟩ := Bool.and_eq_true_iff.mp cz5
  obtain ⟨cx6, cz7⟩ := Bool.and_eq_true_iff.mp cz6
  obtain ⟨cx7, cz8⟩ := Bool.and_eq_true_iff.mp cz7
  obtain ⟨cx8, cz9⟩ := Bool.and_eq_true_iff.mp cz8
  obtain ⟨cx9, cz10⟩ := Bool.and_eq_true_iff.mp cz9
  obtain ⟨cx10, cz11⟩ := Bool.and_eq_true_iff.mp cz10
  obtain ⟨cx11, cz12⟩ := Bool.and_eq_true_iff.mp cz11
  obtain ⟨cx12, cz13⟩ := Bool.and_eq_true_iff.mp cz12
  obtain ⟨cx13, cz14⟩ := Bool.and_eq_true_iff.mp cz13
  obtain ⟨cx14, cz15⟩ := Bool.and_eq_true_iff.mp cz14
  obtain ⟨cx15, cz16⟩ := Bool.and_eq_true_iff.mp cz15
  obtain ⟨cx16, cx17⟩ := Bool.and_eq_true_iff.mp cz16
  have T_ref : Ref3 K (He.ga K "LeapError") (He.ga K "Stray") (He.ga K "Unknown") (He.ga K "Uneven") (He.ga K "Unread") := ⟨(fun w => by cases w with | stray => exact M_Stray_LeapError | unknown => exact M_Unknown_LeapError | uneven => exact M_Uneven_LeapError), (fun w => by cases w with | stray => exact excB_ok cx0 | unknown => exact excB_ok cx6 | uneven => exact excB_ok cx12), (fun w => by cases w with | stray => exact kitB_ok cx1 | unknown => exact kitB_ok cx7 | uneven => exact kitB_ok cx13), (fun w => by cases w with | stray => exact kitB_ok cx2 | unknown => exact kitB_ok cx8 | uneven => exact kitB_ok cx14), (fun w => by cases w with | stray => exact kitB_ok cx3 | unknown => exact kitB_ok cx9 | uneven => exact kitB_ok cx15), (fun w => by cases w with | stray => exact kitB_ok cx4 | unknown => exact kitB_ok cx10 | uneven => exact kitB_ok cx16), (fun w => by cases w with | stray => exact kitT_ok cx5 | unknown => exact kitT_ok cx11 | uneven => exact kitT_ok cx17)⟩
  have c_law_refusal : Cal PySem.Challenge.pw_leaps_k03_looked_through w K mg base 14 "_law_refusal" ["_law_program_here"] (spRefu K 5) := ⟨_, _, ok_law_refusal (k := 13) D_law_refusal G_LeapError (c_looked.mono (by decide)) B_isinstance G_Stray G_Unknown G_Uneven G_Unread B_ValueError (fun vs H Q E h => by obtain ⟨_, _, rfl, _⟩ := h; rfl) (rd_law_refusal T_ref), b_law_refusal, D_law_refusal.kp, G__law_refusal⟩
  exact ok_law (k := 17) D_law B_list (c_law_program.mono (by decide)) B_len (c_law_take.mono (by decide)) (c_law_wild.mono (by decide)) B_tuple (c_law_first.mono (by decide)) (c_law_wrong.mono (by decide)) B_range (c_law_refusal.mono (by decide)) B_isinstance B_bool B_int (fun vs H Q E h => by obtain ⟨_, _, rfl, _⟩ := h; rfl) rd_law
end Lr
open PySem PySem.W PySem.Calls PyProof.Rows
set_option maxRecDepth 100000 in
set_option maxHeartbeats 0 in
theorem PySem.Challenge.cw_leaps_k03_looked_through_holds : PySem.Challenge.rw_leaps_k03_looked_through.Holds := by
  w_on; o_law
  refine HandSHeadRun.head_any (r := OpenLaw.row PySem.Challenge.rw_leaps_k03_looked_through) (q := view (OpenLaw.row PySem.Challenge.rw_leaps_k03_looked_through).prog [23]) (H := Lr.hk) (ob := Lr.ob) (M := 4000) (loose := Lr.loose) (d := HandSHeadRun.topDef (OpenLaw.row PySem.Challenge.rw_leaps_k03_looked_through).prog 23) (kwd := []) Lr.ob_eq
    (by kernel_rfl) (fun s => by kernel_rfl) Lr.run (by kernel_rfl) (by kernel_rfl) (by kernel_rfl) (by rfl) (by first | assumption | decide +kernel) (by decide +kernel) ⟨rfl, rfl, rfl, rfl, rfl, by decide +kernel⟩ ?hw ?hc
  case hw => w_witness2
  case hc =>
    refine L2.walk_ofE (l := PySem.Challenge.rw_leaps_k03_looked_through) (n := 63) (k := 18) (x := "_law_script") (CX := L2.CX0) rfl (by decide) (by kernel_rfl) ⟨rfl, by decide, by decide⟩ ?F (fun _ _ _ _ z => z)
    intro w mg fa h Y G hmg0
    obtain ⟨K, KX, c⟩ := Y
    have hmg : mg ("law" : PySem.Str) = some (.ref fa) := by
      have e : (HandSHeadRun.topDef (OpenLaw.row PySem.Challenge.rw_leaps_k03_looked_through).prog 23).name = ("law" : PySem.Str) := by kernel_rfl
      rw [← e]
      exact hmg0
    obtain ⟨fd, hb, hF⟩ := Lr.facts (w := w) KX G hmg c
    exact ⟨K, fd, Lr.spLaw K, KX, hb, fun H a ns hl _ hS => ⟨a, ns, rfl, hS, hl, fun _ => rfl⟩, hF⟩
