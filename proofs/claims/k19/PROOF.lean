import PyProof.Rows.All
import Wide.All
import OpenK.AllK
import Wide.FinOn
import HandS.ForMost
import HandS.IsInst
import HandS.Wide
import HandS.TupAny
import HandS.Walk
import HandS.Evl
import HandS.Iter
import KE.GoesEnum
import HandS.Rev
import PyProof.ListNew
import HandS.Text
import HandS.RaiseMore
import KE.KIntText
import PyProof.Rows.StrIntSpec
import PyProof.StrLawsTight
import PyProof.StrLawsChain
import PyProof.Rows.StrItems
import HandS.Exc
import HandS.ExcOwn
import HandS.WordsExc
import HandS.More
import HandS.Dict
import HandS.HeadHook3
import HandS.TryOnly
import HandS.ExcIs
import KE.KStateDown
import HandS.Defaults
import HandS.Head0
import HandS.Head1
import HandS.Head2
import HandS.HeadEnd
import HandS.HeadHook1
import HandS.HeadHook2
import HandS.HeadHook4
import PySem.Challenge.RW_leaps_k19_whole_listings_read
set_option Elab.async false
set_option linter.all false
set_option maxRecDepth 100000
set_option maxHeartbeats 4000000
set_option maxHeartbeats 8000000
/-! Lb: what every leaps law leans on: callees by name, the growing heap, data at values. -/
namespace Lp
open PySem PySem.Spec PyProof.Rows L2

/-! ### callees -/
/-- a def of the module, by its name, with its promise -/
def Cal (P : Program) (w : World) (K : PySem.W.Frag) (mg : Str → Option Value) (base : Heap) (k : Nat) (x : Str) (ps : List Str) (sp : Sp) : Prop :=
  ∃ f fd, FnOk P w K mg base CX0 k f fd ps sp ∧ Binds K fd ps [] ∧ PySem.W.keepIn K (.ref f) = true ∧ mg x = some (.ref f)
/-- a method of the class at C -/
def CalM (P : Program) (w : World) (K : PySem.W.Frag) (mg : Str → Option Value) (base : Heap) (k : Nat) (C : Addr) (m : Str) (ps : List Str) (sp : Sp) : Prop :=
  ∃ f fd, FnOk P w K mg base CX0 k f fd ps sp ∧ Binds K fd ps [] ∧ Cls K C ∧ Meth K C m f
/-- a class of the module that is made by its own __init__ -/
def CalC (P : Program) (w : World) (K : PySem.W.Frag) (mg : Str → Option Value) (base : Heap) (k : Nat) (x : Str) (C : Addr) (ps : List Str) (sp : Sp) : Prop :=
  ∃ f fd, FnOk P w K mg base CX0 k f fd ps sp ∧ Binds K fd ps [] ∧ Mk K C f ∧ mg x = some (.ref C)
section
variable {P : Program} {w : World} {K : PySem.W.Frag} {mg : Str → Option Value} {base : Heap} {j k : Nat} {x m : Str} {C : Addr} {ps : List Str} {sp sp' : Sp}
theorem Cal.mono (c : Cal P w K mg base j x ps sp) (h : j ≤ k) : Cal P w K mg base k x ps sp :=
  let ⟨f, fd, F, r⟩ := c; ⟨f, fd, F.mono h, r⟩
theorem Cal.imp (c : Cal P w K mg base j x ps sp) (h : ∀ vs H Q E, sp' vs H Q E → sp vs H Q E) : Cal P w K mg base j x ps sp' :=
  let ⟨f, fd, F, r⟩ := c; ⟨f, fd, F.imp h, r⟩
theorem CalM.mono (c : CalM P w K mg base j C m ps sp) (h : j ≤ k) : CalM P w K mg base k C m ps sp :=
  let ⟨f, fd, F, r⟩ := c; ⟨f, fd, F.mono h, r⟩
theorem CalM.imp (c : CalM P w K mg base j C m ps sp) (h : ∀ vs H Q E, sp' vs H Q E → sp vs H Q E) : CalM P w K mg base j C m ps sp' :=
  let ⟨f, fd, F, r⟩ := c; ⟨f, fd, F.imp h, r⟩
theorem CalC.mono (c : CalC P w K mg base j x C ps sp) (h : j ≤ k) : CalC P w K mg base k x C ps sp :=
  let ⟨f, fd, F, r⟩ := c; ⟨f, fd, F.mono h, r⟩
end
section
variable {X : Cx} {k : Nat} {C : Addr} {x m : Str} {ps : List Str} {sp : Sp} {p pos apos : Pos} {e o : Expr} {es : List Expr} {ta : TE} {t : TA}
theorem pc (c : Cal X.prog X.w X.K X.mg X.base k x ps sp) (hr : Room k X.A) (ha : PA X (e :: es) t) (hg : Gl X x := by rfl) (hdb : (x == ("__debug__" : Str)) = false := by decide)
    (he : starEach (e :: es) X.env = (false, eval e X.env) :: starEach es X.env := by rfl) (hpl : (backTo pos (starEach es X.env)).any (·.1) = false := by rfl) : PE X (.Call (.Name x p) (e :: es) [] pos) (tCall sp [] E0 t) := by
  obtain ⟨f, fd, F, b, kp, hm⟩ := c
  exact pe_call F hr hg hm kp b .nil pass0 ha hdb he hpl
theorem pc0 (c : Cal X.prog X.w X.K X.mg X.base k x ps sp) (hr : Room k X.A) (hg : Gl X x := by rfl) (hdb : (x == ("__debug__" : Str)) = false := by decide) : PE X (.Call (.Name x p) [] [] pos) (tCall sp [] E0 tNil) := by
  obtain ⟨f, fd, F, b, kp, hm⟩ := c
  exact pe_call0 F hr hg hm kp b .nil pass0 hdb
theorem pm {pl : Sem Bool} (c : CalM X.prog X.w X.K X.mg X.base k C m ps sp) (hr : Room k X.A) (he : PE X o ta) (ha : PA X (e :: es) t)
    (hst : starEach (e :: es) X.env = (false, eval e X.env) :: starEach es X.env := by rfl) (hpl : (backTo pos (starEach es X.env)).any (·.1) = false := by rfl)
    (ht : eval (.Call (.Attribute o m apos) (e :: es) [] pos) X.env = (do
      let ov ← eval o X.env
      standAt apos.atName
      let (f, first) ← holding [ov] (getMethod ov m pl)
      callWith pos f first (backTo pos (starEach (e :: es) X.env)) (backToKw pos (keywordEach [] X.env))) := by rfl) :
    PE X (.Call (.Attribute o m apos) (e :: es) [] pos) (tMeth C m sp [] E0 ta t) := by
  obtain ⟨f, fd, F, b, cl, hm⟩ := c
  exact pe_meth he cl hm F hr b .nil pass0 ha hst hpl ht
theorem pm0 {pl : Sem Bool} (c : CalM X.prog X.w X.K X.mg X.base k C m ps sp) (hr : Room k X.A) (he : PE X o ta)
    (ht : eval (.Call (.Attribute o m apos) [] [] pos) X.env = (do
      let ov ← eval o X.env
      standAt apos.atName
      let (f, first) ← holding [ov] (getMethod ov m pl)
      callWith pos f first (backTo pos (starEach [] X.env)) (backToKw pos (keywordEach [] X.env))) := by rfl) :
    PE X (.Call (.Attribute o m apos) [] [] pos) (tMeth C m sp [] E0 ta tNil) := by
  obtain ⟨f, fd, F, b, cl, hm⟩ := c
  exact pe_meth0 he cl hm F hr b .nil pass0 ht
theorem pk (c : CalC X.prog X.w X.K X.mg X.base k x C ps sp) (hr : Room (k + 1) X.A) (ha : PA X (e :: es) t) (hg : Gl X x := by rfl) (hdb : (x == ("__debug__" : Str)) = false := by decide)
    (he : starEach (e :: es) X.env = (false, eval e X.env) :: starEach es X.env := by rfl) (hpl : (backTo pos (starEach es X.env)).any (·.1) = false := by rfl) : PE X (.Call (.Name x p) (e :: es) [] pos) (tMake C sp [] E0 t) := by
  obtain ⟨f, fd, F, b, M, hm⟩ := c
  exact pe_make M F hr hg hm b .nil pass0 ha hdb he hpl
theorem pk0 (c : CalC X.prog X.w X.K X.mg X.base k x C ps sp) (hr : Room (k + 1) X.A) (hg : Gl X x := by rfl) (hdb : (x == ("__debug__" : Str)) = false := by decide) : PE X (.Call (.Name x p) [] [] pos) (tMake C sp [] E0 tNil) := by
  obtain ⟨f, fd, F, b, M, hm⟩ := c
  exact pe_make0 M F hr hg hm b .nil pass0 hdb
end

/-! ### short names of readings -/
abbrev rAdI : R2 := rI0 fun i j => .int (i + j)
abbrev rSbI : R2 := rI0 fun i j => .int (i - j)
abbrev rMlI : R2 := rI CMul fun i j => .int (i * j)
abbrev rDvW : R2 := rI CDivW fun i j => .int (i / j)
abbrev rMdI : R2 := rI (fun _ j => 0 < j) fun i j => .int (i % j)
abbrev rLt : R2 := rI0 fun i j => .bl (decide (i < j))
abbrev rLe : R2 := rI0 fun i j => .bl (decide (i ≤ j))
abbrev rGt : R2 := rI0 fun i j => .bl (decide (j < i))
abbrev rGe : R2 := rI0 fun i j => .bl (decide (j ≤ i))
abbrev rIsN : R2 := fun x y H Q => y = .non ∧ Q (.bl (decide (x = .non))) H
abbrev rNtN : R2 := fun x y H Q => y = .non ∧ Q (.bl (!decide (x = .non))) H
abbrev rNeg : V → Hp → VK → Prop := rU fun i => .int (-i)
abbrev rCatS : R2 := fun x y H Q => ∃ i j, x = .str i ∧ y = .str j ∧ i.length + j.length ≤ sizeLine ∧ Q (.str (i ++ j)) H
abbrev rInt1 : List V → Hp → VK → Prop := fun xs H Q => (∃ i, xs = [.int i] ∧ Q (.int i) H) ∨ ∃ k, xs = [.bl k] ∧ Q (.int (if k then 1 else 0)) H
abbrev rLenQ (K : PySem.W.Frag) : List V → Hp → VK → Prop := fun xs H Q => ∃ p ys, xs = [.ref p] ∧ (SqL K H p ys ∨ SqT K H p ys) ∧ Q (.int ys.length) H
abbrev rTupOf (K : PySem.W.Frag) : List V → Hp → VK → Prop := fun xs H Q => ∃ p ys, xs = [.ref p] ∧ ((SqL K H p ys ∧ ∀ l, H l = none → Q (.ref l) (upd H l (.tup ys))) ∨ (SqT K H p ys ∧ Q (.ref p) H))
abbrev rLstOf (K : PySem.W.Frag) : List V → Hp → VK → Prop := fun xs H Q => ∃ p ys, xs = [.ref p] ∧ (SqL K H p ys ∨ SqT K H p ys) ∧ ∀ l, H l = none → Q (.ref l) (upd H l (.lst ys))

/-! ### the heap grows: all but the objects in B stands as it stood -/
def Kp (B : Addr → Prop) (H H' : Hp) : Prop := ∀ a o, H a = some o → ¬ B a → H' a = some o
theorem Kp.refl (B : Addr → Prop) (H : Hp) : Kp B H H := fun _ _ h _ => h
theorem Kp.trans {B : Addr → Prop} {H H1 H2 : Hp} (a : Kp B H H1) (b : Kp B H1 H2) : Kp B H H2 := fun x o h n => b x o (a x o h n) n
theorem Kp.mono {B B' : Addr → Prop} {H H' : Hp} (a : Kp B H H') (h : ∀ x, B x → B' x) : Kp B' H H' := fun x o e n => a x o e fun z => n (h x z)
theorem Kp.same {B : Addr → Prop} {H H' : Hp} (a : Same H H') : Kp B H H' := fun x o e _ => a x o e
theorem Kp.new {B : Addr → Prop} {H : Hp} {p : Addr} {o : HO} (h : H p = none) : Kp B H (upd H p o) := fun x u e _ => by rw [upd_ne (ne_of_none e h)]; exact e
theorem Kp.upd {B : Addr → Prop} {H : Hp} {p : Addr} {o : HO} (h : B p) : Kp B H (upd H p o) := fun x u e n => by
  rw [upd_ne (fun z => n (by rw [z]; exact h))]; exact e
/-- behind a change of what was not there at the start -/
theorem Kp.late {B : Addr → Prop} {H H1 : Hp} {p : Addr} {o : HO} (a : Kp B H H1) (h : H p = none) : Kp B H (L2.upd H1 p o) := fun x u e n => by
  rw [upd_ne (ne_of_none e h)]; exact a x u e n
theorem Kp.at {B : Addr → Prop} {H H' : Hp} {a : Addr} {o : HO} (k : Kp B H H') (h : H a = some o) (n : ¬ B a) : H' a = some o := k a o h n
/-- a place that is free behind was free ahead (unless in B) -/
theorem Kp.free {B : Addr → Prop} {H H' : Hp} (k : Kp B H H') {l : Addr} (h : H' l = none) (n : ¬ B l) : H l = none := by
  cases q : H l with
  | none => rfl
  | some o => rw [k l o q n] at h; cases h
/-- only what may change stands in B -/
def NoTup (B : Addr → Prop) (H : Hp) : Prop := ∀ a, B a → ∃ o, H a = some o ∧ (∀ xs, o ≠ .tup xs) ∧ ∀ ob u, o ≠ .frz ob u
theorem Kp.sqT {B : Addr → Prop} {K : PySem.W.Frag} {H H' : Hp} {a : Addr} {xs : List V} (k : Kp B H H') (nt : NoTup B H) (h : SqT K H a xs) : SqT K H' a xs := by
  rcases h with (h | ⟨o, h⟩) | h
  · refine .inl (.inl (k _ _ h fun z => ?_))
    obtain ⟨u, e, n, _⟩ := nt a z
    rw [h] at e; cases e; exact n _ rfl
  · refine .inl (.inr ⟨o, k _ _ h fun z => ?_⟩)
    obtain ⟨u, e, _, n⟩ := nt a z
    rw [h] at e; cases e; exact n _ _ rfl
  · exact .inr h
theorem Kp.sqL {B : Addr → Prop} {K : PySem.W.Frag} {H H' : Hp} {a : Addr} {xs : List V} (k : Kp B H H') (n : ¬ B a) (h : SqL K H a xs) : SqL K H' a xs := by
  rcases h with (h | ⟨o, h⟩) | h
  · exact .inl (.inl (k _ _ h n))
  · exact .inl (.inr ⟨o, k _ _ h n⟩)
  · exact .inr h

/-! ### decided tests -/
theorem ifT {A B : Prop} {c : Bool} (e : c = true) (h : A) : if c = true then A else B := by rw [if_pos e]; exact h
theorem ifF {A B : Prop} {c : Bool} (e : c = false) (h : B) : if c = true then A else B := by rw [if_neg (by rw [e]; decide)]; exact h
theorem ifB {A B : Prop} {c : Bool} (h1 : c = true → A) (h2 : c = false → B) : if c = true then A else B := by
  cases e : c with
  | true => exact ifT rfl (h1 e)
  | false => exact ifF rfl (h2 e)
theorem dT {p : Prop} [Decidable p] (h : p) : decide p = true := decide_eq_true h
theorem dF {p : Prop} [Decidable p] (h : ¬ p) : decide p = false := decide_eq_false h
end Lp

/-! L1: take, kinds, above, under. -/
namespace Lp
open PySem PySem.Spec PyProof.Rows L2
def t_law_take (K : PySem.W.Frag) : TS :=
  tSeq (tIfS (tTest (tOp (rEqD K) (tVar 0) (tLst (tNil)))) (tRet (tC (.int 0))) (tNext)) (tSeq (tAsg (tOp (rIxL K) (tVar 0) (tC (.int 0))) (gName 2)) (tSeq (tAsg (tOp rDvW (tVar 2) (tVar 1)) (gSub (tVar 0) (tC (.int 0)) rSetL)) (tSeq (tIfS (tOr (tTest (tOp rEq (tOp (rIxL K) (tVar 0) (tC (.int 0))) (tC (.int 0)))) (tTest (tOp rEq (tOp (rIxL K) (tVar 0) (tC (.int 0))) (tUn rNeg (tC (.int 1)))))) (tDrop (tBM K "list" rPopAt (tVar 0) (tCons (tC (.int 0)) (tNil)))) (tNext)) (tRet (tOp rMdI (tVar 2) (tVar 1))))))

def t_law_kinds (K : PySem.W.Frag) (sp_law_take : Sp) : TS :=
  tSeq (tAsg (tLst (tNil)) (gName 2)) (tSeq (tFor (iRng1 (tCons (tOp rAdI (tC (.int 1)) (tCall sp_law_take [] E0 (tCons (tVar 0) (tCons (tVar 1) (tNil))))) (tNil))) (gName 3) (tSeq (tAsg (tCall sp_law_take [] E0 (tCons (tVar 0) (tCons (tOp rAdI (tVar 3) (tC (.int 1))) (tNil)))) (gName 4)) (tDrop (tBM K "list" rAppend (tVar 2) (tCons (tOp (rIxL K) (tLst (tCons (tC .non) (tCons (tOp rSbI (tVar 4) (tC (.int 1))) (tNil)))) (tCB rInt1 (tCons (tOp rGt (tVar 4) (tC (.int 0))) (tNil)))) (tNil)))))) (tRet (tCB (rTupOf K) (tCons (tVar 2) (tNil)))))

def t_law_above (K : PySem.W.Frag) : TS :=
  tSeq (tAsg (tLst (tCons (tVar 1) (tNil))) (gName 2)) (tSeq (tFor (iRng1 (tCons (tCB (rLenQ K) (tCons (tVar 0) (tNil))) (tNil))) (gName 3) (tSeq (tAsg (tOp (rIxT K) (tVar 0) (tOp (rIxL K) (tVar 2) (tUn rNeg (tC (.int 1))))) (gName 4)) (tIfS (tTest (tOp rNtN (tVar 4) (tC .non))) (tDrop (tBM K "list" rAppend (tVar 2) (tCons (tVar 4) (tNil)))) (tNext)))) (tRet (tVar 2)))

def t_under (K : PySem.W.Frag) : TS :=
  tSeq (tWhile (tAnd (tTest (tOp rNtN (tVar 1) (tC .non))) (tTest (tOp rNe (tVar 1) (tVar 2)))) (tAsg (tOp (rIxT K) (tVar 0) (tVar 1)) (gName 1))) (tRet (tOp rNtN (tVar 1) (tC .non)))

theorem sz_lt1 {n : Nat} (h : n < 1000000) : n < sizeLine := Nat.lt_of_lt_of_le h (by decide)
theorem sz_le1 {n : Nat} (h : n ≤ 1000000) : n ≤ sizeLine := Nat.le_trans h (by decide)
abbrev N_law_take : List Str := ["_law_box", "_law_many", "_law_number"]

theorem dp_ints {K : PySem.W.Frag} {H : Hp} : ∀ l : List Int, DpAll K H (l.map V.int) (l.map PyData.int)
  | [] => .nil
  | i :: r => .cons (.int i) (dp_ints r)
theorem lay_ints : ∀ l : List Int, PyData.canLayAll0 (l.map PyData.int) = true
  | [] => rfl
  | i :: r => by simp [PyData.canLayAll0, PyData.canLay0, lay_ints r]
theorem dep_ints : ∀ l : List Int, PyData.depthAll (l.map PyData.int) ≤ 1
  | [] => by simp [PyData.depthAll]
  | i :: r => by have := dep_ints r; simp [PyData.depthAll, PyData.depth]; omega
theorem shaped_ints (l : List Int) : SeqAt.shaped (.list (l.map PyData.int)) = true := by
  have := dep_ints l
  simp [SeqAt.shaped, PyData.canLay0, lay_ints, PyData.depth]
  omega
theorem eqv_ints_nil (l : List Int) : PyData.eqv (.list (l.map PyData.int)) (.list []) = l.isEmpty := by
  cases l <;> simp [PyData.eqv, PyData.eqvAll]

theorem ixN_n {n j : Nat} (hj : j < n) : ixN n (j : Int) = some j := by
  unfold ixN
  rw [if_pos (by omega), if_pos (by omega)]
  simp
theorem seq0 {n : Nat} : seqIndex? 0 (n + 1) = some 0 := by
  unfold seqIndex?
  simp
/-- the box: a list of ints at b -/
def spTake : Sp := fun vs H Q _ => ∃ (b : Addr) (l : List Int) (m : Int), vs = [.ref b, .int m] ∧ H b = some (.lst (l.map V.int)) ∧ 0 < m ∧ m ≤ 2000000 ∧
  ∀ (r : Int) (l' : List Int) (H' : Hp), 0 ≤ r → r < m → H' b = some (.lst (l'.map V.int)) → Kp (fun x => x = b) H H' → Q (.int r) H'

theorem rd_take {K : PySem.W.Frag} (vs : List V) (H : Hp) (Q : VK) (E : XK) (h : spTake vs H Q E) : t_law_take K { nx := fun _ H' => Q .non H', rt := Q } (start N_law_take vs) H := by
  obtain ⟨b, l, m, rfl, hb, hm, hm2, k⟩ := h
  refine ⟨_, rfl, (by show (0 : Nat) ≤ sizeLine; decide), fun p hp => ?_⟩
  have hb1 : L2.upd H p (.lst []) b = some (.lst (l.map V.int)) := by rw [upd_ne (ne_of_none hb hp)]; exact hb
  refine ⟨_, _, .lst (SqL.of hb1) (dp_ints l), .lst (SqL.of upd_same) .nil, shaped_ints l, rfl, _, rfl, ?_⟩
  rw [eqv_ints_nil]
  refine ifB (fun e => ?_) (fun e => ?_)
  · exact k 0 l _ (by omega) hm hb1 (Kp.new hp)
  · cases l with
    | nil => cases e
    | cons x r =>
      refine ⟨_, rfl, b, _, 0, .int x, rfl, rfl, SqL.of hb1, atI_nat (j := 0) rfl, ?_⟩
      refine ⟨_, rfl, _, rfl, x, m, rfl, rfl, wide_div (b := 30) hm (by omega) (by decide) (by decide), ?_⟩
      refine ⟨_, rfl, b, _, 0, 0, rfl, rfl, hb1, ixN_n (j := 0) (Nat.succ_pos _), ?_⟩
      have hb2 : L2.upd (L2.upd H p (.lst [])) b (.lst ((V.int (x / m)) :: r.map V.int)) b = some (.lst ((V.int (x / m)) :: r.map V.int)) := upd_same
      have kp : Kp (fun y => y = b) H (L2.upd (L2.upd H p (.lst [])) b (.lst ((V.int (x / m)) :: r.map V.int))) := (Kp.new hp).trans (Kp.upd rfl)
      have fin : ∀ H', ((∃ l' : List Int, H' b = some (.lst (l'.map V.int))) ∧ Kp (fun y => y = b) H H') → (tRet (tOp rMdI (tVar 2) (tVar 1))) { nx := fun _ H' => Q .non H', rt := Q } [some (.ref b), some (.int m), some (.int x)] H' := by
        intro H' ⟨⟨l', e⟩, kp'⟩
        exact ⟨_, rfl, _, rfl, x, m, rfl, rfl, hm, k _ l' H' (Int.emod_nonneg _ (by omega)) (Int.emod_lt_of_pos _ hm) e kp'⟩
      have pop : (tSeq (tDrop (tBM K "list" rPopAt (tVar 0) (tCons (tC (.int 0)) tNil))) (tRet (tOp rMdI (tVar 2) (tVar 1)))) { nx := fun _ H' => Q .non H', rt := Q } [some (.ref b), some (.int m), some (.int x)] (L2.upd (L2.upd H p (.lst [])) b (.lst ((V.int (x / m)) :: r.map V.int))) := by
        refine ⟨_, rfl, .inl ⟨rfl, _, SqL.of hb2⟩, b, _, 0, 0, _, rfl, rfl, hb2, by decide, by decide, seq0, rfl, ?_⟩
        exact fin _ ⟨⟨r, upd_same⟩, kp.trans (Kp.upd rfl)⟩
      have go : (tRet (tOp rMdI (tVar 2) (tVar 1))) { nx := fun _ H' => Q .non H', rt := Q } [some (.ref b), some (.int m), some (.int x)] (L2.upd (L2.upd H p (.lst [])) b (.lst ((V.int (x / m)) :: r.map V.int))) := fin _ ⟨⟨(x / m) :: r, hb2⟩, kp⟩
      refine ⟨_, rfl, b, _, 0, _, rfl, rfl, SqL.of hb2, atI_nat (j := 0) rfl, rfl, _, rfl, ifB (fun _ => pop) fun _ => ?_⟩
      refine ⟨_, rfl, b, _, 0, _, rfl, rfl, SqL.of hb2, atI_nat (j := 0) rfl, _, rfl, rfl, _, rfl, ifB (fun _ => pop) fun _ => go⟩

/-! ### heaps that grow alone -/
theorem _root_.L2.Same.sqT {K : PySem.W.Frag} {H H' : Hp} {a : Addr} {xs : List V} (e : Same H H') (h : SqT K H a xs) : SqT K H' a xs := by
  rcases h with (h | ⟨o, h⟩) | h
  · exact .inl (.inl (e _ _ h))
  · exact .inl (.inr ⟨o, e _ _ h⟩)
  · exact .inr h
/-! ### kinds -/
def kindV : Option Nat → V
  | none => .non
  | some j => .int (j : Int)
def WfK (ks : List (Option Nat)) : Prop := ∀ (i j : Nat), ks[i]? = some (some j) → j < i
abbrev N_law_kinds : List Str := ["_law_box", "_law_most", "_law_kinds_here", "_law_k", "_law_above_here"]
def spKinds : Sp := fun vs H Q _ => ∃ (b : Addr) (l : List Int) (m : Int), vs = [.ref b, .int m] ∧ H b = some (.lst (l.map V.int)) ∧ 0 < m ∧ m ≤ 1000 ∧
  ∀ (a : Addr) (ks : List (Option Nat)) (l' : List Int) (H' : Hp), WfK ks → 0 < ks.length → (ks.length : Int) ≤ m → H' a = some (.tup (ks.map kindV)) → H a = none → H' b = some (.lst (l'.map V.int)) → Kp (fun x => x = b) H H' → Q (.ref a) H'
theorem WfK.snoc {ks : List (Option Nat)} (w : WfK ks) {o : Option Nat} (h : ∀ j, o = some j → j < ks.length) : WfK (ks ++ [o]) := by
  intro i j e
  by_cases hi : i < ks.length
  · rw [List.getElem?_append_left hi] at e
    exact w i j e
  · rw [List.getElem?_append_right (by omega)] at e
    have hi2 : i = ks.length := by
      have := (List.getElem?_eq_some_iff.mp e).1
      simp at this
      omega
    subst hi2
    simp at e
    exact h j e
theorem rd_kinds {K : PySem.W.Frag} (vs : List V) (H : Hp) (Q : VK) (E : XK) (h : spKinds vs H Q E) : t_law_kinds K spTake { nx := fun _ H' => Q .non H', rt := Q } (start N_law_kinds vs) H := by
  obtain ⟨b, l, m, rfl, hb, hm, hm2, k⟩ := h
  refine ⟨(by show (0 : Nat) ≤ sizeLine; decide), fun p hp => ?_⟩
  have hb1 : L2.upd H p (.lst []) b = some (.lst (l.map V.int)) := by rw [upd_ne (ne_of_none hb hp)]; exact hb
  refine ⟨_, rfl, _, rfl, b, l, m, rfl, hb1, hm, by omega, fun r l1 H1 h0 h1 hb2 kp1 => ?_⟩
  have kpH : Kp (fun x => x = b) H H1 := (Kp.new hp).trans kp1
  have pb : p ≠ b := fun e => by rw [e, hb] at hp; cases hp
  refine ⟨_, _, rfl, rfl, _, rfl, by omega, by omega, for_range (lo := 0) (n := (1 + r).toNat) (fun i σ H2 => ∃ (ks : List (Option Nat)) (l2 : List Int) (v3 v4 : Option V), σ = [some (.ref b), some (.int m), some (.ref p), v3, v4] ∧
      ks.length = i ∧ WfK ks ∧ H2 p = some (.lst (ks.map kindV)) ∧ H2 b = some (.lst (l2.map V.int)) ∧ Kp (fun x => x = b) H H2)
    ⟨[], l1, none, none, rfl, rfl, (by intro i j e; simp at e), kp1 p _ upd_same pb, hb2, kpH⟩ ?_ ?_⟩
  · rintro i σ H2 hi ⟨ks, l2, v3, v4, rfl, hl, wf, hp2, hb3, kp2⟩
    refine ⟨_, rfl, _, rfl, _, _, rfl, rfl, b, l2, _, rfl, hb3, by omega, by omega, fun x l3 H3 x0 x1 hb4 kp3 => ?_⟩
    have hp3 := kp3 p _ hp2 pb
    refine ⟨_, rfl, .inl ⟨rfl, _, SqL.of hp3⟩, _, rfl, _, _, rfl, rfl, (by show (2 : Nat) ≤ sizeLine; decide), fun q hq => ?_⟩
    have pq : p ≠ q := ne_of_none hp3 hq
    have bq : b ≠ q := ne_of_none hb4 hq
    have fin : ∀ (o : Option Nat), (∀ j, o = some j → j < ks.length) → (0 : Nat) < 1 → ks.length < sizeLine ∧ (∃ (ks' : List (Option Nat)) (l2 : List Int) (v3 v4 : Option V), [some (V.ref b), some (.int m), some (.ref p), some (.int (0 + (i : Int))), some (.int x)] = [some (.ref b), some (.int m), some (.ref p), v3, v4] ∧
      ks'.length = i + 1 ∧ WfK ks' ∧ (L2.upd (L2.upd H3 q (.lst [.non, .int (x - 1)])) p (.lst (ks.map kindV ++ [kindV o]))) p = some (.lst (ks'.map kindV)) ∧ (L2.upd (L2.upd H3 q (.lst [.non, .int (x - 1)])) p (.lst (ks.map kindV ++ [kindV o]))) b = some (.lst (l2.map V.int)) ∧ Kp (fun x => x = b) H (L2.upd (L2.upd H3 q (.lst [.non, .int (x - 1)])) p (.lst (ks.map kindV ++ [kindV o])))) := by
      intro o ho _
      refine ⟨sz_lt1 (by omega), ks ++ [o], l3, _, _, rfl, by simp; omega, wf.snoc ho, by rw [upd_same, List.map_append]; rfl, by rw [upd_ne pb.symm, upd_ne bq]; exact hb4, ?_⟩
      exact ((kp2.trans kp3).trans (Kp.new hq)).late hp
    refine ⟨_, rfl, _, _, rfl, rfl, .inr ⟨_, rfl, ?_⟩⟩
    by_cases hx : 0 < x
    · have e1 : (if decide ((0 : Int) < x) = true then (1 : Int) else 0) = 1 := by rw [if_pos (decide_eq_true hx)]
      rw [e1]
      obtain ⟨z1, z2⟩ := fin (some (x - 1).toNat) (fun j e => by cases e; omega) (by decide)
      have e2 : V.int (x - 1) = kindV (some (x - 1).toNat) := by show V.int (x - 1) = V.int ((x - 1).toNat : Int); rw [Int.toNat_of_nonneg (by omega)]
      refine ⟨q, _, 1, .int (x - 1), rfl, rfl, SqL.of upd_same, atI_nat (j := 1) rfl, p, ks.map kindV, _, rfl, rfl, by rw [upd_ne pq]; exact hp3, by rw [List.length_map]; exact z1, ?_⟩
      rw [← e2] at z2
      exact z2
    · have e1 : (if decide ((0 : Int) < x) = true then (1 : Int) else 0) = 0 := by rw [if_neg (by rw [decide_eq_false hx]; decide)]
      rw [e1]
      obtain ⟨z1, z2⟩ := fin none (fun j e => by cases e) (by decide)
      exact ⟨q, _, 0, .non, rfl, rfl, SqL.of upd_same, atI_nat (j := 0) rfl, p, ks.map kindV, _, rfl, rfl, by rw [upd_ne pq]; exact hp3, by rw [List.length_map]; exact z1, z2⟩
  · rintro σ H2 ⟨ks, l2, v3, v4, rfl, hl, wf, hp2, hb3, kp2⟩
    refine ⟨_, rfl, p, _, rfl, .inl ⟨SqL.of hp2, fun q hq => ?_⟩⟩
    have bq : b ≠ q := ne_of_none hb3 hq
    exact k q ks l2 _ wf (by omega) (by omega) upd_same (kp2.free hq fun e => bq e.symm) (by rw [upd_ne bq]; exact hb3) (kp2.trans (Kp.new hq))
/-! ### above, under -/
/-- the kinds that one comes to by going up -/
def chain (ks : List (Option Nat)) : Nat → Nat → List Nat
  | 0, _ => []
  | f + 1, k => k :: (match ks[k]? with
    | some (some j) => chain ks f j
    | _ => [])
theorem chain_fuel {ks : List (Option Nat)} (w : WfK ks) : ∀ (f g k : Nat), k < f → k < g → chain ks f k = chain ks g k
  | 0, _, _, h, _ => absurd h (Nat.not_lt_zero _)
  | _, 0, _, _, h => absurd h (Nat.not_lt_zero _)
  | f + 1, g + 1, k, hf, hg => by
    unfold chain
    cases e : ks[k]? with
    | none => rfl
    | some o =>
      cases o with
      | none => rfl
      | some j =>
        have := w k j e
        show k :: chain ks f j = k :: chain ks g j
        rw [chain_fuel w f g j (by omega) (by omega)]
/-- kind k is other, or lies under it -/
def under (ks : List (Option Nat)) (k o : Nat) : Bool := decide (o ∈ chain ks (k + 1) k)
theorem under_eq {ks : List (Option Nat)} (w : WfK ks) (k o : Nat) : under ks k o = (decide (k = o) || match ks[k]? with
    | some (some j) => under ks j o
    | _ => false) := by
  unfold under
  conv => lhs; unfold chain
  cases e : ks[k]? with
  | none => simp [eq_comm]
  | some q =>
    cases q with
    | none => simp [eq_comm]
    | some j =>
      have := w k j e
      show decide (o ∈ k :: chain ks k j) = (decide (k = o) || decide (o ∈ chain ks (j + 1) j))
      rw [chain_fuel w k (j + 1) j (by omega) (by omega)]
      simp [eq_comm]
/-- under(kinds, kind, other): kinds at a -/
def spUnder (K : PySem.W.Frag) : Sp := fun vs H Q _ => ∃ (a : Addr) (ks : List (Option Nat)) (k o : Nat), vs = [.ref a, .int (k : Int), .int (o : Int)] ∧ SqT K H a (ks.map kindV) ∧ WfK ks ∧ k < ks.length ∧ Q (.bl (under ks k o)) H
abbrev N_under : List Str := ["kinds", "kind", "other"]
theorem rd_under {K : PySem.W.Frag} (vs : List V) (H : Hp) (Q : VK) (E : XK) (h : spUnder K vs H Q E) : t_under K { nx := fun _ H' => Q .non H', rt := Q } (start N_under vs) H := by
  obtain ⟨a, ks, k, o, rfl, hS, wf, hk, q⟩ := h
  refine ⟨fun m σ H' => H' = H ∧ ∃ c : Option Nat, σ = [some (.ref a), some (kindV c), some (.int (o : Int))] ∧ (∀ j, c = some j → j < ks.length ∧ under ks j o = under ks k o) ∧ (c = none → under ks k o = false) ∧ m = (match c with
      | some j => j + 1
      | none => 0), ⟨_, rfl, some k, rfl, (fun j e => by cases e; exact ⟨hk, rfl⟩), (fun e => by cases e), rfl⟩, ?_⟩
  rintro m σ H' ⟨rfl, c, rfl, h1, h2, rfl⟩
  refine ⟨_, rfl, rfl, _, rfl, ?_⟩
  cases c with
  | none =>
    refine ifF rfl (ifF rfl ?_)
    refine ⟨_, rfl, rfl, ?_⟩
    show Q (.bl (!decide (V.non = V.non))) H'
    rw [dT rfl, ← show under ks k o = !true from h2 rfl]
    exact q
  | some j =>
    obtain ⟨hj, ej⟩ := h1 j rfl
    refine ifT rfl ⟨_, rfl, _, rfl, rfl, _, rfl, ?_⟩
    refine ifB (fun e => ?_) (fun e => ?_)
    · have ne : j ≠ o := fun z => by
        rw [z] at e
        simp [kindV] at e
      cases e2 : ks[j]? with
      | none => exact absurd (List.getElem?_eq_none_iff.mp e2) (by omega)
      | some d =>
        refine ⟨fun σ' H2 => ∃ m', m' < j + 1 ∧ (H2 = H' ∧ ∃ c : Option Nat, σ' = [some (.ref a), some (kindV c), some (.int (o : Int))] ∧ (∀ j, c = some j → j < ks.length ∧ under ks j o = under ks k o) ∧ (c = none → under ks k o = false) ∧ m' = (match c with
          | some j => j + 1
          | none => 0)), fun _ _ z => z, ?_⟩
        have eu := under_eq wf j o
        rw [ej, e2, decide_eq_false ne, Bool.false_or] at eu
        refine ⟨_, rfl, _, rfl, a, _, _, kindV d, rfl, rfl, hS, atI_nat (j := j) (by rw [List.getElem?_map, e2]; rfl), ?_⟩
        cases d with
        | none => exact ⟨0, by omega, rfl, none, rfl, (fun _ z => by cases z), (fun _ => eu), rfl⟩
        | some d =>
          have := wf j d e2
          exact ⟨d + 1, by omega, rfl, some d, rfl, (fun _ z => by cases z; exact ⟨by omega, eu.symm⟩), (fun z => by cases z), rfl⟩
    · have eo : j = o := by
        simp [kindV] at e
        omega
      subst eo
      have eu := under_eq wf j j
      rw [ej, dT rfl, Bool.true_or] at eu
      refine ⟨_, rfl, rfl, ?_⟩
      show Q (.bl (!decide (kindV (some j) = V.non))) H'
      rw [dF (by intro z; cases z)]
      rw [eu] at q
      exact q
/-- _law_above(kinds, kind) -/
def spAbove (K : PySem.W.Frag) : Sp := fun vs H Q _ => ∃ (a : Addr) (ks : List (Option Nat)) (k : Nat), vs = [.ref a, .int (k : Int)] ∧ SqT K H a (ks.map kindV) ∧ WfK ks ∧ k < ks.length ∧ ks.length ≤ 1000 ∧
  ∀ (r : Addr) (row : List Nat) (H' : Hp), (∀ o, o ∈ row ↔ under ks k o = true) → H r = none → H' r = some (.lst (row.map fun n : Nat => V.int (n : Int))) → Same H H' → Q (.ref r) H'
abbrev N_law_above : List Str := ["_law_kinds_here", "_law_kind", "_law_row", "_law_k", "_law_last"]
theorem rd_above {K : PySem.W.Frag} (vs : List V) (H : Hp) (Q : VK) (E : XK) (h : spAbove K vs H Q E) : t_law_above K { nx := fun _ H' => Q .non H', rt := Q } (start N_law_above vs) H := by
  obtain ⟨a, ks, k, rfl, hS, wf, hk, hz, q⟩ := h
  refine ⟨_, rfl, (by show (1 : Nat) ≤ sizeLine; decide), fun p hp => ?_⟩
  have s0 : ∀ {o : HO}, Same H (L2.upd H p o) := fun b u e => by rw [upd_ne (ne_of_none e hp)]; exact e
  refine ⟨_, rfl, a, _, rfl, .inr (s0.sqT hS), _, rfl, by omega, by rw [List.length_map]; omega, ?_⟩
  rw [List.length_map, Int.toNat_natCast]
  refine for_range (lo := 0) (n := ks.length) (fun i σ H2 => ∃ (row : List Nat) (c : Nat) (v3 v4 : Option V), σ = [some (.ref a), some (.int (k : Int)), some (.ref p), v3, v4] ∧
      H2 p = some (.lst ((row ++ [c]).map fun n : Nat => V.int (n : Int))) ∧ Same H H2 ∧ c < ks.length ∧ row.length ≤ i ∧ (∀ o, under ks k o = true ↔ (o ∈ row ∨ under ks c o = true)) ∧ (ks[c]? = some none ∨ c + i < ks.length))
    ⟨[], k, none, none, rfl, upd_same, s0, hk, Nat.le_refl _, by simp, .inr (by omega)⟩ ?_ ?_
  · rintro i σ H2 hi ⟨row, c, v3, v4, rfl, hp2, s2, hc, hl, hu, ht⟩
    have hp2' : H2 p = some (.lst (row.map (fun n : Nat => V.int (n : Int)) ++ [V.int (c : Int)])) := by rw [hp2, List.map_append]; rfl
    cases e : ks[c]? with
    | none => exact absurd (List.getElem?_eq_none_iff.mp e) (by omega)
    | some d =>
      refine ⟨_, rfl, _, rfl, _, rfl, p, _, -1, .int (c : Int), rfl, rfl, SqL.of hp2', atI_last _ _, a, _, _, kindV d, rfl, rfl, s2.sqT hS, atI_nat (j := c) (by rw [List.getElem?_map, e]; rfl), ?_⟩
      refine ⟨_, rfl, rfl, _, rfl, ?_⟩
      have eu := fun o => under_eq wf c o
      cases d with
      | none =>
        refine ifF rfl ?_
        exact ⟨row, c, _, _, rfl, hp2, s2, hc, by omega, hu, .inl e⟩
      | some d =>
        have hd := wf c d e
        refine ifT rfl ⟨_, rfl, .inl ⟨rfl, _, SqL.of hp2⟩, _, rfl, p, _, _, rfl, rfl, hp2, sz_lt1 (by simp; omega), ?_⟩
        refine ⟨row ++ [c], d, _, _, rfl, by rw [upd_same]; simp [kindV], fun b u z => by rw [upd_ne (ne_of_none z hp)]; exact s2 b u z, by omega, by simp; omega, fun o => ?_, ?_⟩
        · have e1 := eu o
          rw [e] at e1
          rw [hu o, e1]
          simp only [Bool.or_eq_true, decide_eq_true_eq, List.mem_append, List.mem_singleton]
          constructor
          · rintro (z | z | z)
            · exact .inl (.inl z)
            · exact .inl (.inr z.symm)
            · exact .inr z
          · rintro ((z | z) | z)
            · exact .inl z
            · exact .inr (.inl z.symm)
            · exact .inr (.inr z)
        · rcases ht with ht | ht
          · rw [e] at ht; cases ht
          · exact .inr (by omega)
  · rintro σ H2 ⟨row, c, v3, v4, rfl, hp2, s2, hc, hl, hu, ht⟩
    have hroot : ks[c]? = some none := by
      rcases ht with ht | ht
      · exact ht
      · omega
    refine ⟨_, rfl, q p (row ++ [c]) H2 (fun o => ?_) hp hp2 s2⟩
    have eu := under_eq wf c o
    rw [hroot] at eu
    rw [hu o, eu]
    simp only [Bool.or_false, decide_eq_true_eq, List.mem_append, List.mem_singleton, eq_comm (a := o)]
end Lp

/-! Ld: data that is tuples throughout, and stays; expressions. -/
namespace Lp
open PySem PySem.Spec PyProof.Rows L2

/-! ### what stays by itself: tuples, and what is locked -/
structure Tk (H H' : Hp) : Prop where
  tup : ∀ a xs, H a = some (.tup xs) → H' a = some (.tup xs)
  frz : ∀ a o u, H a = some (.frz o u) → H' a = some (.frz o u)
theorem Tk.refl (H : Hp) : Tk H H := ⟨fun _ _ h => h, fun _ _ _ h => h⟩
theorem Tk.trans {H H1 H2 : Hp} (a : Tk H H1) (b : Tk H1 H2) : Tk H H2 := ⟨fun x xs h => b.tup x xs (a.tup x xs h), fun x o u h => b.frz x o u (a.frz x o u h)⟩
theorem Tk.same {H H' : Hp} (s : Same H H') : Tk H H' := ⟨fun a _ h => s a _ h, fun a _ _ h => s a _ h⟩
theorem Tk.new {H : Hp} {p : Addr} {o : HO} (h : H p = none) : Tk H (upd H p o) := ⟨fun a xs e => by rw [upd_ne (ne_of_none e h)]; exact e, fun a o u e => by rw [upd_ne (ne_of_none e h)]; exact e⟩
theorem Tk.lst {H : Hp} {p : Addr} {xs : List V} {o : HO} (h : H p = some (.lst xs)) : Tk H (upd H p o) :=
  ⟨fun a ys e => by rw [upd_ne (ne_of e h (by intro z; cases z))]; exact e, fun a o u e => by rw [upd_ne (ne_of e h (by intro z; cases z))]; exact e⟩
theorem Tk.ins {H : Hp} {p C dx : Addr} {fs : List (Str × V)} {o : HO} (h : H p = some (.ins C dx fs)) : Tk H (upd H p o) :=
  ⟨fun a ys e => by rw [upd_ne (ne_of e h (by intro z; cases z))]; exact e, fun a o u e => by rw [upd_ne (ne_of e h (by intro z; cases z))]; exact e⟩
/-- of a change of listed things that are lists or instances -/
theorem Kp.tk {B : Addr → Prop} {H H' : Hp} (k : Kp B H H') (nt : NoTup B H) : Tk H H' :=
  ⟨fun a xs e => k a _ e fun z => by obtain ⟨u, e2, n, _⟩ := nt a z; rw [e] at e2; cases e2; exact n _ rfl, fun a o u e => k a _ e fun z => by obtain ⟨v, e2, _, n⟩ := nt a z; rw [e] at e2; cases e2; exact n _ _ rfl⟩
theorem noTup1 {H : Hp} {b : Addr} {xs : List V} (h : H b = some (.lst xs)) : NoTup (fun x => x = b) H := fun a e => by
  cases (show a = b from e)
  exact ⟨.lst xs, h, (fun _ z => by cases z), (fun _ _ z => by cases z)⟩
theorem Kp.tk1 {H H' : Hp} {b : Addr} {xs : List V} (k : Kp (fun x => x = b) H H') (h : H b = some (.lst xs)) : Tk H H' := k.tk (noTup1 h)
theorem Tk.sqT {K : PySem.W.Frag} {H H' : Hp} {a : Addr} {xs : List V} (k : Tk H H') (h : SqT K H a xs) : SqT K H' a xs := by
  rcases h with (h | ⟨o, h⟩) | h
  · exact .inl (.inl (k.tup _ _ h))
  · exact .inl (.inr ⟨o, k.frz _ _ _ h⟩)
  · exact .inr h

/-! ### data of tuples -/
mutual
inductive Tp (K : PySem.W.Frag) (H : Hp) : V → PyData → Prop
  | non : Tp K H .non .none
  | bl (b : Bool) : Tp K H (.bl b) (.bool b)
  | int (i : Int) : Tp K H (.int i) (.int i)
  | str (x : Str) : Tp K H (.str x) (.str x)
  | tup {a : Addr} {xs : List V} {ds : List PyData} : SqT K H a xs → TpAll K H xs ds → Tp K H (.ref a) (.tuple ds)
inductive TpAll (K : PySem.W.Frag) (H : Hp) : List V → List PyData → Prop
  | nil : TpAll K H [] []
  | cons {v : V} {vs : List V} {d : PyData} {ds : List PyData} : Tp K H v d → TpAll K H vs ds → TpAll K H (v :: vs) (d :: ds)
end
section
variable {K : PySem.W.Frag} {H H' : Hp}
mutual
theorem Tp.tk (k : Tk H H') : ∀ (d : PyData) (v : V), Tp K H v d → Tp K H' v d
  | .none, _, h => by cases h; exact .non
  | .bool _, _, h => by cases h; exact .bl _
  | .int _, _, h => by cases h; exact .int _
  | .str _, _, h => by cases h; exact .str _
  | .tuple ds, _, h => by
    cases h with
    | tup hs ha => exact .tup (k.sqT hs) (TpAll.tk k ds _ ha)
  | .list _, _, h => by cases h
  | .dict _, _, h => by cases h
theorem TpAll.tk (k : Tk H H') : ∀ (ds : List PyData) (vs : List V), TpAll K H vs ds → TpAll K H' vs ds
  | [], _, h => by cases h; exact .nil
  | d :: ds, _, h => by
    cases h with
    | cons h1 h2 => exact .cons (Tp.tk k d _ h1) (TpAll.tk k ds _ h2)
end
mutual
theorem Tp.dp : ∀ (d : PyData) (v : V), Tp K H v d → Dp K H v d
  | .none, _, h => by cases h; exact .non
  | .bool _, _, h => by cases h; exact .bl _
  | .int _, _, h => by cases h; exact .int _
  | .str _, _, h => by cases h; exact .str _
  | .tuple ds, _, h => by
    cases h with
    | tup hs ha => exact .tup hs (TpAll.dp ds _ ha)
  | .list _, _, h => by cases h
  | .dict _, _, h => by cases h
theorem TpAll.dp : ∀ (ds : List PyData) (vs : List V), TpAll K H vs ds → DpAll K H vs ds
  | [], _, h => by cases h; exact .nil
  | d :: ds, _, h => by
    cases h with
    | cons h1 h2 => exact .cons (Tp.dp d _ h1) (TpAll.dp ds _ h2)
end
theorem Tp.mono {v : V} {d : PyData} (h : Tp K H v d) (k : Tk H H') : Tp K H' v d := Tp.tk k d v h
theorem TpAll.mono {vs : List V} {ds : List PyData} (h : TpAll K H vs ds) (k : Tk H H') : TpAll K H' vs ds := TpAll.tk k ds vs h
theorem Tp.intE {v : V} {i : Int} (h : Tp K H v (.int i)) : v = .int i := by cases h; rfl
theorem Tp.strE {v : V} {x : Str} (h : Tp K H v (.str x)) : v = .str x := by cases h; rfl
theorem Tp.nonE {v : V} (h : Tp K H v .none) : v = .non := by cases h; rfl
theorem Tp.tupE {v : V} {ds : List PyData} (h : Tp K H v (.tuple ds)) : ∃ a xs, v = .ref a ∧ SqT K H a xs ∧ TpAll K H xs ds := by
  cases h with
  | tup hs ha => exact ⟨_, _, rfl, hs, ha⟩
theorem TpAll.nilE {vs : List V} (h : TpAll K H vs []) : vs = [] := by cases h; rfl
theorem TpAll.consE {vs : List V} {d : PyData} {ds : List PyData} (h : TpAll K H vs (d :: ds)) : ∃ v r, vs = v :: r ∧ Tp K H v d ∧ TpAll K H r ds := by
  cases h with
  | cons h1 h2 => exact ⟨_, _, rfl, h1, h2⟩
theorem TpAll.length : ∀ {vs : List V} {ds : List PyData}, TpAll K H vs ds → vs.length = ds.length
  | _, [], h => by cases h; rfl
  | _, d :: ds, h => by
    cases h with
    | cons h1 h2 => simp [h2.length]
theorem TpAll.get : ∀ {vs : List V} {ds : List PyData} {i : Nat} {v : V}, TpAll K H vs ds → vs[i]? = some v → ∃ d, ds[i]? = some d ∧ Tp K H v d
  | _, [], i, v, h, e => by cases h; simp at e
  | _, d :: ds, 0, v, h, e => by
    cases h with
    | cons h1 h2 => simp at e; subst e; exact ⟨d, rfl, h1⟩
  | _, d :: ds, i + 1, v, h, e => by
    cases h with
    | cons h1 h2 =>
      obtain ⟨d', e', t⟩ := h2.get (i := i) (v := v) (by simpa using e)
      exact ⟨d', by simpa using e', t⟩
theorem TpAll.get' : ∀ {vs : List V} {ds : List PyData} {i : Nat} {d : PyData}, TpAll K H vs ds → ds[i]? = some d → ∃ v, vs[i]? = some v ∧ Tp K H v d
  | _, [], i, d, h, e => by simp at e
  | _, d0 :: ds, 0, d, h, e => by
    cases h with
    | cons h1 h2 => simp at e; subst e; exact ⟨_, rfl, h1⟩
  | _, d0 :: ds, i + 1, d, h, e => by
    cases h with
    | cons h1 h2 =>
      obtain ⟨v, e', t⟩ := h2.get' (i := i) (d := d) (by simpa using e)
      exact ⟨v, by simpa using e', t⟩
theorem TpAll.snoc : ∀ {vs : List V} {ds : List PyData} {v : V} {d : PyData}, TpAll K H vs ds → Tp K H v d → TpAll K H (vs ++ [v]) (ds ++ [d])
  | _, [], v, d, h, t => by cases h; exact .cons t .nil
  | _, d0 :: ds, v, d, h, t => by
    cases h with
    | cons h1 h2 => exact .cons h1 (h2.snoc t)
theorem TpAll.app : ∀ {vs us : List V} {ds es : List PyData}, TpAll K H vs ds → TpAll K H us es → TpAll K H (vs ++ us) (ds ++ es)
  | _, _, [], _, h, t => by cases h; exact t
  | _, _, d0 :: ds, _, h, t => by
    cases h with
    | cons h1 h2 => exact .cons h1 (h2.app t)
/-- two, three, four, five places -/
theorem Tp.tup1 {v : V} {d0 : PyData} (h : Tp K H v (.tuple [d0])) : ∃ a x0, v = .ref a ∧ SqT K H a [x0] ∧ Tp K H x0 d0 := by
  obtain ⟨a, xs, rfl, hs, ha⟩ := h.tupE
  obtain ⟨x0, r0, rfl, h0, ha⟩ := ha.consE
  cases ha.nilE
  exact ⟨a, x0, rfl, hs, h0⟩
theorem Tp.tup2 {v : V} {d0 d1 : PyData} (h : Tp K H v (.tuple [d0, d1])) : ∃ a x0 x1, v = .ref a ∧ SqT K H a [x0, x1] ∧ Tp K H x0 d0 ∧ Tp K H x1 d1 := by
  obtain ⟨a, xs, rfl, hs, ha⟩ := h.tupE
  obtain ⟨x0, r0, rfl, h0, ha⟩ := ha.consE
  obtain ⟨x1, r1, rfl, h1, ha⟩ := ha.consE
  cases ha.nilE
  exact ⟨a, x0, x1, rfl, hs, h0, h1⟩
theorem Tp.tup3 {v : V} {d0 d1 d2 : PyData} (h : Tp K H v (.tuple [d0, d1, d2])) : ∃ a x0 x1 x2, v = .ref a ∧ SqT K H a [x0, x1, x2] ∧ Tp K H x0 d0 ∧ Tp K H x1 d1 ∧ Tp K H x2 d2 := by
  obtain ⟨a, xs, rfl, hs, ha⟩ := h.tupE
  obtain ⟨x0, r0, rfl, h0, ha⟩ := ha.consE
  obtain ⟨x1, r1, rfl, h1, ha⟩ := ha.consE
  obtain ⟨x2, r2, rfl, h2, ha⟩ := ha.consE
  cases ha.nilE
  exact ⟨a, x0, x1, x2, rfl, hs, h0, h1, h2⟩
theorem Tp.tup4 {v : V} {d0 d1 d2 d3 : PyData} (h : Tp K H v (.tuple [d0, d1, d2, d3])) : ∃ a x0 x1 x2 x3, v = .ref a ∧ SqT K H a [x0, x1, x2, x3] ∧ Tp K H x0 d0 ∧ Tp K H x1 d1 ∧ Tp K H x2 d2 ∧ Tp K H x3 d3 := by
  obtain ⟨a, xs, rfl, hs, ha⟩ := h.tupE
  obtain ⟨x0, r0, rfl, h0, ha⟩ := ha.consE
  obtain ⟨x1, r1, rfl, h1, ha⟩ := ha.consE
  obtain ⟨x2, r2, rfl, h2, ha⟩ := ha.consE
  obtain ⟨x3, r3, rfl, h3, ha⟩ := ha.consE
  cases ha.nilE
  exact ⟨a, x0, x1, x2, x3, rfl, hs, h0, h1, h2, h3⟩
theorem Tp.tup5 {v : V} {d0 d1 d2 d3 d4 : PyData} (h : Tp K H v (.tuple [d0, d1, d2, d3, d4])) : ∃ a x0 x1 x2 x3 x4, v = .ref a ∧ SqT K H a [x0, x1, x2, x3, x4] ∧ Tp K H x0 d0 ∧ Tp K H x1 d1 ∧ Tp K H x2 d2 ∧ Tp K H x3 d3 ∧ Tp K H x4 d4 := by
  obtain ⟨a, xs, rfl, hs, ha⟩ := h.tupE
  obtain ⟨x0, r0, rfl, h0, ha⟩ := ha.consE
  obtain ⟨x1, r1, rfl, h1, ha⟩ := ha.consE
  obtain ⟨x2, r2, rfl, h2, ha⟩ := ha.consE
  obtain ⟨x3, r3, rfl, h3, ha⟩ := ha.consE
  obtain ⟨x4, r4, rfl, h4, ha⟩ := ha.consE
  cases ha.nilE
  exact ⟨a, x0, x1, x2, x3, x4, rfl, hs, h0, h1, h2, h3, h4⟩
/-- a new tuple -/
theorem Tp.mk {p : Addr} {xs : List V} {ds : List PyData} (hp : H p = none) (h : TpAll K H xs ds) : Tp K (upd H p (.tup xs)) (.ref p) (.tuple ds) := .tup (.inl (.inl upd_same)) (h.mono (Tk.new hp))
end

/-! ### expressions -/
inductive BOp where | add | sub | mul | less
  deriving DecidableEq
def BOp.s : BOp → Str
  | .add => "add" | .sub => "sub" | .mul => "mul" | .less => "less"
def BOp.ap : BOp → Int → Int → Int
  | .add, i, j => (i + j) % 10007
  | .sub, i, j => (i - j) % 10007
  | .mul, i, j => i * j % 10007
  | .less, i, j => if i < j then 1 else 0
inductive Ex where
  | num (n : Int)
  | var (k : Nat)
  | bin (o : BOp) (a b : Ex)
  deriving DecidableEq
def Ex.d : Ex → PyData
  | .num n => .tuple [.str "num", .int n]
  | .var k => .tuple [.str "var", .int (k : Int)]
  | .bin o a b => .tuple [.str o.s, a.d, b.d]
def Ex.val (σ : List Int) : Ex → Int
  | .num n => n
  | .var k => σ.getD k 0
  | .bin o a b => o.ap (a.val σ) (b.val σ)
def Ex.Wf : Ex → Prop
  | .num n => 0 ≤ n ∧ n < 1000
  | .var k => k < 8
  | .bin _ a b => a.Wf ∧ b.Wf
def Ex.dep : Ex → Nat
  | .num _ => 1
  | .var _ => 1
  | .bin _ a b => max a.dep b.dep + 1
/-- eight numbers from 0 to 10006 -/
def InR (σ : List Int) : Prop := σ.length = 8 ∧ ∀ n ∈ σ, 0 ≤ n ∧ n < 10007
theorem BOp.ap_in (o : BOp) (i j : Int) : 0 ≤ o.ap i j ∧ o.ap i j < 10007 := by
  cases o with
  | less => unfold BOp.ap; split <;> omega
  | _ => exact ⟨Int.emod_nonneg _ (by decide), Int.emod_lt_of_pos _ (by decide)⟩
theorem Ex.val_in {σ : List Int} (r : InR σ) : ∀ {e : Ex}, e.Wf → 0 ≤ e.val σ ∧ e.val σ < 10007
  | .num n, w => by
    have : 0 ≤ n ∧ n < 1000 := w
    show 0 ≤ n ∧ n < 10007
    omega
  | .var k, w => by
    have hk : k < σ.length := by rw [r.1]; exact w
    show 0 ≤ σ.getD k 0 ∧ σ.getD k 0 < 10007
    rw [List.getD_eq_getElem?_getD, List.getElem?_eq_getElem hk]
    exact r.2 _ (List.getElem_mem hk)
  | .bin o a b, _ => o.ap_in _ _
theorem BOp.ne {o : BOp} : (V.str o.s ≠ V.str "num") ∧ (V.str o.s ≠ V.str "var") := by cases o <;> decide
end Lp

/-! L2v: values of expressions: joined, value_of, the law's own, and its drawing of expressions. -/
namespace Lp
open PySem PySem.Spec PyProof.Rows L2
def t_joined (K : PySem.W.Frag) : TS :=
  tSeq (tIfS (tTest (tOp rEq (tVar 0) (tC (.str "add")))) (tRet (tOp rMdI (tOp rAdI (tVar 1) (tVar 2)) (tC (.int 10007)))) (tNext)) (tSeq (tIfS (tTest (tOp rEq (tVar 0) (tC (.str "sub")))) (tRet (tOp rMdI (tOp rSbI (tVar 1) (tVar 2)) (tC (.int 10007)))) (tNext)) (tSeq (tIfS (tTest (tOp rEq (tVar 0) (tC (.str "mul")))) (tRet (tOp rMdI (tOp rMlI (tVar 1) (tVar 2)) (tC (.int 10007)))) (tNext)) (tRet (tCB rInt1 (tCons (tOp rLt (tVar 1) (tVar 2)) (tNil))))))

def t_value_of (K : PySem.W.Frag) (sp_joined : Sp) (sp_value_of : Sp) : TS :=
  tSeq (tIfS (tTest (tOp rEq (tOp (rIxT K) (tVar 0) (tC (.int 0))) (tC (.str "num")))) (tRet (tOp (rIxT K) (tVar 0) (tC (.int 1)))) (tNext)) (tSeq (tIfS (tTest (tOp rEq (tOp (rIxT K) (tVar 0) (tC (.int 0))) (tC (.str "var")))) (tRet (tOp (rIxL K) (tVar 1) (tOp (rIxT K) (tVar 0) (tC (.int 1))))) (tNext)) (tRet (tCall sp_joined [] E0 (tCons (tOp (rIxT K) (tVar 0) (tC (.int 0))) (tCons (tCall sp_value_of [] E0 (tCons (tOp (rIxT K) (tVar 0) (tC (.int 1))) (tCons (tVar 1) (tNil)))) (tCons (tCall sp_value_of [] E0 (tCons (tOp (rIxT K) (tVar 0) (tC (.int 2))) (tCons (tVar 1) (tNil)))) (tNil)))))))

def t_law_part (K : PySem.W.Frag) (sp_law_take : Sp) (sp_law_part : Sp) : TS :=
  tSeq (tAsg (tCall sp_law_take [] E0 (tCons (tVar 0) (tCons (tC (.int 8)) (tNil)))) (gName 2)) (tSeq (tIfS (tTest (tOp rLt (tVar 2) (tC (.int 2)))) (tRet (tTup (tCons (tC (.str "num")) (tCons (tCall sp_law_take [] E0 (tCons (tVar 0) (tCons (tC (.int 1000)) (tNil)))) (tNil))))) (tNext)) (tSeq (tIfS (tOr (tTest (tOp rEq (tVar 1) (tC (.int 0)))) (tTest (tOp rEq (tVar 2) (tC (.int 2))))) (tRet (tTup (tCons (tC (.str "num")) (tCons (tCall sp_law_take [] E0 (tCons (tVar 0) (tCons (tC (.int 3)) (tNil)))) (tNil))))) (tNext)) (tSeq (tIfS (tTest (tOp rLt (tVar 2) (tC (.int 5)))) (tRet (tTup (tCons (tC (.str "var")) (tCons (tCall sp_law_take [] E0 (tCons (tVar 0) (tCons (tC (.int 8)) (tNil)))) (tNil))))) (tNext)) (tSeq (tAsg (tOp (rIxL K) (tLst (tCons (tC (.str "add")) (tCons (tC (.str "sub")) (tCons (tC (.str "mul")) (tCons (tC (.str "less")) (tNil)))))) (tCall sp_law_take [] E0 (tCons (tVar 0) (tCons (tC (.int 4)) (tNil))))) (gName 3)) (tSeq (tAsg (tCall sp_law_part [] E0 (tCons (tVar 0) (tCons (tOp rSbI (tVar 1) (tC (.int 1))) (tNil)))) (gName 4)) (tRet (tTup (tCons (tVar 3) (tCons (tVar 4) (tCons (tCall sp_law_part [] E0 (tCons (tVar 0) (tCons (tOp rSbI (tVar 1) (tC (.int 1))) (tNil)))) (tNil)))))))))))

def t_law_value (K : PySem.W.Frag) (sp_law_value : Sp) : TS :=
  tSeq (tAsg (tOp (rIxT K) (tVar 0) (tC (.int 0))) (gName 2)) (tSeq (tIfS (tTest (tOp rEq (tVar 2) (tC (.str "num")))) (tRet (tOp (rIxT K) (tVar 0) (tC (.int 1)))) (tNext)) (tSeq (tIfS (tTest (tOp rEq (tVar 2) (tC (.str "var")))) (tRet (tOp (rIxL K) (tVar 1) (tOp (rIxT K) (tVar 0) (tC (.int 1))))) (tNext)) (tSeq (tAsg (tCall sp_law_value [] E0 (tCons (tOp (rIxT K) (tVar 0) (tC (.int 1))) (tCons (tVar 1) (tNil)))) (gName 3)) (tSeq (tAsg (tCall sp_law_value [] E0 (tCons (tOp (rIxT K) (tVar 0) (tC (.int 2))) (tCons (tVar 1) (tNil)))) (gName 4)) (tSeq (tIfS (tTest (tOp rEq (tVar 2) (tC (.str "less")))) (tRet (tCB rInt1 (tCons (tOp rLt (tVar 3) (tVar 4)) (tNil)))) (tNext)) (tSeq (tIfS (tTest (tOp rEq (tVar 2) (tC (.str "add")))) (tRet (tOp rMdI (tOp rAdI (tVar 3) (tVar 4)) (tC (.int 10007)))) (tNext)) (tSeq (tIfS (tTest (tOp rEq (tVar 2) (tC (.str "sub")))) (tRet (tOp rMdI (tOp rSbI (tOp rAdI (tVar 3) (tOp rMlI (tC (.int 10007)) (tC (.int 10007)))) (tVar 4)) (tC (.int 10007)))) (tNext)) (tRet (tOp rMdI (tOp rMlI (tVar 3) (tVar 4)) (tC (.int 10007)))))))))))

/-! ### items -/
section
variable {K : PySem.W.Frag} {σ : L2.St} {H : Hp} {i j : Nat} {p : Addr} {xs : List V} {v : V} {Q : VK}
theorem rd_ixT (hs : σ[i]? = some (some (.ref p))) (h : SqT K H p xs) (e : xs[j]? = some v) (q : Q v H) : tOp (rIxT K) (tVar i) (tC (.int (j : Int))) σ H Q := ⟨_, hs, p, xs, _, v, rfl, rfl, h, atI_nat e, q⟩
theorem rd_ixL (hs : σ[i]? = some (some (.ref p))) (h : SqL K H p xs) (e : xs[j]? = some v) (q : Q v H) : tOp (rIxL K) (tVar i) (tC (.int (j : Int))) σ H Q := ⟨_, hs, p, xs, _, v, rfl, rfl, h, atI_nat e, q⟩
end
section
variable {P : Program} {w : World} {K : PySem.W.Frag} {mg : Str → Option Value} {base : Heap} {j : Nat} {x m : Str} {C : Addr} {ps : List Str} {f : Addr} {fd : FuncData}
/-- a def that calls itself: at 0 it can't be asked -/
theorem FnOk.zero {k : Nat} {sp : Sp} (z : ∀ vs H Q E, ¬ sp vs H Q E) : FnOk P w K mg base CX0 k f fd ps sp :=
  ⟨fun vs H Q E h => absurd h (z vs H Q E), fun A outer s H args us vs Q E _ _ _ _ h => absurd h (z vs H Q E)⟩
theorem Cal.rec {sp : Nat → Sp} (b : Binds K fd ps []) (kp : PySem.W.keepIn K (.ref f) = true) (hm : mg x = some (.ref f)) (z : ∀ vs H Q E, ¬ sp 0 vs H Q E)
    (step : ∀ n, Cal P w K mg base (j + n) x ps (sp n) → FnOk P w K mg base CX0 (j + n + 1) f fd ps (sp (n + 1))) : ∀ n, Cal P w K mg base (j + n) x ps (sp n)
  | 0 => ⟨f, fd, FnOk.zero z, b, kp, hm⟩
  | n + 1 => ⟨f, fd, step n (Cal.rec b kp hm z step n), b, kp, hm⟩
end
section
variable {X : Cx} {x : Str} {i : Int} {z : Str} {pos : Pos}
theorem pgi (h : ∃ t, X.mg x = some (.int i t)) (hg : Gl X x := by rfl) (hd : (x == ("__debug__" : Str)) = false := by decide) : PE X (.Name x pos) (tC (.int i)) := by
  obtain ⟨t, e⟩ := h
  exact pe_glob hg e ⟨t, rfl⟩ hd
theorem pgs (h : ∃ t, X.mg x = some (.str z t)) (hg : Gl X x := by rfl) (hd : (x == ("__debug__" : Str)) = false := by decide) : PE X (.Name x pos) (tC (.str z)) := by
  obtain ⟨t, e⟩ := h
  exact pe_glob hg e ⟨t, rfl⟩ hd
end
theorem pos7 : (0 : Int) < 10007 := by decide
theorem cmul_small {i j : Int} (h : 0 ≤ i ∧ i < 100000000) : CMul i j := .inl ⟨by omega, by omega⟩

/-! ### tests that change nothing -/
def PB (t : TT) (σ : L2.St) (H : Hp) (c : Bool) : Prop := ∀ Q : Bool → Hp → Prop, Q c H → t σ H Q
section
variable {σ : L2.St} {H : Hp} {i j : Nat} {a c : Int} {x y : V} {u v : Bool} {t t' : TT} {s s' : TS} {D : Ends}
theorem pb_eqI (hs : σ[i]? = some (some (.int a))) : PB (tTest (tOp rEq (tVar i) (tC (.int c)))) σ H (decide (V.int a = V.int c)) := fun _ q => ⟨_, hs, rfl, _, rfl, q⟩
theorem pb_neI (hs : σ[i]? = some (some (.int a))) : PB (tTest (tOp rNe (tVar i) (tC (.int c)))) σ H (!decide (V.int a = V.int c)) := fun _ q => ⟨_, hs, rfl, _, rfl, q⟩
theorem pb_eqV {i j : Nat} (hs : σ[i]? = some (some x)) (ht : σ[j]? = some (some y)) (h : scal x y = true) : PB (tTest (tOp rEq (tVar i) (tVar j))) σ H (decide (x = y)) := fun _ q => ⟨_, hs, _, ht, h, _, rfl, q⟩
theorem pb_eqS {z w : Str} (hs : σ[i]? = some (some (.str z))) : PB (tTest (tOp rEq (tVar i) (tC (.str w)))) σ H (decide (V.str z = V.str w)) := fun _ q => ⟨_, hs, rfl, _, rfl, q⟩
theorem pb_neS {z w : Str} (hs : σ[i]? = some (some (.str z))) : PB (tTest (tOp rNe (tVar i) (tC (.str w)))) σ H (!decide (V.str z = V.str w)) := fun _ q => ⟨_, hs, rfl, _, rfl, q⟩
theorem pb_lt (hs : σ[i]? = some (some (.int a))) : PB (tTest (tOp rLt (tVar i) (tC (.int c)))) σ H (decide (a < c)) := fun _ q => ⟨_, hs, _, _, rfl, rfl, _, rfl, q⟩
theorem pb_var (hs : σ[i]? = some (some (.bl u))) : PB (tB (tVar i)) σ H u := fun _ q => ⟨_, hs, u, rfl, q⟩
theorem pb_and (h : PB t σ H u) (h' : PB t' σ H v) : PB (tAnd t t') σ H (u && v) := fun Q q => h _ (by
  cases u with
  | true => exact ifT rfl (h' _ q)
  | false => exact ifF rfl q)
theorem pb_or (h : PB t σ H u) (h' : PB t' σ H v) : PB (tOr t t') σ H (u || v) := fun Q q => h _ (by
  cases u with
  | true => exact ifT rfl q
  | false => exact ifF rfl (h' _ q))
theorem pb_not (h : PB t σ H u) : PB (tNot t) σ H (!u) := fun Q q => h _ q
theorem pb_is {w : Bool} (h : PB t σ H u) (e : u = w) : PB t σ H w := by rw [← e]; exact h
theorem r_if (h : PB t σ H u) (h1 : u = true → s D σ H) (h2 : u = false → s' D σ H) : tIfS t s s' D σ H := h _ (ifB h1 h2)
theorem r_ifT (h : PB t σ H true) (h1 : s D σ H) : tIfS t s s' D σ H := h _ (ifT rfl h1)
theorem r_ifF (h : PB t σ H false) (h1 : s' D σ H) : tIfS t s s' D σ H := h _ (ifF rfl h1)
end
/-! ### joined -/
def spJoined : Sp := fun vs H Q _ => ∃ (o : BOp) (i j : Int), vs = [.str o.s, .int i, .int j] ∧ 0 ≤ i ∧ i < 10007 ∧ 0 ≤ j ∧ j < 10007 ∧ Q (.int (o.ap i j)) H
abbrev N_joined : List Str := ["word", "one", "two"]
theorem rd_joined {K : PySem.W.Frag} (vs : List V) (H : Hp) (Q : VK) (E : XK) (h : spJoined vs H Q E) : t_joined K { nx := fun _ H' => Q .non H', rt := Q } (start N_joined vs) H := by
  obtain ⟨o, i, j, rfl, h1, h2, h3, h4, q⟩ := h
  cases o with
  | add =>
    refine ⟨_, rfl, rfl, _, rfl, ifT rfl ?_⟩
    exact ⟨_, rfl, _, rfl, _, _, rfl, rfl, _, _, rfl, rfl, pos7, q⟩
  | sub =>
    refine ⟨_, rfl, rfl, _, rfl, ifF rfl ⟨_, rfl, rfl, _, rfl, ifT rfl ?_⟩⟩
    exact ⟨_, rfl, _, rfl, _, _, rfl, rfl, _, _, rfl, rfl, pos7, q⟩
  | mul =>
    refine ⟨_, rfl, rfl, _, rfl, ifF rfl ⟨_, rfl, rfl, _, rfl, ifF rfl ⟨_, rfl, rfl, _, rfl, ifT rfl ?_⟩⟩⟩
    exact ⟨_, rfl, _, rfl, _, _, rfl, rfl, cmul_small ⟨by omega, by omega⟩, _, _, rfl, rfl, pos7, q⟩
  | less =>
    refine ⟨_, rfl, rfl, _, rfl, ifF rfl ⟨_, rfl, rfl, _, rfl, ifF rfl ⟨_, rfl, rfl, _, rfl, ifF rfl ?_⟩⟩⟩
    refine ⟨_, rfl, _, rfl, _, _, rfl, rfl, .inr ⟨_, rfl, ?_⟩⟩
    have e : (if decide (i < j) = true then (1 : Int) else 0) = BOp.less.ap i j := by
      show (if decide (i < j) = true then (1 : Int) else 0) = if i < j then 1 else 0
      by_cases c : i < j
      · rw [if_pos c, if_pos (dT c)]
      · rw [if_neg c, if_neg (by rw [dF c]; decide)]
    rw [e]
    exact q
/-! ### value_of -/
def spVal (K : PySem.W.Frag) (n : Nat) : Sp := fun vs H Q _ => ∃ (v : V) (s : Addr) (e : Ex) (σ : List Int), vs = [v, .ref s] ∧ Tp K H v e.d ∧ e.Wf ∧ e.dep ≤ n ∧ SqL K H s (σ.map V.int) ∧ InR σ ∧ Q (.int (e.val σ)) H
theorem spVal_zero {K : PySem.W.Frag} (vs : List V) (H : Hp) (Q : VK) (E : XK) : ¬ spVal K 0 vs H Q E := by
  rintro ⟨v, s, e, σ, _, _, _, h, _⟩
  cases e <;> simp [Ex.dep] at h
abbrev N_value_of : List Str := ["part", "slots"]
theorem slot_get {σ : List Int} {k : Nat} (r : InR σ) (h : k < 8) : (σ.map V.int)[k]? = some (.int (σ.getD k 0)) := by
  have hk : k < σ.length := by rw [r.1]; exact h
  rw [List.getElem?_map, List.getD_eq_getElem?_getD, List.getElem?_eq_getElem hk]
  rfl
theorem rd_value_of {K : PySem.W.Frag} {n : Nat} (vs : List V) (H : Hp) (Q : VK) (E : XK) (h : spVal K (n + 1) vs H Q E) : t_value_of K spJoined (spVal K n) { nx := fun _ H' => Q .non H', rt := Q } (start N_value_of vs) H := by
  obtain ⟨v, s, e, σ, rfl, ht, wf, hd, hs, hr, q⟩ := h
  cases e with
  | num k =>
    obtain ⟨a, x0, x1, rfl, hT, h0, h1⟩ := ht.tup2
    cases h0.strE; cases h1.intE
    refine rd_ixT (j := 0) rfl hT rfl ⟨rfl, _, rfl, ifT rfl ?_⟩
    exact rd_ixT (j := 1) rfl hT rfl q
  | var k =>
    obtain ⟨a, x0, x1, rfl, hT, h0, h1⟩ := ht.tup2
    cases h0.strE; cases h1.intE
    refine rd_ixT (j := 0) rfl hT rfl ⟨rfl, _, rfl, ifF rfl ?_⟩
    refine rd_ixT (j := 0) rfl hT rfl ⟨rfl, _, rfl, ifT rfl ?_⟩
    refine ⟨_, rfl, rd_ixT (j := 1) rfl hT rfl ⟨s, _, _, _, rfl, rfl, hs, atI_nat (slot_get hr wf), q⟩⟩
  | bin o e1 e2 =>
    obtain ⟨a, x0, x1, x2, rfl, hT, h0, h1, h2⟩ := ht.tup3
    cases h0.strE
    have hd' : max e1.dep e2.dep + 1 ≤ n + 1 := hd
    obtain ⟨w1, w2⟩ : e1.Wf ∧ e2.Wf := wf
    obtain ⟨a1, a2⟩ := Ex.val_in hr w1
    obtain ⟨b1, b2⟩ := Ex.val_in hr w2
    refine rd_ixT (j := 0) rfl hT rfl ⟨rfl, _, rfl, ifF (dF BOp.ne.1) ?_⟩
    refine rd_ixT (j := 0) rfl hT rfl ⟨rfl, _, rfl, ifF (dF BOp.ne.2) ?_⟩
    refine rd_ixT (j := 0) rfl hT rfl ?_
    refine rd_ixT (j := 1) rfl hT rfl ⟨_, rfl, x1, s, e1, σ, rfl, h1, w1, by omega, hs, hr, ?_⟩
    refine rd_ixT (j := 2) rfl hT rfl ⟨_, rfl, x2, s, e2, σ, rfl, h2, w2, by omega, hs, hr, ?_⟩
    exact ⟨o, _, _, rfl, a1, a2, b1, b2, q⟩
/-! ### _law_value -/
abbrev N_law_value : List Str := ["_law_part_here", "_law_slots", "_law_word", "_law_one", "_law_two"]
theorem rd_law_value {K : PySem.W.Frag} {n : Nat} (vs : List V) (H : Hp) (Q : VK) (E : XK) (h : spVal K (n + 1) vs H Q E) : t_law_value K (spVal K n) { nx := fun _ H' => Q .non H', rt := Q } (start N_law_value vs) H := by
  obtain ⟨v, s, e, σ, rfl, ht, wf, hd, hs, hr, q⟩ := h
  cases e with
  | num k =>
    obtain ⟨a, x0, x1, rfl, hT, h0, h1⟩ := ht.tup2
    cases h0.strE; cases h1.intE
    refine rd_ixT (j := 0) rfl hT rfl ⟨_, rfl, rfl, _, rfl, ifT rfl ?_⟩
    exact rd_ixT (j := 1) rfl hT rfl q
  | var k =>
    obtain ⟨a, x0, x1, rfl, hT, h0, h1⟩ := ht.tup2
    cases h0.strE; cases h1.intE
    refine rd_ixT (j := 0) rfl hT rfl ⟨_, rfl, rfl, _, rfl, ifF rfl ⟨_, rfl, rfl, _, rfl, ifT rfl ?_⟩⟩
    refine ⟨_, rfl, rd_ixT (j := 1) rfl hT rfl ⟨s, _, _, _, rfl, rfl, hs, atI_nat (slot_get hr wf), q⟩⟩
  | bin o e1 e2 =>
    obtain ⟨a, x0, x1, x2, rfl, hT, h0, h1, h2⟩ := ht.tup3
    cases h0.strE
    have hd' : max e1.dep e2.dep + 1 ≤ n + 1 := hd
    obtain ⟨w1, w2⟩ : e1.Wf ∧ e2.Wf := wf
    obtain ⟨a1, a2⟩ := Ex.val_in hr w1
    obtain ⟨b1, b2⟩ := Ex.val_in hr w2
    refine rd_ixT (j := 0) rfl hT rfl ⟨_, rfl, rfl, _, rfl, ifF (dF BOp.ne.1) ⟨_, rfl, rfl, _, rfl, ifF (dF BOp.ne.2) ?_⟩⟩
    refine rd_ixT (j := 1) rfl hT rfl ⟨_, rfl, x1, s, e1, σ, rfl, h1, w1, by omega, hs, hr, ?_⟩
    refine rd_ixT (j := 2) rfl hT rfl ⟨_, rfl, x2, s, e2, σ, rfl, h2, w2, by omega, hs, hr, ?_⟩
    cases o with
    | less =>
      refine ⟨_, rfl, rfl, _, rfl, ifT rfl ⟨_, rfl, _, rfl, _, _, rfl, rfl, .inr ⟨_, rfl, ?_⟩⟩⟩
      have e : (if decide (e1.val σ < e2.val σ) = true then (1 : Int) else 0) = BOp.less.ap (e1.val σ) (e2.val σ) := by
        show (if decide (e1.val σ < e2.val σ) = true then (1 : Int) else 0) = if e1.val σ < e2.val σ then 1 else 0
        by_cases c : e1.val σ < e2.val σ
        · rw [if_pos c, if_pos (dT c)]
        · rw [if_neg c, if_neg (by rw [dF c]; decide)]
      rw [e]
      exact q
    | add =>
      refine ⟨_, rfl, rfl, _, rfl, ifF rfl ⟨_, rfl, rfl, _, rfl, ifT rfl ?_⟩⟩
      exact ⟨_, rfl, _, rfl, _, _, rfl, rfl, _, _, rfl, rfl, pos7, q⟩
    | sub =>
      refine ⟨_, rfl, rfl, _, rfl, ifF rfl ⟨_, rfl, rfl, _, rfl, ifF rfl ⟨_, rfl, rfl, _, rfl, ifT rfl ?_⟩⟩⟩
      refine ⟨_, rfl, _, _, rfl, rfl, cmul_small ⟨by decide, by decide⟩, _, _, rfl, rfl, _, rfl, _, _, rfl, rfl, _, _, rfl, rfl, pos7, ?_⟩
      have e : (e1.val σ + 10007 * 10007 - e2.val σ) % 10007 = (e1.val σ - e2.val σ) % 10007 := by omega
      show Q (.int ((e1.val σ + 10007 * 10007 - e2.val σ) % 10007)) H
      rw [e]
      exact q
    | mul =>
      refine ⟨_, rfl, rfl, _, rfl, ifF rfl ⟨_, rfl, rfl, _, rfl, ifF rfl ⟨_, rfl, rfl, _, rfl, ifF rfl ?_⟩⟩⟩
      exact ⟨_, rfl, _, rfl, _, _, rfl, rfl, cmul_small ⟨by omega, by omega⟩, _, _, rfl, rfl, pos7, q⟩
/-! ### _law_part: some expression, as deep at the most -/
def spPart (K : PySem.W.Frag) (n : Nat) : Sp := fun vs H Q _ => ∃ (b : Addr) (l : List Int) (d : Nat), vs = [.ref b, .int (d : Int)] ∧ H b = some (.lst (l.map V.int)) ∧ d < n ∧
  ∀ (v : V) (e : Ex) (l' : List Int) (H' : Hp), e.Wf → e.dep ≤ d + 1 → Tp K H' v e.d → H' b = some (.lst (l'.map V.int)) → Kp (fun x => x = b) H H' → Q v H'
theorem spPart_zero {K : PySem.W.Frag} (vs : List V) (H : Hp) (Q : VK) (E : XK) : ¬ spPart K 0 vs H Q E := by
  rintro ⟨b, l, d, _, _, h, _⟩
  omega
abbrev N_law_part : List Str := ["_law_box", "_law_deep", "_law_kind", "_law_word", "_law_one"]
theorem bd {b : Addr} {d : Nat} (h : 0 < d) : [V.ref b, V.int ((d : Int) - 1)] = [V.ref b, V.int ((d - 1 : Nat) : Int)] := by
  rw [show ((d : Int) - 1) = ((d - 1 : Nat) : Int) by omega]
theorem opw {r : Int} (h0 : 0 ≤ r) (h4 : r < 4) : ∃ o : BOp, atI ([.str "add", .str "sub", .str "mul", .str "less"] : List V) r = some (.str o.s) := by
  have : r = 0 ∨ r = 1 ∨ r = 2 ∨ r = 3 := by omega
  rcases this with rfl | rfl | rfl | rfl
  · exact ⟨.add, rfl⟩
  · exact ⟨.sub, rfl⟩
  · exact ⟨.mul, rfl⟩
  · exact ⟨.less, rfl⟩
theorem rd_law_part {K : PySem.W.Frag} {n : Nat} (vs : List V) (H : Hp) (Q : VK) (E : XK) (h : spPart K (n + 1) vs H Q E) : t_law_part K spTake (spPart K n) { nx := fun _ H' => Q .non H', rt := Q } (start N_law_part vs) H := by
  obtain ⟨b, l, d, rfl, hb, hd, q⟩ := h
  refine ⟨_, rfl, b, l, 8, rfl, hb, by decide, by decide, fun r l1 H1 r0 r1 hb1 kp1 => ?_⟩
  have small : ∀ (m : Int), 0 < m → m ≤ 1000 → (tRet (tTup (tCons (tC (.str "num")) (tCons (tCall spTake [] E0 (tCons (tVar 0) (tCons (tC (.int m)) (tNil)))) (tNil))))) { nx := fun _ H' => Q .non H', rt := Q } [some (.ref b), some (.int (d : Int)), some (.int r), none, none] H1 := by
    intro m m0 m1
    refine ⟨_, rfl, b, l1, m, rfl, hb1, m0, by omega, fun x l2 H2 x0 x1 hb2 kp2 => ⟨(by show 2 ≤ sizeLine; decide), fun p hp => ?_⟩⟩
    refine q (.ref p) (.num x) l2 _ ⟨x0, by omega⟩ (by show 1 ≤ d + 1; omega) (Tp.mk hp (.cons (.str _) (.cons (.int _) .nil))) (by rw [upd_ne (ne_of_none hb2 hp)]; exact hb2) ((kp1.trans kp2).trans (Kp.new hp))
  refine ⟨_, rfl, _, _, rfl, rfl, _, rfl, ifB (fun _ => small 1000 (by decide) (by decide)) fun _ => ?_⟩
  refine ⟨_, rfl, rfl, _, rfl, ifB (fun _ => small 3 (by decide) (by decide)) fun d0 => ?_⟩
  refine ⟨_, rfl, rfl, _, rfl, ifB (fun _ => small 3 (by decide) (by decide)) fun _ => ?_⟩
  have hd0 : 0 < d := by
    have := of_decide_eq_false d0
    by_cases z : d = 0
    · subst z; exact absurd rfl this
    · omega
  refine ⟨_, rfl, _, _, rfl, rfl, _, rfl, ifB (fun _ => ?_) fun _ => ?_⟩
  · refine ⟨_, rfl, b, l1, 8, rfl, hb1, by decide, by decide, fun x l2 H2 x0 x1 hb2 kp2 => ⟨(by show 2 ≤ sizeLine; decide), fun p hp => ?_⟩⟩
    obtain ⟨k, rfl⟩ : ∃ k : Nat, x = (k : Int) := ⟨x.toNat, by omega⟩
    exact q (.ref p) (.var k) l2 _ (by show k < 8; omega) (by show 1 ≤ d + 1; omega) (Tp.mk hp (.cons (.str _) (.cons (.int _) .nil))) (by rw [upd_ne (ne_of_none hb2 hp)]; exact hb2) ((kp1.trans kp2).trans (Kp.new hp))
  · refine ⟨(by show 4 ≤ sizeLine; decide), fun p hp => ?_⟩
    have hb2 : L2.upd H1 p (.lst [.str "add", .str "sub", .str "mul", .str "less"]) b = some (.lst (l1.map V.int)) := by rw [upd_ne (ne_of_none hb1 hp)]; exact hb1
    refine ⟨_, rfl, b, l1, 4, rfl, hb2, by decide, by decide, fun x l2 H2 x0 x1 hb3 kp3 => ?_⟩
    have pb : p ≠ b := fun e => by rw [e, hb1] at hp; cases hp
    obtain ⟨o, ho⟩ := opw x0 x1
    refine ⟨p, _, x, _, rfl, rfl, SqL.of (kp3 p _ upd_same pb), ho, ?_⟩
    have kpA := (kp1.trans (Kp.new hp)).trans kp3
    refine ⟨_, rfl, _, rfl, _, _, rfl, rfl, b, l2, d - 1, bd hd0, hb3, by omega, fun v1 e1 l3 H3 w1 p1 t1 hb4 kp4 => ?_⟩
    refine ⟨_, rfl, _, rfl, _, rfl, _, rfl, _, _, rfl, rfl, b, l3, d - 1, bd hd0, hb4, by omega, fun v2 e2 l4 H4 w2 p2 t2 hb5 kp5 => ?_⟩
    refine ⟨(by show 3 ≤ sizeLine; decide), fun u hu => ?_⟩
    refine q (.ref u) (.bin o e1 e2) l4 _ ⟨w1, w2⟩ (by show max e1.dep e2.dep + 1 ≤ d + 1; omega) (Tp.mk hu (.cons (.str _) (.cons (t1.mono (kp5.tk1 hb4)) (.cons t2 .nil)))) (by rw [upd_ne (ne_of_none hb5 hu)]; exact hb5) (((kpA.trans kp4).trans kp5).trans (Kp.new hu))
end Lp

/-! Ls: statements and programs as trees, as data; what is well formed. -/
namespace Lp
open PySem PySem.Spec PyProof.Rows L2

mutual
inductive Sm where
  | say (e : Ex)
  | set (k : Nat) (e : Ex)
  | row (ps : Sms)
  | ife (e : Ex) (s t : Sm)
  | whl (e : Ex) (s : Sm)
  | brk
  | cnt
  | ret (e : Ex)
  | call (k f : Nat) (ps : List Ex) (m : Int)
  | rais (kd : Nat) (e : Ex) (m : Int)
  | again
  | tri (s : Sm) (hs : Hds)
  | cln (s c : Sm)
inductive Sms where
  | nil
  | cons (s : Sm) (r : Sms)
inductive Hds where
  | nil
  | cons (k : Option Nat) (x : Nat) (t : Sm) (r : Hds)
end
def kindD : Option Nat → PyData
  | none => .none
  | some j => .int (j : Int)
mutual
def Sm.d : Sm → PyData
  | .say e => .tuple [.str "say", e.d]
  | .set k e => .tuple [.str "set", .int (k : Int), e.d]
  | .row ps => .tuple [.str "row", .tuple ps.ds]
  | .ife e s t => .tuple [.str "if", e.d, s.d, t.d]
  | .whl e s => .tuple [.str "while", e.d, s.d]
  | .brk => .tuple [.str "break"]
  | .cnt => .tuple [.str "continue"]
  | .ret e => .tuple [.str "return", e.d]
  | .call k f ps m => .tuple [.str "call", .int (k : Int), .int (f : Int), .tuple (ps.map Ex.d), .int m]
  | .rais kd e m => .tuple [.str "raise", .int (kd : Int), e.d, .int m]
  | .again => .tuple [.str "again"]
  | .tri s hs => .tuple [.str "try", s.d, .tuple hs.ds]
  | .cln s c => .tuple [.str "clean", s.d, c.d]
def Sms.ds : Sms → List PyData
  | .nil => []
  | .cons s r => s.d :: r.ds
def Hds.ds : Hds → List PyData
  | .nil => []
  | .cons k x t r => .tuple [kindD k, .int (x : Int), t.d] :: r.ds
end
def Sms.ofL : List Sm → Sms
  | [] => .nil
  | s :: r => .cons s (Sms.ofL r)
def Hds.ofL : List (Option Nat × Nat × Sm) → Hds
  | [] => .nil
  | (k, x, t) :: r => .cons k x t (Hds.ofL r)
def hdD (h : Option Nat × Nat × Sm) : PyData := .tuple [kindD h.1, .int (h.2.1 : Int), h.2.2.d]
theorem Sms.ds_ofL : ∀ l : List Sm, (Sms.ofL l).ds = l.map Sm.d
  | [] => rfl
  | s :: r => by show s.d :: (Sms.ofL r).ds = _; rw [Sms.ds_ofL r]; rfl
theorem Hds.ds_ofL : ∀ l : List (Option Nat × Nat × Sm), (Hds.ofL l).ds = l.map hdD
  | [] => rfl
  | (k, x, t) :: r => by show hdD (k, x, t) :: (Hds.ofL r).ds = _; rw [Hds.ds_ofL r]; rfl

/-! ### depth, rows -/
mutual
def Sm.dep : Sm → Nat
  | .row ps => ps.dep + 1
  | .ife _ s t => max s.dep t.dep + 1
  | .whl _ s => s.dep + 1
  | .tri s hs => max s.dep hs.dep + 1
  | .cln s c => max s.dep c.dep + 1
  | _ => 1
def Sms.dep : Sms → Nat
  | .nil => 0
  | .cons s r => max s.dep r.dep
def Hds.dep : Hds → Nat
  | .nil => 0
  | .cons _ _ t r => max t.dep r.dep
end
def Ex.len : Ex → Nat
  | .num _ => 1
  | .var _ => 1
  | .bin _ a b => a.len + b.len + 1
def exsLen : List Ex → Nat
  | [] => 0
  | e :: r => e.len + exsLen r
mutual
/-- how many rows a statement is coded as -/
def Sm.len : Sm → Nat
  | .say e => e.len + 1
  | .set _ e => e.len + 1
  | .row ps => ps.len
  | .ife e s t => e.len + 1 + s.len + 1 + t.len
  | .whl e s => e.len + 2 + s.len + 1
  | .brk => 1
  | .cnt => 1
  | .ret e => e.len + 1
  | .call _ _ ps _ => exsLen ps + 2
  | .rais _ e _ => e.len + 1
  | .again => 1
  | .tri s hs => s.len + 1 + hs.len
  | .cln s c => s.len + 2 + c.len + 1
def Sms.len : Sms → Nat
  | .nil => 0
  | .cons s r => s.len + r.len
def Hds.len : Hds → Nat
  | .nil => 0
  | .cons _ _ t r => 2 + t.len + 2 + r.len
end
theorem Ex.len_le : ∀ {e : Ex} {n : Nat}, e.dep ≤ n + 1 → e.len ≤ 2 ^ (n + 1) - 1
  | .num _, n, _ => by show 1 ≤ _; have := Nat.one_le_two_pow (n := n); rw [Nat.pow_succ]; omega
  | .var _, n, _ => by show 1 ≤ _; have := Nat.one_le_two_pow (n := n); rw [Nat.pow_succ]; omega
  | .bin _ a b, n, h => by
    have h' : max a.dep b.dep + 1 ≤ n + 1 := h
    cases n with
    | zero => cases a <;> simp [Ex.dep] at h' <;> omega
    | succ n =>
      have h1 := Ex.len_le (e := a) (n := n) (by omega)
      have h2 := Ex.len_le (e := b) (n := n) (by omega)
      show a.len + b.len + 1 ≤ _
      have := Nat.one_le_two_pow (n := n + 1)
      rw [Nat.pow_succ 2 (n + 1)]
      omega
theorem exsLen_le : ∀ {ps : List Ex} {n : Nat}, (∀ e ∈ ps, e.len ≤ n) → exsLen ps ≤ ps.length * n
  | [], n, _ => by simp [exsLen]
  | e :: r, n, h => by
    have h1 := h e List.mem_cons_self
    have h2 := exsLen_le (ps := r) (n := n) fun x hx => h x (List.mem_cons_of_mem _ hx)
    show e.len + exsLen r ≤ (r.length + 1) * n
    rw [Nat.succ_mul]
    omega

/-! ### well formed: cs the functions' counts, nk how many kinds, turn: within a while, hand: within a handler -/
mutual
def Sm.Wf (cs : List Nat) (nk : Nat) (turn hand : Bool) : Sm → Prop
  | .say e => e.Wf ∧ e.dep ≤ 5
  | .set k e => k < 8 ∧ e.Wf ∧ e.dep ≤ 5
  | .row ps => ps.Wf cs nk turn hand
  | .ife e s t => (e.Wf ∧ e.dep ≤ 5) ∧ s.Wf cs nk turn hand ∧ t.Wf cs nk turn hand
  | .whl e s => (e.Wf ∧ e.dep ≤ 5) ∧ s.Wf cs nk true hand
  | .brk => turn = true
  | .cnt => turn = true
  | .ret e => e.Wf ∧ e.dep ≤ 5
  | .call k f ps m => k < 8 ∧ cs[f]? = some ps.length ∧ ps.length ≤ 3 ∧ (∀ e ∈ ps, e.Wf ∧ e.dep ≤ 5) ∧ 0 ≤ m ∧ m < 1000
  | .rais kd e m => kd < nk ∧ (e.Wf ∧ e.dep ≤ 5) ∧ 0 ≤ m ∧ m < 1000
  | .again => hand = true
  | .tri s hs => s.Wf cs nk turn hand ∧ hs.Wf cs nk turn
  | .cln s c => s.Wf cs nk turn hand ∧ c.Wf cs nk turn hand
def Sms.Wf (cs : List Nat) (nk : Nat) (turn hand : Bool) : Sms → Prop
  | .nil => True
  | .cons s r => s.Wf cs nk turn hand ∧ r.Wf cs nk turn hand
def Hds.Wf (cs : List Nat) (nk : Nat) (turn : Bool) : Hds → Prop
  | .nil => True
  | .cons k x t r => (∀ j, k = some j → j < nk) ∧ x < 8 ∧ t.Wf cs nk turn true ∧ r.Wf cs nk turn
end
theorem Sms.wf_ofL {cs : List Nat} {nk : Nat} {turn hand : Bool} : ∀ {l : List Sm}, (∀ s ∈ l, s.Wf cs nk turn hand) → (Sms.ofL l).Wf cs nk turn hand
  | [], _ => trivial
  | s :: r, h => ⟨h s List.mem_cons_self, Sms.wf_ofL fun x hx => h x (List.mem_cons_of_mem _ hx)⟩
theorem Sms.dep_ofL {n : Nat} : ∀ {l : List Sm}, (∀ s ∈ l, s.dep ≤ n) → (Sms.ofL l).dep ≤ n
  | [], _ => Nat.zero_le _
  | s :: r, h => Nat.max_le.mpr ⟨h s List.mem_cons_self, Sms.dep_ofL fun x hx => h x (List.mem_cons_of_mem _ hx)⟩
theorem Sms.len_ofL {n : Nat} : ∀ {l : List Sm}, (∀ s ∈ l, s.len ≤ n) → (Sms.ofL l).len ≤ l.length * n
  | [], _ => Nat.zero_le _
  | s :: r, h => by
    have h1 := h s List.mem_cons_self
    have h2 := Sms.len_ofL (l := r) (n := n) fun x hx => h x (List.mem_cons_of_mem _ hx)
    show s.len + (Sms.ofL r).len ≤ (r.length + 1) * n
    rw [Nat.succ_mul]
    omega
def HdWf (cs : List Nat) (nk : Nat) (turn : Bool) (h : Option Nat × Nat × Sm) : Prop := (∀ j, h.1 = some j → j < nk) ∧ h.2.1 < 8 ∧ h.2.2.Wf cs nk turn true
theorem Hds.wf_ofL {cs : List Nat} {nk : Nat} {turn : Bool} : ∀ {l : List (Option Nat × Nat × Sm)}, (∀ h ∈ l, HdWf cs nk turn h) → (Hds.ofL l).Wf cs nk turn
  | [], _ => trivial
  | (k, x, t) :: r, h => by
    obtain ⟨h1, h2, h3⟩ := h (k, x, t) List.mem_cons_self
    exact ⟨h1, h2, h3, Hds.wf_ofL fun y hy => h y (List.mem_cons_of_mem _ hy)⟩
theorem Hds.dep_ofL {n : Nat} : ∀ {l : List (Option Nat × Nat × Sm)}, (∀ h ∈ l, h.2.2.dep ≤ n) → (Hds.ofL l).dep ≤ n
  | [], _ => Nat.zero_le _
  | (k, x, t) :: r, h => Nat.max_le.mpr ⟨h (k, x, t) List.mem_cons_self, Hds.dep_ofL fun y hy => h y (List.mem_cons_of_mem _ hy)⟩
theorem Hds.len_ofL {n : Nat} : ∀ {l : List (Option Nat × Nat × Sm)}, (∀ h ∈ l, h.2.2.len ≤ n) → (Hds.ofL l).len ≤ l.length * (n + 4)
  | [], _ => Nat.zero_le _
  | (k, x, t) :: r, h => by
    have h1 := h (k, x, t) List.mem_cons_self
    have h2 := Hds.len_ofL (l := r) (n := n) fun y hy => h y (List.mem_cons_of_mem _ hy)
    show 2 + t.len + 2 + (Hds.ofL r).len ≤ (r.length + 1) * (n + 4)
    rw [Nat.succ_mul]
    have h1' : t.len ≤ n := h1
    omega

/-! ### programs -/
structure Pg where
  kinds : List (Option Nat)
  funs : List (Nat × Sm)
def funD (f : Nat × Sm) : PyData := .tuple [.int (f.1 : Int), f.2.d]
def Pg.d (p : Pg) : PyData := .tuple [.tuple (p.kinds.map kindD), .tuple (p.funs.map funD)]
def Pg.cs (p : Pg) : List Nat := p.funs.map (·.1)
structure Pg.Wf (p : Pg) : Prop where
  kinds : WfK p.kinds
  k0 : 0 < p.kinds.length
  k8 : p.kinds.length ≤ 8
  f0 : 0 < p.funs.length
  f8 : p.funs.length ≤ 8
  many : ∀ f ∈ p.funs, f.1 ≤ 3
  body : ∀ f ∈ p.funs, f.2.Wf p.cs p.kinds.length false false
/-- as the laws' programs are: five deep, of at most 1,900 rows a function -/
structure Pg.Small (p : Pg) (D R : Nat) : Prop where
  dep : ∀ f ∈ p.funs, f.2.dep ≤ D
  len : ∀ f ∈ p.funs, f.2.len ≤ R
theorem tp_kinds {K : PySem.W.Frag} {H : Hp} : ∀ ks : List (Option Nat), TpAll K H (ks.map kindV) (ks.map kindD)
  | [] => .nil
  | none :: r => .cons .non (tp_kinds r)
  | some j :: r => .cons (.int _) (tp_kinds r)
theorem kinds_of {K : PySem.W.Frag} {H : Hp} : ∀ {ks : List (Option Nat)} {vs : List V}, TpAll K H vs (ks.map kindD) → vs = ks.map kindV
  | [], _, h => h.nilE
  | none :: r, _, h => by
    obtain ⟨v, vs, rfl, h1, h2⟩ := TpAll.consE h
    rw [h1.nonE, kinds_of h2]; rfl
  | some j :: r, _, h => by
    obtain ⟨v, vs, rfl, h1, h2⟩ := TpAll.consE h
    rw [h1.intE, kinds_of h2]; rfl
end Lp

/-! L3g: the law's drawing of statements and programs: some well-formed program comes. -/
namespace Lp
open PySem PySem.Spec PyProof.Rows L2
def t_law_call (K : PySem.W.Frag) (sp_law_take : Sp) (sp_law_part : Sp) : TS :=
  tSeq (tAsg (tCall sp_law_take [] E0 (tCons (tVar 0) (tCons (tCB (rLenQ K) (tCons (tOp (rIxL K) (tVar 1) (tC (.int 0))) (tNil))) (tNil)))) (gName 2)) (tSeq (tAsg (tCall sp_law_take [] E0 (tCons (tVar 0) (tCons (tC (.int 8)) (tNil)))) (gName 3)) (tSeq (tAsg (tLc (iRng1 (tCons (tOp (rIxL K) (tOp (rIxL K) (tVar 1) (tC (.int 0))) (tVar 2)) (tNil))) (gName 5) (tYes) (tCall sp_law_part [] E0 (tCons (tVar 0) (tCons (tC (.int 1)) (tNil)))) [5]) (gName 4)) (tRet (tTup (tCons (tC (.str "call")) (tCons (tVar 3) (tCons (tVar 2) (tCons (tCB (rTupOf K) (tCons (tVar 4) (tNil))) (tCons (tCall sp_law_take [] E0 (tCons (tVar 0) (tCons (tC (.int 1000)) (tNil)))) (tNil))))))))))

def t_law_simple (K : PySem.W.Frag) (sp_law_take : Sp) (sp_law_call : Sp) (sp_law_part : Sp) : TS :=
  tSeq (tAsg (tCall sp_law_take [] E0 (tCons (tVar 0) (tCons (tC (.int 9)) (tNil)))) (gName 4)) (tSeq (tIfS (tAnd (tTest (tOp rEq (tVar 4) (tC (.int 8)))) (tB (tVar 3))) (tRet (tTup (tCons (tC (.str "again")) (tNil)))) (tNext)) (tSeq (tIfS (tAnd (tTest (tOp rEq (tVar 4) (tC (.int 7)))) (tB (tVar 2))) (tRet (tTup (tCons (tOp (rIxL K) (tLst (tCons (tC (.str "break")) (tCons (tC (.str "continue")) (tNil)))) (tCall sp_law_take [] E0 (tCons (tVar 0) (tCons (tC (.int 2)) (tNil))))) (tNil)))) (tNext)) (tSeq (tIfS (tTest (tOp rEq (tVar 4) (tC (.int 6)))) (tRet (tCall sp_law_call [] E0 (tCons (tVar 0) (tCons (tVar 1) (tNil))))) (tNext)) (tSeq (tIfS (tTest (tOp rEq (tVar 4) (tC (.int 5)))) (tSeq (tAsg (tCall sp_law_part [] E0 (tCons (tVar 0) (tCons (tC (.int 1)) (tNil)))) (gName 5)) (tRet (tTup (tCons (tC (.str "raise")) (tCons (tCall sp_law_take [] E0 (tCons (tVar 0) (tCons (tOp (rIxL K) (tVar 1) (tC (.int 1))) (tNil)))) (tCons (tVar 5) (tCons (tCall sp_law_take [] E0 (tCons (tVar 0) (tCons (tC (.int 1000)) (tNil)))) (tNil)))))))) (tNext)) (tSeq (tIfS (tTest (tOp rEq (tVar 4) (tC (.int 4)))) (tRet (tTup (tCons (tC (.str "return")) (tCons (tCall sp_law_part [] E0 (tCons (tVar 0) (tCons (tC (.int 2)) (tNil)))) (tNil))))) (tNext)) (tSeq (tIfS (tTest (tOp rEq (tVar 4) (tC (.int 3)))) (tRet (tTup (tCons (tC (.str "row")) (tCons (tTup (tNil)) (tNil))))) (tNext)) (tSeq (tIfS (tTest (tOp rEq (tVar 4) (tC (.int 2)))) (tRet (tTup (tCons (tC (.str "set")) (tCons (tCall sp_law_take [] E0 (tCons (tVar 0) (tCons (tC (.int 8)) (tNil)))) (tCons (tCall sp_law_part [] E0 (tCons (tVar 0) (tCons (tC (.int 2)) (tNil)))) (tNil)))))) (tNext)) (tRet (tTup (tCons (tC (.str "say")) (tCons (tCall sp_law_part [] E0 (tCons (tVar 0) (tCons (tC (.int 2)) (tNil)))) (tNil))))))))))))

def t_law_handler (K : PySem.W.Frag) (sp_law_take : Sp) (sp_law_statement : Sp) : TS :=
  tSeq (tAsg (tCall sp_law_take [] E0 (tCons (tVar 0) (tCons (tOp rAdI (tOp (rIxL K) (tVar 1) (tC (.int 1))) (tC (.int 1))) (tNil)))) (gName 4)) (tSeq (tAsg (tCall sp_law_take [] E0 (tCons (tVar 0) (tCons (tC (.int 8)) (tNil)))) (gName 5)) (tSeq (tIfS (tTest (tOp rEq (tVar 4) (tOp (rIxL K) (tVar 1) (tC (.int 1))))) (tAsg (tC .non) (gName 4)) (tNext)) (tRet (tTup (tCons (tVar 4) (tCons (tVar 5) (tCons (tCall sp_law_statement [] E0 (tCons (tVar 0) (tCons (tVar 1) (tCons (tVar 2) (tCons (tVar 3) (tCons (tC (.bl true)) (tNil))))))) (tNil))))))))

def t_law_statement (K : PySem.W.Frag) (sp_law_take : Sp) (sp_law_simple : Sp) (sp_law_statement : Sp) (sp_law_part : Sp) (sp_law_handler : Sp) : TS :=
  tSeq (tAsg (tCall sp_law_take [] E0 (tCons (tVar 0) (tCons (tC (.int 14)) (tNil)))) (gName 5)) (tSeq (tIfS (tOr (tTest (tOp rEq (tVar 2) (tC (.int 0)))) (tTest (tOp rLt (tVar 5) (tC (.int 4))))) (tRet (tCall sp_law_simple [] E0 (tCons (tVar 0) (tCons (tVar 1) (tCons (tVar 3) (tCons (tVar 4) (tNil))))))) (tNext)) (tSeq (tIfS (tAnd (tTest (tOp rEq (tVar 5) (tC (.int 4)))) (tTest (tOp rEq (tCall sp_law_take [] E0 (tCons (tVar 0) (tCons (tC (.int 3)) (tNil)))) (tC (.int 1))))) (tRet (tTup (tCons (tC (.str "row")) (tCons (tCB (rTupOf K) (tCons (tLc (iRng1 (tCons (tCall sp_law_take [] E0 (tCons (tVar 0) (tCons (tC (.int 7)) (tNil)))) (tNil))) (gName 6) (tYes) (tCall sp_law_simple [] E0 (tCons (tVar 0) (tCons (tVar 1) (tCons (tVar 3) (tCons (tVar 4) (tNil)))))) [6]) (tNil))) (tNil))))) (tNext)) (tSeq (tIfS (tTest (tOp rLt (tVar 5) (tC (.int 7)))) (tSeq (tAsg (tOp rAdI (tC (.int 2)) (tCall sp_law_take [] E0 (tCons (tVar 0) (tCons (tC (.int 2)) (tNil))))) (gName 7)) (tRet (tTup (tCons (tC (.str "row")) (tCons (tCB (rTupOf K) (tCons (tLc (iRng1 (tCons (tVar 7) (tNil))) (gName 6) (tYes) (tCall sp_law_statement [] E0 (tCons (tVar 0) (tCons (tVar 1) (tCons (tOp rSbI (tVar 2) (tC (.int 1))) (tCons (tVar 3) (tCons (tVar 4) (tNil))))))) [6]) (tNil))) (tNil)))))) (tNext)) (tSeq (tIfS (tTest (tOp rEq (tVar 5) (tC (.int 7)))) (tSeq (tAsg (tCall sp_law_part [] E0 (tCons (tVar 0) (tCons (tC (.int 2)) (tNil)))) (gName 8)) (tSeq (tAsg (tCall sp_law_statement [] E0 (tCons (tVar 0) (tCons (tVar 1) (tCons (tOp rSbI (tVar 2) (tC (.int 1))) (tCons (tVar 3) (tCons (tVar 4) (tNil))))))) (gName 9)) (tRet (tTup (tCons (tC (.str "if")) (tCons (tVar 8) (tCons (tVar 9) (tCons (tCall sp_law_statement [] E0 (tCons (tVar 0) (tCons (tVar 1) (tCons (tOp rSbI (tVar 2) (tC (.int 1))) (tCons (tVar 3) (tCons (tVar 4) (tNil))))))) (tNil))))))))) (tNext)) (tSeq (tIfS (tTest (tOp rLt (tVar 5) (tC (.int 9)))) (tSeq (tAsg (tCall sp_law_part [] E0 (tCons (tVar 0) (tCons (tC (.int 2)) (tNil)))) (gName 8)) (tRet (tTup (tCons (tC (.str "while")) (tCons (tVar 8) (tCons (tCall sp_law_statement [] E0 (tCons (tVar 0) (tCons (tVar 1) (tCons (tOp rSbI (tVar 2) (tC (.int 1))) (tCons (tC (.bl true)) (tCons (tVar 4) (tNil))))))) (tNil))))))) (tNext)) (tSeq (tAsg (tCall sp_law_statement [] E0 (tCons (tVar 0) (tCons (tVar 1) (tCons (tOp rSbI (tVar 2) (tC (.int 1))) (tCons (tVar 3) (tCons (tVar 4) (tNil))))))) (gName 10)) (tSeq (tIfS (tTest (tOp rLt (tVar 5) (tC (.int 12)))) (tSeq (tAsg (tOp rAdI (tC (.int 1)) (tCall sp_law_take [] E0 (tCons (tVar 0) (tCons (tC (.int 2)) (tNil))))) (gName 7)) (tRet (tTup (tCons (tC (.str "try")) (tCons (tVar 10) (tCons (tCB (rTupOf K) (tCons (tLc (iRng1 (tCons (tVar 7) (tNil))) (gName 6) (tYes) (tCall sp_law_handler [] E0 (tCons (tVar 0) (tCons (tVar 1) (tCons (tOp rSbI (tVar 2) (tC (.int 1))) (tCons (tVar 3) (tNil)))))) [6]) (tNil))) (tNil))))))) (tNext)) (tRet (tTup (tCons (tC (.str "clean")) (tCons (tVar 10) (tCons (tCall sp_law_statement [] E0 (tCons (tVar 0) (tCons (tVar 1) (tCons (tOp rSbI (tVar 2) (tC (.int 1))) (tCons (tVar 3) (tCons (tVar 4) (tNil))))))) (tNil)))))))))))))

def t_law_program (K : PySem.W.Frag) (sp_law_kinds : Sp) (sp_law_take : Sp) (sp_law_statement : Sp) : TS :=
  tSeq (tAsg (tCall sp_law_kinds [] E0 (tCons (tVar 0) (tCons (tC (.int 4)) (tNil)))) (gName 1)) (tSeq (tAsg (tLst (tCons (tLc (iRng1 (tCons (tOp rAdI (tC (.int 1)) (tCall sp_law_take [] E0 (tCons (tVar 0) (tCons (tC (.int 4)) (tNil))))) (tNil))) (gName 3) (tYes) (tCall sp_law_take [] E0 (tCons (tVar 0) (tCons (tC (.int 4)) (tNil)))) [3]) (tCons (tCB (rLenQ K) (tCons (tVar 1) (tNil))) (tNil)))) (gName 2)) (tSeq (tAsg (tLst (tNil)) (gName 4)) (tSeq (tFor (iList K (tOp (rIxL K) (tVar 2) (tC (.int 0)))) (gName 5) (tSeq (tAsg (tLc (iRng1 (tCons (tOp rAdI (tC (.int 1)) (tCall sp_law_take [] E0 (tCons (tVar 0) (tCons (tC (.int 3)) (tNil))))) (tNil))) (gName 3) (tYes) (tCall sp_law_statement [] E0 (tCons (tVar 0) (tCons (tVar 2) (tCons (tC (.int 3)) (tCons (tC (.bl false)) (tCons (tC (.bl false)) (tNil))))))) [3]) (gName 6)) (tDrop (tBM K "list" rAppend (tVar 4) (tCons (tTup (tCons (tVar 5) (tCons (tTup (tCons (tC (.str "row")) (tCons (tCB (rTupOf K) (tCons (tVar 6) (tNil))) (tNil)))) (tNil)))) (tNil)))))) (tRet (tTup (tCons (tVar 1) (tCons (tCB (rTupOf K) (tCons (tVar 4) (tNil))) (tNil))))))))

/-! ### what is drawn from the box -/
abbrev Bx (b : Addr) : Addr → Prop := fun x => x = b
/-- a drawn thing: some good one, as data; the box has other numbers; all else stands -/
def Drawn (K : PySem.W.Frag) (b : Addr) (H : Hp) (Q : VK) {α : Type} (dα : α → PyData) (good : α → Prop) : Prop :=
  ∀ (v : V) (x : α) (l' : List Int) (H' : Hp), good x → Tp K H' v (dα x) → H' b = some (.lst (l'.map V.int)) → Kp (Bx b) H H' → Q v H'
section
variable {K : PySem.W.Frag} {b : Addr} {H H1 : Hp} {Q : VK} {α : Type} {dα : α → PyData} {good : α → Prop}
theorem Drawn.mk (q : Drawn K b H Q dα good) (x : α) {l1 : List Int} {xs : List V} {ds : List PyData} (hx : good x) (e : dα x = .tuple ds) (ht : TpAll K H1 xs ds) (hb : H1 b = some (.lst (l1.map V.int))) (kp : Kp (Bx b) H H1) :
    ∀ p, H1 p = none → Q (.ref p) (upd H1 p (.tup xs)) := fun p hp =>
  q (.ref p) x l1 _ hx (by rw [e]; exact Tp.mk hp ht) (by rw [upd_ne (ne_of_none hb hp)]; exact hb) (kp.trans (Kp.new hp))
theorem box_new {o : HO} {p : Addr} {l : List Int} (hb : H b = some (.lst (l.map V.int))) (hp : H p = none) : upd H p o b = some (.lst (l.map V.int)) := by rw [upd_ne (ne_of_none hb hp)]; exact hb
/-- a list of drawn things: [draw for k in range(n)] -/
theorem lc_draw {Qd : Hp → Prop} {D : Addr} {l : List Int} {te : TE} {slot : Nat} {σ : L2.St} (dα : α → PyData) (good : α → Prop) (n : Nat) (hn : n < 1000) (hb : H1 b = some (.lst (l.map V.int))) (hD : H1 D = none)
    (hw : ∀ x, wipe ((wipe σ [slot]).set slot x) [slot] = wipe σ [slot])
    (step : ∀ (i : Nat) (H2 : Hp) (l2 : List Int), i < n → H2 b = some (.lst (l2.map V.int)) → Kp (Bx b) H1 H2 → ∀ Q' : VK, Drawn K b H2 Q' dα good → te ((wipe σ [slot]).set slot (some (.int (0 + (i : Int))))) H2 Q')
    (fin : ∀ (items : List α) (vs : List V) (l' : List Int) (H' : Hp), items.length = n → (∀ a ∈ items, good a) → H' D = some (.lst vs) → TpAll K H' vs (items.map dα) → H' b = some (.lst (l'.map V.int)) → Kp (Bx b) H1 H' → Qd H') :
    ∃ W : Nat → Nat → Hp → Prop, (∃ m, W 0 m (upd H1 D (.lst []))) ∧ ∀ i m H, W i m H →
      ((Itr 0 n).stop i H ∧ Qd H) ∨ ((Itr 0 n).go i H ∧ ∃ Nx : Hp → Prop, (∀ H', Nx H' → ∃ m', m' < m ∧ W (i + 1) m' H') ∧ ∀ x H', (Itr 0 n).yld i H x H' → gName slot x (wipe σ [slot]) H' fun σ2 H2 => wipe σ2 [slot] = wipe σ [slot] ∧ tYes σ2 H2 fun c H3 =>
        if c = true then te σ2 H3 fun y H4 => ∃ acc, H4 D = some (.lst acc) ∧ acc.length < sizeLine ∧ Nx (upd H4 D (.lst (acc ++ [y]))) else Nx H3) := by
  have Db : D ≠ b := fun e => by rw [e, hb] at hD; cases hD
  refine lc_range (lo := 0) (n := n) (Qd := Qd) (fun i H' => ∃ (items : List α) (vs : List V) (l' : List Int), items.length = i ∧ (∀ a ∈ items, good a) ∧ H' D = some (.lst vs) ∧ TpAll K H' vs (items.map dα) ∧ H' b = some (.lst (l'.map V.int)) ∧ Kp (Bx b) H1 H')
    ⟨[], [], l, rfl, (by simp), upd_same, .nil, box_new hb hD, Kp.new hD⟩ ?_ ?_
  · rintro i H2 hi ⟨items, vs, l2, hl, hg, h1, ht, hb2, kp⟩
    refine ⟨hw _, ?_⟩
    show te ((wipe σ [slot]).set slot (some (.int (0 + (i : Int))))) H2 fun y H4 => ∃ acc, H4 D = some (.lst acc) ∧ acc.length < sizeLine ∧ _
    refine step i H2 l2 hi hb2 kp _ fun y a l3 H3 ga ta hb3 kp3 => ?_
    have h3 := kp3 D _ h1 Db
    refine ⟨vs, h3, ?_, items ++ [a], vs ++ [y], l3, by simp [hl], ?_, upd_same, ?_, by rw [upd_ne Db.symm]; exact hb3, (kp.trans kp3).late hD⟩
    · have := ht.length
      rw [List.length_map] at this
      exact sz_lt1 (by omega)
    · intro z hz
      rcases List.mem_append.mp hz with z1 | z1
      · exact hg z z1
      · have e : z = a := by simpa using z1
        rw [e]; exact ga
    · rw [List.map_append]
      exact ((ht.mono (kp3.tk1 hb2)).snoc ta).mono (Tk.lst h3)
  · rintro H' ⟨items, vs, l', hl, hg, h1, ht, hb2, kp⟩
    exact fin items vs l' H' hl hg h1 ht hb2 kp
end
/-! ### the shape: the functions' counts, how many kinds -/
structure ShAt (H : Hp) (b sh : Addr) (cs : List Nat) (nk : Nat) : Prop where
  ex : ∃ c, H sh = some (.lst [.ref c, .int (nk : Int)]) ∧ H c = some (.lst (cs.map fun n : Nat => V.int (n : Int))) ∧ c ≠ b
  ne : sh ≠ b
  n0 : 0 < nk
  n9 : nk ≤ 1000
  c0 : 0 < cs.length
  c9 : cs.length ≤ 1000
  c3 : ∀ n ∈ cs, n ≤ 3
theorem ShAt.mono {H H' : Hp} {b sh : Addr} {cs : List Nat} {nk : Nat} (s : ShAt H b sh cs nk) (k : Kp (Bx b) H H') : ShAt H' b sh cs nk := by
  obtain ⟨c, h1, h2, h3⟩ := s.ex
  exact ⟨⟨c, k _ _ h1 s.ne, k _ _ h2 h3, h3⟩, s.ne, s.n0, s.n9, s.c0, s.c9, s.c3⟩
theorem ShAt.of_box {H : Hp} {b sh : Addr} {cs : List Nat} {nk : Nat} (s : ShAt H b sh cs nk) : True := trivial
/-! ### how wide, and how many cleanups: what is at most so large has few parts and few cleanups -/
mutual
def Sm.wgt : Sm → Nat
  | .say e => e.len + 1
  | .set _ e => e.len + 1
  | .row ps => ps.wgt
  | .ife e s t => e.len + 1 + s.wgt + 1 + t.wgt
  | .whl e s => e.len + 2 + s.wgt + 1
  | .brk => 1
  | .cnt => 1
  | .ret e => e.len + 1
  | .call _ _ ps _ => exsLen ps + 2
  | .rais _ e _ => e.len + 1
  | .again => 1
  | .tri s hs => s.wgt + 1 + hs.wgt
  | .cln s c => s.wgt + c.wgt + 28
def Sms.wgt : Sms → Nat
  | .nil => 0
  | .cons s r => s.wgt + 1 + r.wgt
def Hds.wgt : Hds → Nat
  | .nil => 0
  | .cons _ _ t r => t.wgt + 4 + r.wgt
end
theorem Sms.wgt_ofL {n : Nat} : ∀ {l : List Sm}, (∀ s ∈ l, s.wgt ≤ n) → (Sms.ofL l).wgt ≤ l.length * (n + 1)
  | [], _ => Nat.zero_le _
  | s :: r, h => by
    have h1 := h s List.mem_cons_self
    have h2 := Sms.wgt_ofL (l := r) (n := n) fun x hx => h x (List.mem_cons_of_mem _ hx)
    show s.wgt + 1 + (Sms.ofL r).wgt ≤ (r.length + 1) * (n + 1)
    rw [Nat.succ_mul]
    omega
theorem Hds.wgt_ofL {n : Nat} : ∀ {l : List (Option Nat × Nat × Sm)}, (∀ h ∈ l, h.2.2.wgt ≤ n) → (Hds.ofL l).wgt ≤ l.length * (n + 4)
  | [], _ => Nat.zero_le _
  | (k, x, t) :: r, h => by
    have h1 := h (k, x, t) List.mem_cons_self
    have h2 := Hds.wgt_ofL (l := r) (n := n) fun y hy => h y (List.mem_cons_of_mem _ hy)
    show t.wgt + 4 + (Hds.ofL r).wgt ≤ (r.length + 1) * (n + 4)
    rw [Nat.succ_mul]
    have h1' : t.wgt ≤ n := h1
    omega
def Bw : Nat → Nat
  | 0 => 11
  | d + 1 => max 72 (3 * Bw d + 9)
theorem Bw_ge : ∀ d, 11 ≤ Bw d
  | 0 => Nat.le_refl _
  | d + 1 => by show 11 ≤ max 72 (3 * Bw d + 9); omega
theorem Bw_mono : ∀ {d e : Nat}, d ≤ e → Bw d ≤ Bw e
  | d, 0, h => by
    have : d = 0 := by omega
    subst this; exact Nat.le_refl _
  | d, e + 1, h => by
    by_cases z : d = e + 1
    · subst z; exact Nat.le_refl _
    · have := Bw_mono (d := d) (e := e) (by omega)
      show Bw d ≤ max 72 (3 * Bw e + 9)
      omega
/-! ### the promises -/
def StmtOk (cs : List Nat) (nk : Nat) (turn hand : Bool) (D R : Nat) (s : Sm) : Prop := s.Wf cs nk turn hand ∧ s.dep ≤ D ∧ s.len ≤ R ∧ s.wgt ≤ Bw (D - 1)
def spCallS (K : PySem.W.Frag) : Sp := fun vs H Q _ => ∃ (b sh : Addr) (l : List Int) (cs : List Nat) (nk : Nat), vs = [.ref b, .ref sh] ∧ H b = some (.lst (l.map V.int)) ∧ ShAt H b sh cs nk ∧ Drawn K b H Q Sm.d (fun s => ∀ turn hand, StmtOk cs nk turn hand 1 11 s)
def spSimple (K : PySem.W.Frag) : Sp := fun vs H Q _ => ∃ (b sh : Addr) (l : List Int) (cs : List Nat) (nk : Nat) (turn hand : Bool), vs = [.ref b, .ref sh, .bl turn, .bl hand] ∧ H b = some (.lst (l.map V.int)) ∧ ShAt H b sh cs nk ∧ Drawn K b H Q Sm.d (StmtOk cs nk turn hand 1 11)
/-- at most so many rows at a depth -/
def Bd : Nat → Nat
  | 0 => 11
  | d + 1 => max 66 (3 * Bd d + 9)
theorem Bd_ge : ∀ d, 11 ≤ Bd d
  | 0 => Nat.le_refl _
  | d + 1 => by show 11 ≤ max 66 (3 * Bd d + 9); omega
def spStmt (K : PySem.W.Frag) (n : Nat) : Sp := fun vs H Q _ => ∃ (b sh : Addr) (l : List Int) (cs : List Nat) (nk : Nat) (d : Nat) (turn hand : Bool), vs = [.ref b, .ref sh, .int (d : Int), .bl turn, .bl hand] ∧ H b = some (.lst (l.map V.int)) ∧ ShAt H b sh cs nk ∧ d < n ∧
  Drawn K b H Q Sm.d (StmtOk cs nk turn hand (d + 1) (Bd d))
def HdOk (cs : List Nat) (nk : Nat) (turn : Bool) (D R : Nat) (h : Option Nat × Nat × Sm) : Prop := HdWf cs nk turn h ∧ h.2.2.dep ≤ D ∧ h.2.2.len ≤ R ∧ h.2.2.wgt ≤ Bw (D - 1)
def spHandler (K : PySem.W.Frag) (n : Nat) : Sp := fun vs H Q _ => ∃ (b sh : Addr) (l : List Int) (cs : List Nat) (nk : Nat) (d : Nat) (turn : Bool), vs = [.ref b, .ref sh, .int (d : Int), .bl turn] ∧ H b = some (.lst (l.map V.int)) ∧ ShAt H b sh cs nk ∧ d < n ∧
  Drawn K b H Q hdD (HdOk cs nk turn (d + 1) (Bd d))
section
variable {K : PySem.W.Frag}
theorem spStmt_zero (vs : List V) (H : Hp) (Q : VK) (E : XK) : ¬ spStmt K 0 vs H Q E := by
  rintro ⟨b, sh, l, cs, nk, d, turn, hand, _, _, _, h, _⟩
  omega
abbrev N_law_call : List Str := ["_law_box", "_law_shape", "_law_number", "_law_slot", "_law_parts", "_law_k"]
theorem rd_law_call (vs : List V) (H : Hp) (Q : VK) (E : XK) (h : spCallS K vs H Q E) : t_law_call K spTake (spPart K 5) { nx := fun _ H' => Q .non H', rt := Q } (start N_law_call vs) H := by
  obtain ⟨b, sh, l, cs, nk, rfl, hb, s, q⟩ := h
  obtain ⟨c, h1, h2, cb⟩ := s.ex
  refine ⟨_, rfl, rd_ixL (j := 0) rfl (SqL.of h1) rfl ⟨c, _, rfl, .inl (SqL.of h2), b, l, _, rfl, hb, by rw [List.length_map]; have := s.c0; omega, by rw [List.length_map]; have := s.c9; omega, fun x l1 H1 x0 x1 hb1 kp1 => ?_⟩⟩
  rw [List.length_map] at x1
  obtain ⟨f, rfl⟩ : ∃ f : Nat, x = (f : Int) := ⟨x.toNat, by omega⟩
  have hf : f < cs.length := by omega
  refine ⟨_, rfl, b, l1, 8, rfl, hb1, by decide, by decide, fun y l2 H2 y0 y1 hb2 kp2 => ?_⟩
  obtain ⟨k, rfl⟩ : ∃ k : Nat, y = (k : Int) := ⟨y.toNat, by omega⟩
  have s2 := s.mono (kp1.trans kp2)
  have h1' := (kp1.trans kp2) _ _ h1 s.ne
  have h2' := (kp1.trans kp2) _ _ h2 cb
  have ef : cs[f]? = some cs[f] := List.getElem?_eq_getElem hf
  have h3 : cs[f] ≤ 3 := s.c3 _ (List.getElem_mem hf)
  refine rd_ixL (j := 0) rfl (SqL.of h1') rfl ⟨_, rfl, c, _, _, .int ((cs[f] : Nat) : Int), rfl, rfl, SqL.of h2', atI_nat (j := f) (by rw [List.getElem?_map, ef]; rfl), _, rfl, by omega, by omega, fun D hD => ?_⟩
  refine lc_draw (K := K) (l := l2) Ex.d (fun e => e.Wf ∧ e.dep ≤ 2) _ ?hn hb2 hD ?hw ?_ ?_
  case hn => omega
  case hw => exact fun _ => rfl
  · intro i H3 l3 hi hb3 kp3 Q' dr
    exact ⟨_, rfl, b, l3, 1, rfl, hb3, by decide, fun v e l4 H4 we de te hb4 kp4 => dr v e l4 H4 ⟨we, de⟩ te hb4 kp4⟩
  · intro ps vs l3 H3 hl hg hD3 ht hb3 kp3
    rw [Int.toNat_natCast] at hl
    refine ⟨_, rfl, _, rfl, _, rfl, D, vs, rfl, .inl ⟨SqL.of hD3, fun p hp => ?_⟩⟩
    have hb4 := box_new (o := .tup vs) hb3 hp
    refine ⟨_, rfl, b, l3, 1000, rfl, hb4, by decide, by decide, fun m l4 H4 m0 m1 hb5 kp5 => ⟨(by show 5 ≤ sizeLine; decide), ?_⟩⟩
    have pb : p ≠ b := fun e => by rw [e, hb3] at hp; cases hp
    have hp5 := kp5 p _ upd_same pb
    have le : exsLen ps + 2 ≤ 11 := by
      have := exsLen_le (ps := ps) (n := 3) fun e he => Ex.len_le (n := 1) (hg e he).2
      rw [hl] at this
      omega
    refine Drawn.mk q (.call k f ps m) (fun _ _ => ⟨⟨by omega, by rw [ef, hl], by omega, fun e he => ⟨(hg e he).1, by have := (hg e he).2; omega⟩, m0, m1⟩, Nat.le_refl 1, le, le⟩) rfl ?_ hb5 ((((kp1.trans kp2).trans kp3).trans (Kp.new hp)).trans kp5)
    exact .cons (.str _) (.cons (.int _) (.cons (.int _) (.cons (.tup (.inl (.inl hp5)) ((ht.mono (Tk.new hp)).mono (kp5.tk1 hb4))) (.cons (.int _) .nil))))
abbrev N_law_simple : List Str := ["_law_box", "_law_shape", "_law_turn", "_law_handler_here", "_law_kind", "_law_number"]
theorem rd_law_simple (vs : List V) (H : Hp) (Q : VK) (E : XK) (h : spSimple K vs H Q E) : t_law_simple K spTake (spCallS K) (spPart K 5) { nx := fun _ H' => Q .non H', rt := Q } (start N_law_simple vs) H := by
  obtain ⟨b, sh, l, cs, nk, turn, hand, rfl, hb, s, q⟩ := h
  refine ⟨_, rfl, b, l, 9, rfl, hb, by decide, by decide, fun r l1 H1 r0 r1 hb1 kp1 => ?_⟩
  have s1 := s.mono kp1
  have l7 : ∀ {e : Ex}, e.dep ≤ 3 → e.len ≤ 7 := fun h => Ex.len_le (n := 2) h
  refine r_if (pb_and (pb_eqI rfl) (pb_var rfl)) (fun e => ?_) fun _ => r_if (pb_and (pb_eqI rfl) (pb_var rfl)) (fun e => ?_) fun _ => r_if (pb_eqI rfl) (fun _ => ?_) fun _ => r_if (pb_eqI rfl) (fun _ => ?_) fun _ => r_if (pb_eqI rfl) (fun _ => ?_) fun _ =>
    r_if (pb_eqI rfl) (fun _ => ?_) fun _ => r_if (pb_eqI rfl) (fun _ => ?_) fun _ => ?_
  · have hh : hand = true := (Bool.and_eq_true_iff.mp e).2
    exact ⟨(by show 1 ≤ sizeLine; decide), Drawn.mk q .again ⟨hh, Nat.le_refl 1, (by decide), (by decide)⟩ rfl (.cons (.str _) .nil) hb1 kp1⟩
  · have hh : turn = true := (Bool.and_eq_true_iff.mp e).2
    refine ⟨(by show 2 ≤ sizeLine; decide), fun p hp => ?_⟩
    have hb2 := box_new (o := .lst [.str "break", .str "continue"]) hb1 hp
    have pb : p ≠ b := fun e => by rw [e, hb1] at hp; cases hp
    refine ⟨_, rfl, b, l1, 2, rfl, hb2, by decide, by decide, fun x l2 H2 x0 x1 hb3 kp3 => ?_⟩
    have hp3 := kp3 p _ upd_same pb
    have hx : x = 0 ∨ x = 1 := by omega
    rcases hx with rfl | rfl
    · exact ⟨p, _, 0, .str "break", rfl, rfl, SqL.of hp3, rfl, (by show 1 ≤ sizeLine; decide), Drawn.mk q .brk ⟨hh, Nat.le_refl 1, (by decide), (by decide)⟩ rfl (.cons (.str _) .nil) hb3 ((kp1.trans (Kp.new hp)).trans kp3)⟩
    · exact ⟨p, _, 1, .str "continue", rfl, rfl, SqL.of hp3, rfl, (by show 1 ≤ sizeLine; decide), Drawn.mk q .cnt ⟨hh, Nat.le_refl 1, (by decide), (by decide)⟩ rfl (.cons (.str _) .nil) hb3 ((kp1.trans (Kp.new hp)).trans kp3)⟩
  · exact ⟨_, rfl, _, rfl, b, sh, l1, cs, nk, rfl, hb1, s1, fun v x l' H' gx tx hb' kp' => q v x l' H' (gx turn hand) tx hb' (kp1.trans kp')⟩
  · refine ⟨_, rfl, b, l1, 1, rfl, hb1, by decide, fun v e l2 H2 we de te hb2 kp2 => ?_⟩
    obtain ⟨c, h1, h2, cb⟩ := s1.ex
    have h1' := kp2 _ _ h1 s1.ne
    refine ⟨_, rfl, rd_ixL (j := 1) rfl (SqL.of h1') rfl ⟨b, l2, _, rfl, hb2, by have := s.n0; omega, by have := s.n9; omega, fun x l3 H3 x0 x1 hb3 kp3 => ⟨_, rfl, ?_⟩⟩⟩
    obtain ⟨kd, rfl⟩ : ∃ k : Nat, x = (k : Int) := ⟨x.toNat, by omega⟩
    refine ⟨_, rfl, b, l3, 1000, rfl, hb3, by decide, by decide, fun m l4 H4 m0 m1 hb4 kp4 => ⟨(by show 4 ≤ sizeLine; decide), ?_⟩⟩
    have le := Ex.len_le (n := 1) de
    exact Drawn.mk q (.rais kd e m) ⟨⟨by omega, ⟨we, by omega⟩, m0, m1⟩, Nat.le_refl 1, (by show e.len + 1 ≤ 11; omega), (by show e.len + 1 ≤ 11; omega)⟩ rfl (.cons (.str _) (.cons (.int _) (.cons ((te.mono (kp3.tk1 hb2)).mono (kp4.tk1 hb3)) (.cons (.int _) .nil)))) hb4 (((kp1.trans kp2).trans kp3).trans kp4)
  · refine ⟨_, rfl, b, l1, 2, rfl, hb1, by decide, fun v e l2 H2 we de te hb2 kp2 => ⟨(by show 2 ≤ sizeLine; decide), ?_⟩⟩
    have le := l7 de
    exact Drawn.mk q (.ret e) ⟨⟨we, by omega⟩, Nat.le_refl 1, (by show e.len + 1 ≤ 11; omega), (by show e.len + 1 ≤ 11; omega)⟩ rfl (.cons (.str _) (.cons te .nil)) hb2 (kp1.trans kp2)
  · refine ⟨(by show 0 ≤ sizeLine; decide), fun p hp => ⟨(by show 2 ≤ sizeLine; decide), ?_⟩⟩
    exact Drawn.mk q (.row .nil) ⟨trivial, Nat.le_refl 1, (by show 0 ≤ 11; omega), (by show 0 ≤ 11; omega)⟩ rfl (.cons (.str _) (.cons (.tup (.inl (.inl upd_same)) .nil) .nil)) (box_new hb1 hp) (kp1.trans (Kp.new hp))
  · refine ⟨_, rfl, b, l1, 8, rfl, hb1, by decide, by decide, fun x l2 H2 x0 x1 hb2 kp2 => ?_⟩
    obtain ⟨k, rfl⟩ : ∃ k : Nat, x = (k : Int) := ⟨x.toNat, by omega⟩
    refine ⟨_, rfl, b, l2, 2, rfl, hb2, by decide, fun v e l3 H3 we de te hb3 kp3 => ⟨(by show 3 ≤ sizeLine; decide), ?_⟩⟩
    have le := l7 de
    exact Drawn.mk q (.set k e) ⟨⟨by omega, we, by omega⟩, Nat.le_refl 1, (by show e.len + 1 ≤ 11; omega), (by show e.len + 1 ≤ 11; omega)⟩ rfl (.cons (.str _) (.cons (.int _) (.cons te .nil))) hb3 ((kp1.trans kp2).trans kp3)
  · refine ⟨_, rfl, b, l1, 2, rfl, hb1, by decide, fun v e l2 H2 we de te hb2 kp2 => ⟨(by show 2 ≤ sizeLine; decide), ?_⟩⟩
    have le := l7 de
    exact Drawn.mk q (.say e) ⟨⟨we, by omega⟩, Nat.le_refl 1, (by show e.len + 1 ≤ 11; omega), (by show e.len + 1 ≤ 11; omega)⟩ rfl (.cons (.str _) (.cons te .nil)) hb2 (kp1.trans kp2)
abbrev N_law_handler : List Str := ["_law_box", "_law_shape", "_law_deep", "_law_turn", "_law_kind", "_law_slot"]
theorem rd_law_handler {n : Nat} (vs : List V) (H : Hp) (Q : VK) (E : XK) (h : spHandler K n vs H Q E) : t_law_handler K spTake (spStmt K n) { nx := fun _ H' => Q .non H', rt := Q } (start N_law_handler vs) H := by
  obtain ⟨b, sh, l, cs, nk, d, turn, rfl, hb, s, hd, q⟩ := h
  obtain ⟨c, h1, h2, cb⟩ := s.ex
  refine ⟨_, rfl, rd_ixL (j := 1) rfl (SqL.of h1) rfl ⟨_, _, rfl, rfl, b, l, _, rfl, hb, by have := s.n0; omega, by have := s.n9; omega, fun r l1 H1 r0 r1 hb1 kp1 => ?_⟩⟩
  refine ⟨_, rfl, b, l1, 8, rfl, hb1, by decide, by decide, fun x l2 H2 x0 x1 hb2 kp2 => ?_⟩
  obtain ⟨k, rfl⟩ : ∃ k : Nat, x = (k : Int) := ⟨x.toNat, by omega⟩
  have s2 := s.mono (kp1.trans kp2)
  have h1' := (kp1.trans kp2) _ _ h1 s.ne
  have fin : ∀ o : Option Nat, (∀ j, o = some j → j < nk) → (tRet (tTup (tCons (tVar 4) (tCons (tVar 5) (tCons (tCall (spStmt K n) [] E0 (tCons (tVar 0) (tCons (tVar 1) (tCons (tVar 2) (tCons (tVar 3) (tCons (tC (.bl true)) (tNil))))))) (tNil)))))) { nx := fun _ H' => Q .non H', rt := Q } [some (.ref b), some (.ref sh), some (.int (d : Int)), some (.bl turn), some (kindV o), some (.int (k : Int))] H2 := by
    intro o ho
    refine ⟨_, rfl, _, rfl, _, rfl, _, rfl, _, rfl, _, rfl, b, sh, l2, cs, nk, d, turn, true, rfl, hb2, s2, hd, fun v st l3 H3 g3 t3 hb3 kp3 => ⟨(by show 3 ≤ sizeLine; decide), ?_⟩⟩
    refine Drawn.mk q (o, k, st) ⟨⟨ho, by show k < 8; omega, g3.1⟩, g3.2⟩ rfl ?_ hb3 ((kp1.trans kp2).trans kp3)
    refine .cons ?_ (.cons (.int _) (.cons t3 .nil))
    cases o with
    | none => exact .non
    | some j => exact .int _
  refine ⟨_, rfl, rd_ixL (j := 1) rfl (SqL.of h1') rfl ⟨rfl, _, rfl, ifB (fun _ => fin none fun _ z => by cases z) fun e => ?_⟩⟩
  have hr : r ≠ (nk : Int) := fun z => by rw [z] at e; simp at e
  have := fin (some r.toNat) fun j z => by cases z; omega
  rw [show kindV (some r.toNat) = V.int r by show V.int (r.toNat : Int) = _; rw [Int.toNat_of_nonneg r0]] at this
  exact this
theorem stT {cs : List Nat} {nk : Nat} {turn hand : Bool} {D R D' R' : Nat} {s : Sm} (h : StmtOk cs nk turn hand D R s) (hd : D ≤ D') (hr : R ≤ R') : StmtOk cs nk turn hand D' R' s := ⟨h.1, Nat.le_trans h.2.1 hd, Nat.le_trans h.2.2.1 hr, Nat.le_trans h.2.2.2 (Bw_mono (by omega))⟩
theorem d5 {b sh : Addr} {d : Nat} {t u : Bool} (h : 0 < d) : [V.ref b, .ref sh, V.int ((d : Int) - 1), .bl t, .bl u] = [V.ref b, .ref sh, V.int ((d - 1 : Nat) : Int), .bl t, .bl u] := by
  rw [show ((d : Int) - 1) = ((d - 1 : Nat) : Int) by omega]
theorem d4 {b sh : Addr} {d : Nat} {t : Bool} (h : 0 < d) : [V.ref b, .ref sh, V.int ((d : Int) - 1), .bl t] = [V.ref b, .ref sh, V.int ((d - 1 : Nat) : Int), .bl t] := by
  rw [show ((d : Int) - 1) = ((d - 1 : Nat) : Int) by omega]
abbrev N_law_statement : List Str := ["_law_box", "_law_shape", "_law_deep", "_law_turn", "_law_handler_here", "_law_kind", "_law_k", "_law_many", "_law_part_here", "_law_yes", "_law_inner"]
theorem rd_law_statement {n : Nat} (vs : List V) (H : Hp) (Q : VK) (E : XK) (h : spStmt K (n + 1) vs H Q E) : t_law_statement K spTake (spSimple K) (spStmt K n) (spPart K 5) (spHandler K n) { nx := fun _ H' => Q .non H', rt := Q } (start N_law_statement vs) H := by
  obtain ⟨b, sh, l, cs, nk, d, turn, hand, rfl, hb, s, hd, q⟩ := h
  refine ⟨_, rfl, b, l, 14, rfl, hb, by decide, by decide, fun r l1 H1 r0 r1 hb1 kp1 => ?_⟩
  have s1 := s.mono kp1
  refine r_if (pb_or (pb_eqI rfl) (pb_lt rfl)) (fun _ => ?_) fun e => ?_
  · exact ⟨_, rfl, _, rfl, _, rfl, _, rfl, b, sh, l1, cs, nk, turn, hand, rfl, hb1, s1, fun v x l' H' gx tx hb' kp' => q v x l' H' (stT gx (by omega) (Bd_ge d)) tx hb' (kp1.trans kp')⟩
  obtain ⟨e0, _⟩ := Bool.or_eq_false_iff.mp e
  have hd0 : 0 < d := by
    by_cases z : d = 0
    · subst z; exact absurd rfl (of_decide_eq_false e0)
    · omega
  obtain ⟨d, rfl⟩ : ∃ m, d = m + 1 := ⟨d - 1, by omega⟩
  have eB : Bd (d + 1) = max 66 (3 * Bd d + 9) := rfl
  have gB := Bd_ge d
  have eW : Bw (d + 1) = max 72 (3 * Bw d + 9) := rfl
  have gW := Bw_ge d
  have rest : ∀ (l1 : List Int) (H1 : Hp), H1 b = some (.lst (l1.map V.int)) → Kp (Bx b) H H1 → ShAt H1 b sh cs nk → (tSeq (tIfS (tTest (tOp rLt (tVar 5) (tC (.int 7)))) (tSeq (tAsg (tOp rAdI (tC (.int 2)) (tCall spTake [] E0 (tCons (tVar 0) (tCons (tC (.int 2)) (tNil))))) (gName 7)) (tRet (tTup (tCons (tC (.str "row")) (tCons (tCB (rTupOf K) (tCons (tLc (iRng1 (tCons (tVar 7) (tNil))) (gName 6) (tYes) (tCall (spStmt K n) [] E0 (tCons (tVar 0) (tCons (tVar 1) (tCons (tOp rSbI (tVar 2) (tC (.int 1))) (tCons (tVar 3) (tCons (tVar 4) (tNil))))))) [6]) (tNil))) (tNil)))))) (tNext)) (tSeq (tIfS (tTest (tOp rEq (tVar 5) (tC (.int 7)))) (tSeq (tAsg (tCall (spPart K 5) [] E0 (tCons (tVar 0) (tCons (tC (.int 2)) (tNil)))) (gName 8)) (tSeq (tAsg (tCall (spStmt K n) [] E0 (tCons (tVar 0) (tCons (tVar 1) (tCons (tOp rSbI (tVar 2) (tC (.int 1))) (tCons (tVar 3) (tCons (tVar 4) (tNil))))))) (gName 9)) (tRet (tTup (tCons (tC (.str "if")) (tCons (tVar 8) (tCons (tVar 9) (tCons (tCall (spStmt K n) [] E0 (tCons (tVar 0) (tCons (tVar 1) (tCons (tOp rSbI (tVar 2) (tC (.int 1))) (tCons (tVar 3) (tCons (tVar 4) (tNil))))))) (tNil))))))))) (tNext)) (tSeq (tIfS (tTest (tOp rLt (tVar 5) (tC (.int 9)))) (tSeq (tAsg (tCall (spPart K 5) [] E0 (tCons (tVar 0) (tCons (tC (.int 2)) (tNil)))) (gName 8)) (tRet (tTup (tCons (tC (.str "while")) (tCons (tVar 8) (tCons (tCall (spStmt K n) [] E0 (tCons (tVar 0) (tCons (tVar 1) (tCons (tOp rSbI (tVar 2) (tC (.int 1))) (tCons (tC (.bl true)) (tCons (tVar 4) (tNil))))))) (tNil))))))) (tNext)) (tSeq (tAsg (tCall (spStmt K n) [] E0 (tCons (tVar 0) (tCons (tVar 1) (tCons (tOp rSbI (tVar 2) (tC (.int 1))) (tCons (tVar 3) (tCons (tVar 4) (tNil))))))) (gName 10)) (tSeq (tIfS (tTest (tOp rLt (tVar 5) (tC (.int 12)))) (tSeq (tAsg (tOp rAdI (tC (.int 1)) (tCall spTake [] E0 (tCons (tVar 0) (tCons (tC (.int 2)) (tNil))))) (gName 7)) (tRet (tTup (tCons (tC (.str "try")) (tCons (tVar 10) (tCons (tCB (rTupOf K) (tCons (tLc (iRng1 (tCons (tVar 7) (tNil))) (gName 6) (tYes) (tCall (spHandler K n) [] E0 (tCons (tVar 0) (tCons (tVar 1) (tCons (tOp rSbI (tVar 2) (tC (.int 1))) (tCons (tVar 3) (tNil)))))) [6]) (tNil))) (tNil))))))) (tNext)) (tRet (tTup (tCons (tC (.str "clean")) (tCons (tVar 10) (tCons (tCall (spStmt K n) [] E0 (tCons (tVar 0) (tCons (tVar 1) (tCons (tOp rSbI (tVar 2) (tC (.int 1))) (tCons (tVar 3) (tCons (tVar 4) (tNil))))))) (tNil))))))))))) { nx := fun _ H' => Q .non H', rt := Q } [some (.ref b), some (.ref sh), some (.int ((d + 1 : Nat) : Int)), some (.bl turn), some (.bl hand), some (.int r), none, none, none, none, none] H1 := by
    intro l1 H1 hb1 kp1 s1
    -- a statement one less deep
    have sub : ∀ (t h : Bool) {l2 : List Int} {H2 : Hp} {Q2 : VK}, H2 b = some (.lst (l2.map V.int)) → ShAt H2 b sh cs nk → Drawn K b H2 Q2 Sm.d (StmtOk cs nk t h (d + 1) (Bd d)) → spStmt K n [.ref b, .ref sh, .int (((d + 1 : Nat) : Int) - 1), .bl t, .bl h] H2 Q2 E0 :=
      fun t h {l2 H2 Q2} hb2 s2 dr => ⟨b, sh, l2, cs, nk, d, t, h, by rw [show (((d + 1 : Nat) : Int) - 1) = (d : Int) by omega], hb2, s2, by omega, dr⟩
    refine r_if (pb_lt rfl) (fun _ => ?_) fun _ => r_if (pb_eqI rfl) (fun _ => ?_) fun _ => r_if (pb_lt rfl) (fun _ => ?_) fun _ => ?_
    · -- row
      refine ⟨_, rfl, b, l1, 2, rfl, hb1, by decide, by decide, fun x l2 H2 x0 x1 hb2 kp2 => ⟨_, _, rfl, rfl, ?_⟩⟩
      have s2 := s1.mono kp2
      refine ⟨_, rfl, _, rfl, by omega, by omega, fun D hD => ?_⟩
      refine lc_draw (K := K) (l := l2) Sm.d (StmtOk cs nk turn hand (d + 1) (Bd d)) _ ?hn hb2 hD ?hw ?_ ?_
      case hn => omega
      case hw => exact fun _ => rfl
      · intro i H3 l3 hi hb3 kp3 Q' dr
        exact ⟨_, rfl, _, rfl, _, rfl, _, _, rfl, rfl, _, rfl, _, rfl, sub turn hand hb3 (s2.mono kp3) dr⟩
      · intro items us l3 H3 hl hg hD3 ht hb3 kp3
        refine ⟨D, us, rfl, .inl ⟨SqL.of hD3, fun p hp => ⟨(by show 2 ≤ sizeLine; decide), ?_⟩⟩⟩
        have hl3 : items.length ≤ 3 := by omega
        have len := Sms.len_ofL (n := Bd d) fun s hs => (hg s hs).2.2.1
        have wgt := Sms.wgt_ofL (n := Bw d) fun s hs => (hg s hs).2.2.2
        have : items.length * Bd d ≤ 3 * Bd d := Nat.mul_le_mul_right _ hl3
        have : items.length * (Bw d + 1) ≤ 3 * (Bw d + 1) := Nat.mul_le_mul_right _ hl3
        refine Drawn.mk q (.row (Sms.ofL items)) ⟨Sms.wf_ofL fun s hs => (hg s hs).1, ?_, ?_, ?_⟩ rfl (.cons (.str _) (.cons (.tup (.inl (.inl upd_same)) ?_) .nil)) (box_new hb3 hp) (((kp1.trans kp2).trans kp3).trans (Kp.new hp))
        · show (Sms.ofL items).dep + 1 ≤ d + 1 + 1
          have := Sms.dep_ofL (n := d + 1) fun s hs => (hg s hs).2.1
          omega
        · show (Sms.ofL items).len ≤ Bd (d + 1)
          omega
        · show (Sms.ofL items).wgt ≤ Bw (d + 1)
          omega
        · rw [Sms.ds_ofL]
          exact ht.mono (Tk.new hp)
    · -- if
      refine ⟨_, rfl, b, l1, 2, rfl, hb1, by decide, fun v e l2 H2 we de te hb2 kp2 => ?_⟩
      refine ⟨_, rfl, _, rfl, _, rfl, _, _, rfl, rfl, _, rfl, _, rfl, sub turn hand hb2 (s1.mono kp2) fun v1 y l3 H3 gy ty hb3 kp3 => ?_⟩
      refine ⟨_, rfl, _, rfl, _, rfl, _, rfl, _, rfl, _, _, rfl, rfl, _, rfl, _, rfl, sub turn hand hb3 ((s1.mono kp2).mono kp3) fun v2 z l4 H4 gz tz hb4 kp4 => ⟨(by show 4 ≤ sizeLine; decide), ?_⟩⟩
      have le := Ex.len_le (n := 2) de
      have y2 := gy.2.1; have y3 := gy.2.2.1; have z2 := gz.2.1; have z3 := gz.2.2.1
      have y4 : y.wgt ≤ Bw d := gy.2.2.2
      have z4 : z.wgt ≤ Bw d := gz.2.2.2
      exact Drawn.mk q (.ife e y z) ⟨⟨⟨we, by omega⟩, gy.1, gz.1⟩, by show max y.dep z.dep + 1 ≤ _; omega, by show e.len + 1 + y.len + 1 + z.len ≤ _; omega, by show e.len + 1 + y.wgt + 1 + z.wgt ≤ Bw (d + 1); omega⟩ rfl (.cons (.str _) (.cons ((te.mono (kp3.tk1 hb2)).mono (kp4.tk1 hb3)) (.cons (ty.mono (kp4.tk1 hb3)) (.cons tz .nil)))) hb4 (((kp1.trans kp2).trans kp3).trans kp4)
    · -- while
      refine ⟨_, rfl, b, l1, 2, rfl, hb1, by decide, fun v e l2 H2 we de te hb2 kp2 => ?_⟩
      refine ⟨_, rfl, _, rfl, _, rfl, _, rfl, _, _, rfl, rfl, _, rfl, sub true hand hb2 (s1.mono kp2) fun v1 y l3 H3 gy ty hb3 kp3 => ⟨(by show 3 ≤ sizeLine; decide), ?_⟩⟩
      have le := Ex.len_le (n := 2) de
      have y2 := gy.2.1; have y3 := gy.2.2.1
      have y4 : y.wgt ≤ Bw d := gy.2.2.2
      exact Drawn.mk q (.whl e y) ⟨⟨⟨we, by omega⟩, gy.1⟩, by show y.dep + 1 ≤ _; omega, by show e.len + 2 + y.len + 1 ≤ _; omega, by show e.len + 2 + y.wgt + 1 ≤ Bw (d + 1); omega⟩ rfl (.cons (.str _) (.cons (te.mono (kp3.tk1 hb2)) (.cons ty .nil))) hb3 ((kp1.trans kp2).trans kp3)
    · -- try, clean
      refine ⟨_, rfl, _, rfl, _, rfl, _, _, rfl, rfl, _, rfl, _, rfl, sub turn hand hb1 s1 fun v1 y l2 H2 gy ty hb2 kp2 => ?_⟩
      have s2 := s1.mono kp2
      have y2 := gy.2.1; have y3 := gy.2.2.1
      have y4 : y.wgt ≤ Bw d := gy.2.2.2
      refine r_if (pb_lt rfl) (fun _ => ?_) fun _ => ?_
      · refine ⟨_, rfl, b, l2, 2, rfl, hb2, by decide, by decide, fun x l3 H3 x0 x1 hb3 kp3 => ⟨_, _, rfl, rfl, ?_⟩⟩
        have s3 := s2.mono kp3
        refine ⟨_, rfl, _, rfl, _, rfl, by omega, by omega, fun D hD => ?_⟩
        refine lc_draw (K := K) (l := l3) hdD (HdOk cs nk turn (d + 1) (Bd d)) _ ?hn2 hb3 hD ?hw2 ?_ ?_
        case hn2 => omega
        case hw2 => exact fun _ => rfl
        · intro i H4 l4 hi hb4 kp4 Q' dr
          exact ⟨_, rfl, _, rfl, _, rfl, _, _, rfl, rfl, _, rfl, b, sh, l4, cs, nk, d, turn, by show [V.ref b, .ref sh, V.int (((d + 1 : Nat) : Int) - 1), .bl turn] = _; rw [show (((d + 1 : Nat) : Int) - 1) = (d : Int) by omega], hb4, s3.mono kp4, by omega, dr⟩
        · intro items us l4 H4 hl hg hD4 ht hb4 kp4
          refine ⟨D, us, rfl, .inl ⟨SqL.of hD4, fun p hp => ⟨(by show 3 ≤ sizeLine; decide), ?_⟩⟩⟩
          have hl3 : items.length ≤ 2 := by omega
          have len := Hds.len_ofL (n := Bd d) fun s hs => (hg s hs).2.2.1
          have wgt := Hds.wgt_ofL (n := Bw d) fun s hs => (hg s hs).2.2.2
          have : items.length * (Bw d + 4) ≤ 2 * (Bw d + 4) := Nat.mul_le_mul_right _ hl3
          have : items.length * (Bd d + 4) ≤ 2 * (Bd d + 4) := Nat.mul_le_mul_right _ hl3
          refine Drawn.mk q (.tri y (Hds.ofL items)) ⟨⟨gy.1, Hds.wf_ofL fun s hs => (hg s hs).1⟩, ?_, ?_, ?_⟩ rfl (.cons (.str _) (.cons (((ty.mono (kp3.tk1 hb2)).mono (kp4.tk1 hb3)).mono (Tk.new hp)) (.cons (.tup (.inl (.inl upd_same)) ?_) .nil))) (box_new hb4 hp) ((((kp1.trans kp2).trans kp3).trans kp4).trans (Kp.new hp))
          · show max y.dep (Hds.ofL items).dep + 1 ≤ d + 1 + 1
            have := Hds.dep_ofL (n := d + 1) fun s hs => (hg s hs).2.1
            omega
          · show y.len + 1 + (Hds.ofL items).len ≤ Bd (d + 1)
            omega
          · show y.wgt + 1 + (Hds.ofL items).wgt ≤ Bw (d + 1)
            omega
          · rw [Hds.ds_ofL]
            exact ht.mono (Tk.new hp)
      · refine ⟨_, rfl, _, rfl, _, rfl, _, rfl, _, _, rfl, rfl, _, rfl, _, rfl, sub turn hand hb2 s2 fun v2 z l3 H3 gz tz hb3 kp3 => ⟨(by show 3 ≤ sizeLine; decide), ?_⟩⟩
        have z2 := gz.2.1; have z3 := gz.2.2.1
        have z4 : z.wgt ≤ Bw d := gz.2.2.2
        exact Drawn.mk q (.cln y z) ⟨⟨gy.1, gz.1⟩, by show max y.dep z.dep + 1 ≤ _; omega, by show y.len + 2 + z.len + 1 ≤ _; omega, by show y.wgt + z.wgt + 28 ≤ Bw (d + 1); omega⟩ rfl (.cons (.str _) (.cons (ty.mono (kp3.tk1 hb2)) (.cons tz .nil))) hb3 ((kp1.trans kp2).trans kp3)
  -- kind 4, a row of simple ones
  refine ⟨_, rfl, rfl, _, rfl, ifB (fun _ => ?_) fun _ => rest l1 H1 hb1 kp1 s1⟩
  refine ⟨_, rfl, b, l1, 3, rfl, hb1, by decide, by decide, fun x l2 H2 x0 x1 hb2 kp2 => ⟨rfl, _, rfl, ifB (fun _ => ?_) fun _ => rest l2 H2 hb2 (kp1.trans kp2) (s1.mono kp2)⟩⟩
  refine ⟨_, rfl, b, l2, 7, rfl, hb2, by decide, by decide, fun y l3 H3 y0 y1 hb3 kp3 => ⟨_, rfl, by omega, by omega, fun D hD => ?_⟩⟩
  have s3 := (s1.mono kp2).mono kp3
  refine lc_draw (K := K) (l := l3) Sm.d (StmtOk cs nk turn hand 1 11) _ ?hn hb3 hD ?hw ?_ ?_
  case hn => omega
  case hw => exact fun _ => rfl
  · intro i H4 l4 hi hb4 kp4 Q' dr
    exact ⟨_, rfl, _, rfl, _, rfl, _, rfl, b, sh, l4, cs, nk, turn, hand, rfl, hb4, s3.mono kp4, dr⟩
  · intro items us l4 H4 hl hg hD4 ht hb4 kp4
    refine ⟨D, us, rfl, .inl ⟨SqL.of hD4, fun p hp => ⟨(by show 2 ≤ sizeLine; decide), ?_⟩⟩⟩
    have hl6 : items.length ≤ 6 := by omega
    have len := Sms.len_ofL (n := 11) fun s hs => (hg s hs).2.2.1
    have wgt := Sms.wgt_ofL (n := 11) fun s hs => (hg s hs).2.2.2
    have : items.length * 11 ≤ 6 * 11 := Nat.mul_le_mul_right _ hl6
    have : items.length * (11 + 1) ≤ 6 * (11 + 1) := Nat.mul_le_mul_right _ hl6
    refine Drawn.mk q (.row (Sms.ofL items)) ⟨Sms.wf_ofL fun s hs => (hg s hs).1, ?_, ?_, ?_⟩ rfl (.cons (.str _) (.cons (.tup (.inl (.inl upd_same)) ?_) .nil)) (box_new hb4 hp) ((((kp1.trans kp2).trans kp3).trans kp4).trans (Kp.new hp))
    · show (Sms.ofL items).dep + 1 ≤ d + 1 + 1
      have := Sms.dep_ofL (n := 1) fun s hs => (hg s hs).2.1
      omega
    · show (Sms.ofL items).len ≤ Bd (d + 1)
      omega
    · show (Sms.ofL items).wgt ≤ Bw (d + 1)
      omega
    · rw [Sms.ds_ofL]
      exact ht.mono (Tk.new hp)
/-! ### programs -/
structure PgOk (p : Pg) : Prop where
  wf : p.Wf
  small : p.Small 5 1890
  k4 : p.kinds.length ≤ 4
  f4 : p.funs.length ≤ 4
  wgt : ∀ f ∈ p.funs, f.2.wgt ≤ 2060
def spProgram (K : PySem.W.Frag) : Sp := fun vs H Q _ => ∃ (b : Addr) (l : List Int), vs = [.ref b] ∧ H b = some (.lst (l.map V.int)) ∧ Drawn K b H Q Pg.d PgOk
abbrev N_law_program : List Str := ["_law_box", "_law_kinds_here", "_law_shape", "_law_k", "_law_functions", "_law_many", "_law_parts"]
theorem rd_law_program (vs : List V) (H : Hp) (Q : VK) (E : XK) (h : spProgram K vs H Q E) : t_law_program K spKinds spTake (spStmt K 4) { nx := fun _ H' => Q .non H', rt := Q } (start N_law_program vs) H := by
  obtain ⟨b, l, rfl, hb, q⟩ := h
  refine ⟨_, rfl, b, l, 4, rfl, hb, by decide, by decide, fun a ks l1 H1 wk k0 k4 ha _ hb1 kp1 => ?_⟩
  have ab : a ≠ b := ne_of ha hb1 (by intro z; cases z)
  refine ⟨_, rfl, b, l1, 4, rfl, hb1, by decide, by decide, fun n l2 H2 n0 n1 hb2 kp2 => ⟨_, _, rfl, rfl, ?_⟩⟩
  refine ⟨_, rfl, by omega, by omega, fun c hc => ?_⟩
  have cb : c ≠ b := fun e => by rw [e, hb2] at hc; cases hc
  refine lc_draw (K := K) (l := l2) (fun n : Nat => PyData.int (n : Int)) (fun n : Nat => n ≤ 3) _ ?hn hb2 hc ?hw ?_ ?_
  case hn => omega
  case hw => exact fun _ => rfl
  · intro i H3 l3 hi hb3 kp3 Q' dr
    refine ⟨_, rfl, b, l3, 4, rfl, hb3, by decide, by decide, fun x l4 H4 x0 x1 hb4 kp4 => ?_⟩
    obtain ⟨k, rfl⟩ : ∃ k : Nat, x = (k : Int) := ⟨x.toNat, by omega⟩
    exact dr _ k l4 H4 (by show k ≤ 3; omega) (.int _) hb4 kp4
  · intro cs cvs l3 H3 hl hg hc3 ht hb3 kp3
    have ecs : cvs = cs.map fun n : Nat => V.int (n : Int) := by
      clear hl hg hc3
      induction cs generalizing cvs with
      | nil => exact ht.nilE
      | cons x r ih =>
        obtain ⟨v, us, rfl, h1, h2⟩ := TpAll.consE ht
        rw [h1.intE, ih us h2]; rfl
    subst ecs
    have ha3 := kp3 _ _ (kp2 _ _ ha ab) ab
    refine ⟨_, rfl, a, _, rfl, .inr (SqT.of ha3), (by show 2 ≤ sizeLine; decide), fun sh hsh => ?_⟩
    rw [List.length_map]
    have hc4 : L2.upd H3 sh (.lst [.ref c, .int (ks.length : Int)]) c = some (.lst (cs.map fun n : Nat => V.int (n : Int))) := by rw [upd_ne (ne_of_none hc3 hsh)]; exact hc3
    have hb4 := box_new (o := .lst [.ref c, .int (ks.length : Int)]) hb3 hsh
    have shb : sh ≠ b := fun e => by rw [e, hb3] at hsh; cases hsh
    have shA : ShAt (L2.upd H3 sh (.lst [.ref c, .int (ks.length : Int)])) b sh cs ks.length := ⟨⟨c, upd_same, hc4, cb⟩, shb, k0, by omega, by omega, by omega, hg⟩
    have ha4 : L2.upd H3 sh (.lst [.ref c, .int (ks.length : Int)]) a = some (.tup (ks.map kindV)) := by rw [upd_ne (ne_of_none ha3 hsh)]; exact ha3
    have kp4 : Kp (Bx b) H (L2.upd H3 sh (.lst [.ref c, .int (ks.length : Int)])) := ((kp1.trans kp2).trans kp3).trans (Kp.new hsh)
    refine ⟨(by show 0 ≤ sizeLine; decide), fun F hF => ?_⟩
    have Fb : F ≠ b := fun e => by rw [e, hb4] at hF; cases hF
    have Fsh : F ≠ sh := fun e => by rw [e, upd_same] at hF; cases hF
    have Fc : F ≠ c := fun e => by rw [e, hc4] at hF; cases hF
    have Fa : F ≠ a := fun e => by rw [e, ha4] at hF; cases hF
    have shA5 : ShAt (L2.upd (L2.upd H3 sh (.lst [.ref c, .int (ks.length : Int)])) F (.lst [])) b sh cs ks.length := shA.mono (Kp.new hF)
    obtain ⟨c', hx1, hx2, _⟩ := shA5.ex
    refine rd_ixL (j := 0) rfl (SqL.of hx1) rfl ⟨_, rfl, ⟨_, SqL.of hx2⟩, for_list (K := K) (a := c') (xs := cs.map fun n : Nat => V.int (n : Int))
      (fun i σ H' => ∃ (fs : List (Nat × Sm)) (fvs : List V) (l' : List Int) (v3 v5 v6 : Option V), σ = [some (.ref b), some (.ref a), some (.ref sh), v3, some (.ref F), v5, v6] ∧ fs.map (·.1) = cs.take i ∧
        (∀ f ∈ fs, f.2.Wf cs ks.length false false ∧ f.2.dep ≤ 5 ∧ f.2.len ≤ 1890 ∧ f.2.wgt ≤ 2060) ∧ H' F = some (.lst fvs) ∧ TpAll K H' fvs (fs.map funD) ∧ H' b = some (.lst (l'.map V.int)) ∧ Kp (Bx b) (L2.upd H3 sh (.lst [.ref c, .int (ks.length : Int)])) H' ∧ H' c' = some (.lst (cs.map fun n : Nat => V.int (n : Int))))
      ⟨[], [], l3, none, none, none, rfl, rfl, (by simp), upd_same, .nil, box_new hb4 hF, Kp.new hF, hx2⟩ (fun i σ H' _ ⟨_, _, _, _, _, _, _, _, _, _, _, _, _, h⟩ => SqL.of h) ?_ ?_⟩
    · rintro i y σ H5 hy ⟨fs, fvs, l5, v3, v5, v6, rfl, hf1, hf2, hF5, ht5, hb5, kp5, hc5⟩
      have shA6 := shA.mono kp5
      rw [List.getElem?_map] at hy
      cases ei : cs[i]? with
      | none => rw [ei] at hy; cases hy
      | some m =>
        rw [ei] at hy
        obtain rfl : V.int (m : Int) = y := Option.some.inj hy
        refine ⟨_, rfl, b, l5, 3, rfl, hb5, by decide, by decide, fun x l6 H6 x0 x1 hb6 kp6 => ⟨_, _, rfl, rfl, ?_⟩⟩
        have F6 := kp6 _ _ hF5 Fb
        refine ⟨_, rfl, by omega, by omega, fun D hD => ?_⟩
        have DF : F ≠ D := ne_of_none F6 hD
        refine lc_draw (K := K) (l := l6) Sm.d (StmtOk cs ks.length false false 4 (Bd 3)) _ ?hn hb6 hD ?hw ?_ ?_
        case hn => omega
        case hw => exact fun _ => rfl
        · intro i7 H7 l7 hi hb7 kp7 Q' dr
          exact ⟨_, rfl, _, rfl, b, sh, l7, cs, ks.length, 3, false, false, rfl, hb7, (shA6.mono kp6).mono kp7, by decide, dr⟩
        · intro items us l7 H7 hl7 hg7 hD7 ht7 hb7 kp7
          have F7 := kp7 _ _ F6 Fb
          refine ⟨_, rfl, .inl ⟨rfl, _, SqL.of F7⟩, _, rfl, _, rfl, D, us, rfl, .inl ⟨SqL.of hD7, fun p hp => ⟨(by show 2 ≤ sizeLine; decide), fun p2 hp2 => ⟨(by show 2 ≤ sizeLine; decide), fun p3 hp3 => ?_⟩⟩⟩⟩
          have hb8 := box_new (o := .tup us) hb7 hp
          have hb9 := box_new (o := .tup [.str "row", .ref p]) hb8 hp2
          have hb10 := box_new (o := .tup [.int (m : Int), .ref p2]) hb9 hp3
          have F8 : L2.upd (L2.upd (L2.upd H7 p (.tup us)) p2 (.tup [.str "row", .ref p])) p3 (.tup [.int (m : Int), .ref p2]) F = some (.lst fvs) := by
            have e1 := ne_of_none F7 hp
            have z1 : L2.upd H7 p (.tup us) F = some (.lst fvs) := by rw [upd_ne e1]; exact F7
            have e2 := ne_of_none z1 hp2
            have z2 : L2.upd (L2.upd H7 p (.tup us)) p2 (.tup [.str "row", .ref p]) F = some (.lst fvs) := by rw [upd_ne e2]; exact z1
            rw [upd_ne (ne_of_none z2 hp3)]; exact z2
          have kpX : Kp (Bx b) H5 (L2.upd (L2.upd (L2.upd H7 p (.tup us)) p2 (.tup [.str "row", .ref p])) p3 (.tup [.int (m : Int), .ref p2])) := (((kp6.trans kp7).trans (Kp.new hp)).trans (Kp.new hp2)).trans (Kp.new hp3)
          have tkX : Tk H5 (L2.upd (L2.upd (L2.upd H7 p (.tup us)) p2 (.tup [.str "row", .ref p])) p3 (.tup [.int (m : Int), .ref p2])) := kpX.tk1 hb5
          have tB : TpAll K (L2.upd (L2.upd H7 p (.tup us)) p2 (.tup [.str "row", .ref p])) [.int (m : Int), .ref p2] [.int (m : Int), (Sm.row (Sms.ofL items)).d] := by
            refine .cons (.int _) (.cons (Tp.mk hp2 (.cons (.str _) (.cons (Tp.mk hp ?_) .nil))) .nil)
            rw [Sms.ds_ofL]; exact ht7
          have len := Sms.len_ofL (n := 630) fun s hs => (hg7 s hs).2.2.1
          have wgt := Sms.wgt_ofL (n := 684) fun s hs => (hg7 s hs).2.2.2
          have : items.length * (684 + 1) ≤ 3 * (684 + 1) := Nat.mul_le_mul_right _ (by omega)
          have dep := Sms.dep_ofL (n := 4) fun s hs => (hg7 s hs).2.1
          have : items.length * 630 ≤ 3 * 630 := Nat.mul_le_mul_right _ (by omega)
          have fl : fvs.length = i := by
            have e1 := ht5.length
            have e2 : fs.length = (cs.take i).length := by rw [← hf1, List.length_map]
            have := (List.getElem?_eq_some_iff.mp ei).1
            rw [List.length_map] at e1
            rw [List.length_take] at e2
            omega
          have ilt := (List.getElem?_eq_some_iff.mp ei).1
          refine ⟨F, fvs, .ref p3, rfl, rfl, F8, sz_lt1 (by omega), fs ++ [(m, .row (Sms.ofL items))], fvs ++ [.ref p3], l7, _, _, _, rfl, ?_, ?_, upd_same, ?_, ?_, ?_, ?_⟩
          · rw [List.map_append, hf1, List.take_succ, ei]; rfl
          · intro f hf
            rcases List.mem_append.mp hf with z | z
            · exact hf2 f z
            · obtain rfl : f = (m, .row (Sms.ofL items)) := by simpa using z
              exact ⟨Sms.wf_ofL fun s hs => (hg7 s hs).1, by show (Sms.ofL items).dep + 1 ≤ 5; omega, by show (Sms.ofL items).len ≤ 1890; omega, by show (Sms.ofL items).wgt ≤ 2060; omega⟩
          · rw [List.map_append]
            exact ((ht5.mono tkX).snoc (Tp.mk hp3 tB)).mono (Tk.lst F8)
          · rw [upd_ne Fb.symm]; exact hb10
          · exact (kp5.trans kpX).late hF
          · have cF : c' ≠ F := by
              rintro rfl
              rw [upd_same] at hx2
              have := Option.some.inj hx2
              injection this with e
              have hz := shA.c0
              cases cs with
              | nil => simp at hz
              | cons _ _ => cases e
            have cb' : c' ≠ b := by
              obtain ⟨c2, _, _, h3⟩ := shA5.ex
              assumption
            rw [upd_ne cF]; exact kpX _ _ hc5 cb'
    · rintro σ H5 ⟨fs, fvs, l5, v3, v5, v6, rfl, hf1, hf2, hF5, ht5, hb5, kp5, hc5⟩
      rw [List.length_map, List.take_of_length_le (Nat.le_refl _)] at hf1
      have ha5 := kp5 _ _ ha4 ab
      refine ⟨_, rfl, _, rfl, F, fvs, rfl, .inl ⟨SqL.of hF5, fun p hp => ⟨(by show 2 ≤ sizeLine; decide), ?_⟩⟩⟩
      have hcs : Pg.cs ⟨ks, fs⟩ = cs := hf1
      have lf : fs.length = cs.length := by rw [← hf1, List.length_map]
      refine Drawn.mk q (⟨ks, fs⟩ : Pg) ⟨⟨wk, k0, by show ks.length ≤ 8; omega, by show 0 < fs.length; omega, by show fs.length ≤ 8; omega, fun f hf => hg f.1 (by rw [← hf1]; exact List.mem_map_of_mem hf), fun f hf => by rw [hcs]; exact (hf2 f hf).1⟩, ⟨fun f hf => (hf2 f hf).2.1, fun f hf => (hf2 f hf).2.2.1⟩, by show ks.length ≤ 4; omega, by show fs.length ≤ 4; omega, fun f hf => (hf2 f hf).2.2.2⟩ rfl ?_ (box_new hb5 hp) ((kp4.trans kp5).trans (Kp.new hp))
      exact .cons (.tup (.inl (.inl (by rw [upd_ne (ne_of_none ha5 hp)]; exact ha5))) (tp_kinds ks)) (.cons (Tp.mk hp ht5) .nil)
end
end Lp

/-! Lc: rows, code, tables, as data; the two ways of filling in what is behind. -/
namespace Lp
open PySem PySem.Spec PyProof.Rows L2

inductive Rw where
  | num (n : Int)
  | var (k : Nat)
  | op (o : BOp)
  | say
  | set (k : Nat)
  | unless (q : Int)
  | go (z : Int)
  | turn
  | leap (q D : Int)
  | ret
  | rais (kd : Nat) (m : Int)
  | again
  | call (f n : Nat) (m : Int)
  | hand (b x : Int) (kd : Option Nat) (D : Int)
  | settled
  | mend
  | cup (b x D : Int)
  | resume
  deriving DecidableEq
def Rw.d : Rw → PyData
  | .num n => .tuple [.str "num", .int n]
  | .var k => .tuple [.str "var", .int (k : Int)]
  | .op o => .tuple [.str o.s]
  | .say => .tuple [.str "say"]
  | .set k => .tuple [.str "set", .int (k : Int)]
  | .unless q => .tuple [.str "unless", .int q]
  | .go z => .tuple [.str "go", .int z]
  | .turn => .tuple [.str "turn"]
  | .leap q D => .tuple [.str "leap", .int q, .int D]
  | .ret => .tuple [.str "return"]
  | .rais kd m => .tuple [.str "raise", .int (kd : Int), .int m]
  | .again => .tuple [.str "again"]
  | .call f n m => .tuple [.str "call", .int (f : Int), .int (n : Int), .int m]
  | .hand b x kd D => .tuple [.str "handler", .int b, .int x, kindD kd, .int D]
  | .settled => .tuple [.str "settled"]
  | .mend => .tuple [.str "mend"]
  | .cup b x D => .tuple [.str "cleanup", .int b, .int x, .int D]
  | .resume => .tuple [.str "resume"]
def Ex.code : Ex → List Rw
  | .num n => [.num n]
  | .var k => [.var k]
  | .bin o a b => a.code ++ b.code ++ [.op o]
def exsCode : List Ex → List Rw
  | [] => []
  | e :: r => e.code ++ exsCode r
/-- the innermost while: its top, the place behind, its depth -/
abbrev Tn : Type := Int × Int × Int
mutual
def Sm.code (base D : Int) (tn : Tn) : Sm → List Rw
  | .say e => e.code ++ [.say]
  | .set k e => e.code ++ [.set k]
  | .row ps => ps.code base D tn
  | .ife e s t => e.code ++ [.unless (base + e.len + 1 + s.len + 1)] ++ s.code (base + e.len + 1) D tn ++ [.go (base + e.len + 1 + s.len + 1 + t.len)] ++ t.code (base + e.len + 1 + s.len + 1) D tn
  | .whl e s => e.code ++ [.unless (base + e.len + 2 + s.len + 1), .turn] ++ s.code (base + e.len + 2) D (base, base + e.len + 2 + s.len + 1, D) ++ [.go base]
  | .brk => [.leap tn.2.1 tn.2.2]
  | .cnt => [.leap tn.1 tn.2.2]
  | .ret e => e.code ++ [.ret]
  | .call k f ps m => exsCode ps ++ [.call f ps.length m, .set k]
  | .rais kd e m => e.code ++ [.rais kd m]
  | .again => [.again]
  | .tri s hs => s.code base D tn ++ [.go (base + s.len + 1 + hs.len)] ++ hs.code base (base + s.len) (base + s.len + 1 + hs.len) (base + s.len + 1) D tn
  | .cln s c => s.code base D tn ++ [.mend, .cup base (base + s.len + 1) D] ++ c.code (base + s.len + 2) (D + 1) tn ++ [.resume]
def Sms.code (base D : Int) (tn : Tn) : Sms → List Rw
  | .nil => []
  | .cons s r => s.code base D tn ++ r.code (base + s.len) D tn
/-- handlers of the stretch b, x, from the place at_ on; z: the place behind all -/
def Hds.code (b x z at_ D : Int) (tn : Tn) : Hds → List Rw
  | .nil => []
  | .cons k sl t r => [.hand b x k D, .set sl] ++ t.code (at_ + 2) (D + 1) tn ++ [.settled, .go z] ++ r.code b x z (at_ + 2 + t.len + 2) D tn
end
theorem Ex.code_len : ∀ e : Ex, e.code.length = e.len
  | .num _ => rfl
  | .var _ => rfl
  | .bin _ a b => by simp [Ex.code, Ex.len, Ex.code_len a, Ex.code_len b]; omega
theorem exsCode_len : ∀ ps : List Ex, (exsCode ps).length = exsLen ps
  | [] => rfl
  | e :: r => by simp [exsCode, exsLen, Ex.code_len, exsCode_len r]
mutual
theorem Sm.code_len : ∀ (s : Sm) (base D : Int) (tn : Tn), (s.code base D tn).length = s.len
  | .say e, _, _, _ => by simp [Sm.code, Sm.len, Ex.code_len]
  | .set _ e, _, _, _ => by simp [Sm.code, Sm.len, Ex.code_len]
  | .row ps, _, _, _ => by simp [Sm.code, Sm.len, Sms.code_len ps]
  | .ife e s t, _, _, _ => by simp [Sm.code, Sm.len, Ex.code_len, Sm.code_len s, Sm.code_len t]; omega
  | .whl e s, _, _, _ => by simp [Sm.code, Sm.len, Ex.code_len, Sm.code_len s]; omega
  | .brk, _, _, _ => rfl
  | .cnt, _, _, _ => rfl
  | .ret e, _, _, _ => by simp [Sm.code, Sm.len, Ex.code_len]
  | .call _ _ ps _, _, _, _ => by simp [Sm.code, Sm.len, exsCode_len]
  | .rais _ e _, _, _, _ => by simp [Sm.code, Sm.len, Ex.code_len]
  | .again, _, _, _ => rfl
  | .tri s hs, _, _, _ => by simp [Sm.code, Sm.len, Sm.code_len s, Hds.code_len hs]; omega
  | .cln s c, _, _, _ => by simp [Sm.code, Sm.len, Sm.code_len s, Sm.code_len c]; omega
theorem Sms.code_len : ∀ (ps : Sms) (base D : Int) (tn : Tn), (ps.code base D tn).length = ps.len
  | .nil, _, _, _ => rfl
  | .cons s r, _, _, _ => by simp [Sms.code, Sms.len, Sm.code_len s, Sms.code_len r]
theorem Hds.code_len : ∀ (hs : Hds) (b x z at_ D : Int) (tn : Tn), (hs.code b x z at_ D tn).length = hs.len
  | .nil, _, _, _, _, _, _ => rfl
  | .cons k sl t r, _, _, _, _, _, _ => by simp [Hds.code, Hds.len, Sm.code_len t, Hds.code_len r]; omega
end

/-! ### no place is below nought, but where it is handed in -/
def Nng : Rw → Prop
  | .unless q => 0 ≤ q
  | .go z => 0 ≤ z
  | .leap q _ => 0 ≤ q
  | _ => True
theorem Ex.nng : ∀ (e : Ex), ∀ r ∈ e.code, ∀ w D z, r ≠ .leap w D ∧ r ≠ .go z
  | .num _, r, h, w, D, z => by simp [Ex.code] at h; subst h; simp
  | .var _, r, h, w, D, z => by simp [Ex.code] at h; subst h; simp
  | .bin o a b, r, h, w, D, z => by
    simp [Ex.code] at h
    rcases h with h | h | h
    · exact Ex.nng a r h w D z
    · exact Ex.nng b r h w D z
    · subst h; simp
theorem exsCode_nng : ∀ (ps : List Ex), ∀ r ∈ exsCode ps, ∀ w D z, r ≠ .leap w D ∧ r ≠ .go z
  | [], r, h, _, _, _ => by simp [exsCode] at h
  | e :: ps, r, h, w, D, z => by
    rcases List.mem_append.mp (show r ∈ e.code ++ exsCode ps from h) with h | h
    · exact Ex.nng e r h w D z
    · exact exsCode_nng ps r h w D z

/-! ### the law's way: a mark below nought, filled in behind by a look at each row -/
def subL (w z D : Int) (r : Rw) : Rw := if r = .leap w D then .leap z D else r
def subG (z : Int) (r : Rw) : Rw := if r = .go (-1) then .go z else r
theorem map_idL {w z D : Int} {l : List Rw} (h : ∀ r ∈ l, ∀ w D z, r ≠ .leap w D ∧ r ≠ .go z) : l.map (subL w z D) = l := by
  have : l.map (subL w z D) = l.map id := List.map_congr_left fun r hr => by
    unfold subL
    rw [if_neg (h r hr w D 0).1]; rfl
  rw [this, List.map_id]
theorem map_idG {z : Int} {l : List Rw} (h : ∀ r ∈ l, ∀ w D z, r ≠ .leap w D ∧ r ≠ .go z) : l.map (subG z) = l := by
  have : l.map (subG z) = l.map id := List.map_congr_left fun r hr => by
    unfold subG
    rw [if_neg (h r hr 0 0 (-1)).2]; rfl
  rw [this, List.map_id]
mutual
theorem Sm.subL {w z p D0 : Int} (hw : w < 0) (hp : 0 ≤ p) : ∀ (s : Sm) (base D : Int), 0 ≤ base → (s.code base D (p, w, D0)).map (subL w z D0) = s.code base D (p, z, D0)
  | .say e, _, _, _ => by simp [Sm.code, map_idL (Ex.nng e)]; rfl
  | .set _ e, _, _, _ => by simp [Sm.code, map_idL (Ex.nng e)]; rfl
  | .row ps, base, D, h => Sms.subL hw hp ps base D h
  | .ife e s t, base, D, h => by
    simp only [Sm.code, List.map_append, List.map_cons, List.map_nil, map_idL (Ex.nng e)]
    rw [Sm.subL hw hp s _ _ (by omega), Sm.subL hw hp t _ _ (by omega)]; rfl
  | .whl e s, base, D, h => by
    simp only [Sm.code, List.map_append, List.map_cons, List.map_nil, map_idL (Ex.nng e)]
    rw [Sm.subL_id hw s _ _ _ _ _ (by omega) h (by omega)]; rfl
  | .brk, _, _, _ => by simp [Sm.code, Lp.subL]
  | .cnt, _, _, _ => by
    have : p ≠ w := by omega
    simp [Sm.code, Lp.subL, this]
  | .ret e, _, _, _ => by simp [Sm.code, map_idL (Ex.nng e)]; rfl
  | .call _ _ ps _, _, _, _ => by simp [Sm.code, map_idL (exsCode_nng ps)]; exact ⟨rfl, rfl⟩
  | .rais _ e _, _, _, _ => by simp [Sm.code, map_idL (Ex.nng e)]; rfl
  | .again, _, _, _ => rfl
  | .tri s hs, base, D, h => by
    simp only [Sm.code, List.map_append, List.map_cons, List.map_nil]
    rw [Sm.subL hw hp s _ _ h, Hds.subL hw hp hs _ _ _ _ _ (by omega)]; rfl
  | .cln s c, base, D, h => by
    simp only [Sm.code, List.map_append, List.map_cons, List.map_nil]
    rw [Sm.subL hw hp s _ _ h, Sm.subL hw hp c _ _ (by omega)]; rfl
theorem Sms.subL {w z p D0 : Int} (hw : w < 0) (hp : 0 ≤ p) : ∀ (ps : Sms) (base D : Int), 0 ≤ base → (ps.code base D (p, w, D0)).map (subL w z D0) = ps.code base D (p, z, D0)
  | .nil, _, _, _ => rfl
  | .cons s r, base, D, h => by
    simp only [Sms.code, List.map_append]
    rw [Sm.subL hw hp s _ _ h, Sms.subL hw hp r _ _ (by omega)]
theorem Hds.subL {w z p D0 : Int} (hw : w < 0) (hp : 0 ≤ p) : ∀ (hs : Hds) (b x y at_ D : Int), 0 ≤ at_ → (hs.code b x y at_ D (p, w, D0)).map (subL w z D0) = hs.code b x y at_ D (p, z, D0)
  | .nil, _, _, _, _, _, _ => rfl
  | .cons k sl t r, b, x, y, at_, D, h => by
    simp only [Hds.code, List.map_append, List.map_cons, List.map_nil]
    rw [Sm.subL hw hp t _ _ (by omega), Hds.subL hw hp r _ _ _ _ _ (by omega)]; rfl
theorem Sm.subL_id {w z D0 : Int} (hw : w < 0) : ∀ (s : Sm) (base D p q Dq : Int), 0 ≤ base → 0 ≤ p → 0 ≤ q → (s.code base D (p, q, Dq)).map (Lp.subL w z D0) = s.code base D (p, q, Dq)
  | .say e, _, _, _, _, _, _, _, _ => by simp [Sm.code, map_idL (Ex.nng e)]; rfl
  | .set _ e, _, _, _, _, _, _, _, _ => by simp [Sm.code, map_idL (Ex.nng e)]; rfl
  | .row ps, base, D, p, q, Dq, h, hp, hq => Sms.subL_id hw ps base D p q Dq h hp hq
  | .ife e s t, base, D, p, q, Dq, h, hp, hq => by
    simp only [Sm.code, List.map_append, List.map_cons, List.map_nil, map_idL (Ex.nng e)]
    rw [Sm.subL_id hw s _ _ _ _ _ (by omega) hp hq, Sm.subL_id hw t _ _ _ _ _ (by omega) hp hq]; rfl
  | .whl e s, base, D, p, q, Dq, h, hp, hq => by
    simp only [Sm.code, List.map_append, List.map_cons, List.map_nil, map_idL (Ex.nng e)]
    rw [Sm.subL_id hw s _ _ _ _ _ (by omega) h (by omega)]; rfl
  | .brk, _, _, p, q, Dq, h, hp, hq => by
    have : q ≠ w := by omega
    simp [Sm.code, Lp.subL, this]
  | .cnt, _, _, p, q, Dq, h, hp, hq => by
    have : p ≠ w := by omega
    simp [Sm.code, Lp.subL, this]
  | .ret e, _, _, _, _, _, _, _, _ => by simp [Sm.code, map_idL (Ex.nng e)]; rfl
  | .call _ _ ps _, _, _, _, _, _, _, _, _ => by simp [Sm.code, map_idL (exsCode_nng ps)]; exact ⟨rfl, rfl⟩
  | .rais _ e _, _, _, _, _, _, _, _, _ => by simp [Sm.code, map_idL (Ex.nng e)]; rfl
  | .again, _, _, _, _, _, _, _, _ => rfl
  | .tri s hs, base, D, p, q, Dq, h, hp, hq => by
    simp only [Sm.code, List.map_append, List.map_cons, List.map_nil]
    rw [Sm.subL_id hw s _ _ _ _ _ h hp hq, Hds.subL_id hw hs _ _ _ _ _ _ _ _ (by omega) hp hq]; rfl
  | .cln s c, base, D, p, q, Dq, h, hp, hq => by
    simp only [Sm.code, List.map_append, List.map_cons, List.map_nil]
    rw [Sm.subL_id hw s _ _ _ _ _ h hp hq, Sm.subL_id hw c _ _ _ _ _ (by omega) hp hq]; rfl
theorem Sms.subL_id {w z D0 : Int} (hw : w < 0) : ∀ (ps : Sms) (base D p q Dq : Int), 0 ≤ base → 0 ≤ p → 0 ≤ q → (ps.code base D (p, q, Dq)).map (Lp.subL w z D0) = ps.code base D (p, q, Dq)
  | .nil, _, _, _, _, _, _, _, _ => rfl
  | .cons s r, base, D, p, q, Dq, h, hp, hq => by
    simp only [Sms.code, List.map_append]
    rw [Sm.subL_id hw s _ _ _ _ _ h hp hq, Sms.subL_id hw r _ _ _ _ _ (by omega) hp hq]
theorem Hds.subL_id {w z D0 : Int} (hw : w < 0) : ∀ (hs : Hds) (b x y at_ D p q Dq : Int), 0 ≤ at_ → 0 ≤ p → 0 ≤ q → (hs.code b x y at_ D (p, q, Dq)).map (Lp.subL w z D0) = hs.code b x y at_ D (p, q, Dq)
  | .nil, _, _, _, _, _, _, _, _, _, _, _ => rfl
  | .cons k sl t r, b, x, y, at_, D, p, q, Dq, h, hp, hq => by
    simp only [Hds.code, List.map_append, List.map_cons, List.map_nil]
    rw [Sm.subL_id hw t _ _ _ _ _ (by omega) hp hq, Hds.subL_id hw r _ _ _ _ _ _ _ _ (by omega) hp hq]; rfl
end
mutual
theorem Sm.subG {y : Int} : ∀ (s : Sm) (base D : Int) (tn : Tn), 0 ≤ base → (s.code base D tn).map (subG y) = s.code base D tn
  | .say e, _, _, _, _ => by simp [Sm.code, map_idG (Ex.nng e)]; rfl
  | .set _ e, _, _, _, _ => by simp [Sm.code, map_idG (Ex.nng e)]; rfl
  | .row ps, base, D, tn, h => Sms.subG ps base D tn h
  | .ife e s t, base, D, tn, h => by
    simp only [Sm.code, List.map_append, List.map_cons, List.map_nil, map_idG (Ex.nng e)]
    rw [Sm.subG s _ _ _ (by omega), Sm.subG t _ _ _ (by omega)]
    rw [show Lp.subG y (.go (base + e.len + 1 + s.len + 1 + t.len)) = .go (base + e.len + 1 + s.len + 1 + t.len) from if_neg (by simp; omega)]; rfl
  | .whl e s, base, D, tn, h => by
    simp only [Sm.code, List.map_append, List.map_cons, List.map_nil, map_idG (Ex.nng e)]
    rw [Sm.subG s _ _ _ (by omega)]
    rw [show Lp.subG y (.go base) = .go base from if_neg (by simp; omega)]; rfl
  | .brk, _, _, _, _ => rfl
  | .cnt, _, _, _, _ => rfl
  | .ret e, _, _, _, _ => by simp [Sm.code, map_idG (Ex.nng e)]; rfl
  | .call _ _ ps _, _, _, _, _ => by simp [Sm.code, map_idG (exsCode_nng ps)]; exact ⟨rfl, rfl⟩
  | .rais _ e _, _, _, _, _ => by simp [Sm.code, map_idG (Ex.nng e)]; rfl
  | .again, _, _, _, _ => rfl
  | .tri s hs, base, D, tn, h => by
    simp only [Sm.code, List.map_append, List.map_cons, List.map_nil]
    rw [Sm.subG s _ _ _ h, Hds.subG hs _ _ _ _ _ _ (by omega) (by omega)]
    rw [show Lp.subG y (.go (base + s.len + 1 + hs.len)) = .go (base + s.len + 1 + hs.len) from if_neg (by simp; omega)]
  | .cln s c, base, D, tn, h => by
    simp only [Sm.code, List.map_append, List.map_cons, List.map_nil]
    rw [Sm.subG s _ _ _ h, Sm.subG c _ _ _ (by omega)]; rfl
theorem Sms.subG {y : Int} : ∀ (ps : Sms) (base D : Int) (tn : Tn), 0 ≤ base → (ps.code base D tn).map (subG y) = ps.code base D tn
  | .nil, _, _, _, _ => rfl
  | .cons s r, base, D, tn, h => by
    simp only [Sms.code, List.map_append]
    rw [Sm.subG s _ _ _ h, Sms.subG r _ _ _ (by omega)]
theorem Hds.subG {y : Int} : ∀ (hs : Hds) (b x z at_ D : Int) (tn : Tn), 0 ≤ at_ → 0 ≤ z → (hs.code b x z at_ D tn).map (subG y) = hs.code b x z at_ D tn
  | .nil, _, _, _, _, _, _, _, _ => rfl
  | .cons k sl t r, b, x, z, at_, D, tn, h, hz => by
    simp only [Hds.code, List.map_append, List.map_cons, List.map_nil]
    rw [Sm.subG t _ _ _ (by omega), Hds.subG r _ _ _ _ _ _ (by omega) hz]
    rw [show Lp.subG y (.go z) = .go z from if_neg (by simp; omega)]; rfl
end
/-- handlers with the mark -1, filled in -/
theorem Hds.fill {y : Int} : ∀ (hs : Hds) (b x at_ D : Int) (tn : Tn), 0 ≤ at_ → (hs.code b x (-1) at_ D tn).map (Lp.subG y) = hs.code b x y at_ D tn
  | .nil, _, _, _, _, _, _ => rfl
  | .cons k sl t r, b, x, at_, D, tn, h => by
    simp only [Hds.code, List.map_append, List.map_cons, List.map_nil]
    rw [Sm.subG t _ _ _ (by omega), Hds.fill r _ _ _ _ _ (by omega)]
    rw [show Lp.subG y (.go (-1)) = .go y from if_pos rfl]; rfl

/-! ### the program's way: places of the breaks, filled in behind -/
mutual
def Sm.bks (base : Int) : Sm → List Int
  | .row ps => ps.bks base
  | .ife e s t => s.bks (base + e.len + 1) ++ t.bks (base + e.len + 1 + s.len + 1)
  | .brk => [base]
  | .tri s hs => s.bks base ++ hs.bks (base + s.len + 1)
  | .cln s c => s.bks base ++ c.bks (base + s.len + 2)
  | _ => []
def Sms.bks (base : Int) : Sms → List Int
  | .nil => []
  | .cons s r => s.bks base ++ r.bks (base + s.len)
def Hds.bks (at_ : Int) : Hds → List Int
  | .nil => []
  | .cons _ _ t r => t.bks (at_ + 2) ++ r.bks (at_ + 2 + t.len + 2)
end
def fillAt (row : Rw) (ps : List Int) (l : List Rw) : List Rw := ps.foldl (fun l p => l.set p.toNat row) l
theorem fillAt_app (row : Rw) (ps qs : List Int) (l : List Rw) : fillAt row (ps ++ qs) l = fillAt row qs (fillAt row ps l) := by
  unfold fillAt; rw [List.foldl_append]
mutual
theorem Sm.fill {p z D0 : Int} : ∀ (s : Sm) (base D : Int) (pre post : List Rw), (pre.length : Int) = base →
    fillAt (.leap z D0) (s.bks base) (pre ++ s.code base D (p, 0, D0) ++ post) = pre ++ s.code base D (p, z, D0) ++ post
  | .say e, _, _, _, _, _ => rfl
  | .set _ e, _, _, _, _, _ => rfl
  | .row ps, base, D, pre, post, h => Sms.fill ps base D pre post h
  | .ife e s t, base, D, pre, post, h => by
    have h1 := Sm.fill (p := p) (z := z) (D0 := D0) s (base + e.len + 1) D (pre ++ e.code ++ [.unless (base + e.len + 1 + s.len + 1)]) ([.go (base + e.len + 1 + s.len + 1 + t.len)] ++ t.code (base + e.len + 1 + s.len + 1) D (p, 0, D0) ++ post) (by simp [Ex.code_len]; omega)
    have h2 := Sm.fill (p := p) (z := z) (D0 := D0) t (base + e.len + 1 + s.len + 1) D (pre ++ e.code ++ [.unless (base + e.len + 1 + s.len + 1)] ++ s.code (base + e.len + 1) D (p, z, D0) ++ [.go (base + e.len + 1 + s.len + 1 + t.len)]) post (by simp [Ex.code_len, Sm.code_len]; omega)
    simp only [Sm.bks, Sm.code, fillAt_app, List.append_assoc] at h1 h2 ⊢
    rw [h1, h2]
  | .whl e s, _, _, _, _, _ => rfl
  | .brk, base, D, pre, post, h => by
    have : base.toNat = pre.length := by omega
    simp [Sm.bks, Sm.code, fillAt, this]
  | .cnt, _, _, _, _, _ => rfl
  | .ret e, _, _, _, _, _ => rfl
  | .call _ _ ps _, _, _, _, _, _ => rfl
  | .rais _ e _, _, _, _, _, _ => rfl
  | .again, _, _, _, _, _ => rfl
  | .tri s hs, base, D, pre, post, h => by
    have h1 := Sm.fill (p := p) (z := z) (D0 := D0) s base D pre ([.go (base + s.len + 1 + hs.len)] ++ hs.code base (base + s.len) (base + s.len + 1 + hs.len) (base + s.len + 1) D (p, 0, D0) ++ post) h
    have h2 := Hds.fillB (p := p) (z := z) (D0 := D0) hs base (base + s.len) (base + s.len + 1 + hs.len) (base + s.len + 1) D (pre ++ s.code base D (p, z, D0) ++ [.go (base + s.len + 1 + hs.len)]) post (by simp [Sm.code_len]; omega)
    simp only [Sm.bks, Sm.code, fillAt_app, List.append_assoc] at h1 h2 ⊢
    rw [h1, h2]
  | .cln s c, base, D, pre, post, h => by
    have h1 := Sm.fill (p := p) (z := z) (D0 := D0) s base D pre ([.mend, .cup base (base + s.len + 1) D] ++ c.code (base + s.len + 2) (D + 1) (p, 0, D0) ++ [.resume] ++ post) h
    have h2 := Sm.fill (p := p) (z := z) (D0 := D0) c (base + s.len + 2) (D + 1) (pre ++ s.code base D (p, z, D0) ++ [.mend, .cup base (base + s.len + 1) D]) ([.resume] ++ post) (by simp [Sm.code_len]; omega)
    simp only [Sm.bks, Sm.code, fillAt_app, List.append_assoc] at h1 h2 ⊢
    rw [h1, h2]
theorem Sms.fill {p z D0 : Int} : ∀ (ps : Sms) (base D : Int) (pre post : List Rw), (pre.length : Int) = base →
    fillAt (.leap z D0) (ps.bks base) (pre ++ ps.code base D (p, 0, D0) ++ post) = pre ++ ps.code base D (p, z, D0) ++ post
  | .nil, _, _, _, _, _ => rfl
  | .cons s r, base, D, pre, post, h => by
    have h1 := Sm.fill (p := p) (z := z) (D0 := D0) s base D pre (r.code (base + s.len) D (p, 0, D0) ++ post) h
    have h2 := Sms.fill (p := p) (z := z) (D0 := D0) r (base + s.len) D (pre ++ s.code base D (p, z, D0)) post (by simp [Sm.code_len]; omega)
    simp only [Sms.bks, Sms.code, fillAt_app, List.append_assoc] at h1 h2 ⊢
    rw [h1, h2]
theorem Hds.fillB {p z D0 : Int} : ∀ (hs : Hds) (b x y at_ D : Int) (pre post : List Rw), (pre.length : Int) = at_ →
    fillAt (.leap z D0) (hs.bks at_) (pre ++ hs.code b x y at_ D (p, 0, D0) ++ post) = pre ++ hs.code b x y at_ D (p, z, D0) ++ post
  | .nil, _, _, _, _, _, _, _, _ => rfl
  | .cons k sl t r, b, x, y, at_, D, pre, post, h => by
    have h1 := Sm.fill (p := p) (z := z) (D0 := D0) t (at_ + 2) (D + 1) (pre ++ [.hand b x k D, .set sl]) ([.settled, .go y] ++ r.code b x y (at_ + 2 + t.len + 2) D (p, 0, D0) ++ post) (by simp; omega)
    have h2 := Hds.fillB (p := p) (z := z) (D0 := D0) r b x y (at_ + 2 + t.len + 2) D (pre ++ [.hand b x k D, .set sl] ++ t.code (at_ + 2) (D + 1) (p, z, D0) ++ [.settled, .go y]) post (by simp [Sm.code_len]; omega)
    simp only [Hds.bks, Hds.code, fillAt_app, List.append_assoc] at h1 h2 ⊢
    rw [h1, h2]
end

/-! ### tables -/
structure Tb where
  b : Int
  x : Int
  kd : Option (Option Nat)   -- some: a handler of that kind; none: a cleanup
  p : Int
  D : Int
  deriving DecidableEq
def Tb.d (t : Tb) : PyData := .tuple [.int t.b, .int t.x, .str (match t.kd with | some _ => "handler" | none => "cleanup"), (match t.kd with | some k => kindD k | none => .none), .int t.p, .int t.D]
def tbOf (p : Int) : Rw → List Tb
  | .hand b x k D => [⟨b, x, some k, p, D⟩]
  | .cup b x D => [⟨b, x, none, p, D⟩]
  | _ => []
def tabAt (p : Int) : List Rw → List Tb
  | [] => []
  | r :: rs => tbOf p r ++ tabAt (p + 1) rs
theorem tabAt_app : ∀ (l m : List Rw) (p : Int), tabAt p (l ++ m) = tabAt p l ++ tabAt (p + l.length) m
  | [], m, p => by simp [tabAt]
  | r :: l, m, p => by
    show tbOf p r ++ tabAt (p + 1) (l ++ m) = (tbOf p r ++ tabAt (p + 1) l) ++ _
    rw [tabAt_app l m (p + 1), List.append_assoc]
    have : p + 1 + (l.length : Int) = p + ((r :: l).length : Int) := by simp; omega
    rw [this]
theorem tabAt_len : ∀ (l : List Rw) (p : Int), (tabAt p l).length ≤ l.length
  | [], _ => Nat.le_refl _
  | r :: l, p => by
    have := tabAt_len l (p + 1)
    have h2 : (tbOf p r).length ≤ 1 := by cases r <;> simp [tbOf]
    simp [tabAt]; omega
/-- a function's code, a program's -/
structure Fc where
  many : Nat
  rows : List Rw
def Fc.tab (f : Fc) : List Tb := tabAt 0 f.rows
def Fc.d (f : Fc) : PyData := .tuple [.int (f.many : Int), .tuple (f.rows.map Rw.d), .tuple (f.tab.map Tb.d)]
def bodyRows (s : Sm) : List Rw := s.code 0 0 (0, 0, 0) ++ [.num 0, .ret]
def Pg.code (p : Pg) : List Fc := p.funs.map fun f => ⟨f.1, bodyRows f.2⟩
def codeD (c : List Fc) : PyData := .tuple (c.map Fc.d)

/-! ### rows as data are told apart -/
theorem eqvAll_len {xs ys : List PyData} (h : xs.length ≠ ys.length) : PyData.eqvAll xs ys = false := by
  induction xs generalizing ys with
  | nil => cases ys with
    | nil => exact absurd rfl h
    | cons _ _ => rfl
  | cons x xs ih => cases ys with
    | nil => rfl
    | cons y ys =>
      have := ih (ys := ys) (by simpa using h)
      simp [PyData.eqvAll, this]
theorem Rw.eqv_leap (r : Rw) (w D : Int) : PyData.eqv r.d (Rw.leap w D).d = decide (r = .leap w D) := by
  cases r <;> simp [Rw.d, PyData.eqv, PyData.eqvAll]
  all_goals first
    | rfl
    | (intro h; exact absurd h (by decide))
theorem Rw.eqv_go (r : Rw) (z : Int) : PyData.eqv r.d (Rw.go z).d = decide (r = .go z) := by
  cases r <;> simp [Rw.d, PyData.eqv, PyData.eqvAll]
  all_goals first
    | rfl
    | (intro h; exact absurd h (by decide))
end Lp

/-! Le: for i, x in enumerate(t), t a tuple. -/
namespace Lp
open PySem PySem.Spec PyProof.Rows L2

set_option maxHeartbeats 4000000 in
theorem meets_en1 {v : Value} {ob : Obj} {Hd : Heap → Prop} (B : Begins v ob Hd) :
    Meets (Builtin.«enumerate.__new__» ⟨[.type "enumerate", v], []⟩) (fun _ R s => Hd s.heap ∧
      R (.ok (.ret (.ref (s.heap.push ob).objs.size))) { s with heap := (s.heap.push ob).push { cls := .type "enumerate", data := .fields #[.none, .bool false, .ref s.heap.objs.size, rawInt 0, .none, .none] } }) := by
  refine .of_wp fun P w A R s h => ?_
  obtain ⟨hp, gn, dr, tk, os⟩ := s
  obtain ⟨h1, h2⟩ := h
  have sub := sub_enumerate
  have it1 : ∀ {A2 : Around} {E2 Q2 : Value → Shared → Prop}, Q2 (.ref hp.objs.size) ⟨hp.push ob, gn, dr, tk, os⟩ → wpAny (model P w) A2 (pyIter v) Q2 E2 ⟨hp, gn, dr, tk, os⟩ := fun q => B.iter P w _ _ ⟨hp, gn, dr, tk, os⟩ _ h1 q
  wp_walk using it1
  refine wpAny_stack_any fun z => wpAny_pure ?_
  split
  · rename_i c _ _ _ _ _
    cases (c == Value.type "enumerate") <;>
      (wp_walk using it1
       exact ⟨_, rfl, h2⟩)
  · (wp_walk using it1
     exact ⟨_, rfl, h2⟩)
theorem call_en1 {P : Program} {w : World} {A : Around} {E : Value → Shared → Prop} {s : Shared} {a : Addr} {items : Array Value} {Q : Value → Shared → Prop} (hT : s.heap.IsTuple a items)
    (h : ∀ h', IsEnum h' (s.heap.objs.size + 1) s.heap.objs.size 0 .none → h'.IsTupleIter s.heap.objs.size a 0 → (∀ b o, s.heap.get? b = some o → h'.get? b = some o) → Q (.ref (s.heap.objs.size + 1)) { s with heap := h' }) :
    wpAny (model P w) A (call (.type "enumerate") [.ref a]) Q E s := by
  refine callType_new F.called_enumerate (by decide) (F.typeCall_enumerate_1 _) (F.newCall_enumerate_1 _) (fun o => F.args_object_init_2 o _) F.entry_enumerate_new (meets_en1 (begins_tuple a items)) ⟨hT, ?_⟩
  let o1 : Obj := { cls := .type "tuple_iterator", data := .fields #[.ref a, .int 0 0] }
  let o2 : Obj := { cls := .type "enumerate", data := .fields #[.none, .bool false, .ref s.heap.objs.size, rawInt 0, .none, .none] }
  have sz1 : (s.heap.push o1).objs.size = s.heap.objs.size + 1 := Heap.size_push ..
  show _ ∧ Q (.ref (s.heap.push o1).objs.size) _
  rw [show (s.heap.push { cls := .type "tuple_iterator", data := .fields #[.ref a, .int 0 0] }).objs.size = s.heap.objs.size + 1 from sz1]
  have ge : ((s.heap.push o1).push o2).get? (s.heap.objs.size + 1) = some o2 := by
    rw [← sz1]
    exact Heap.get?_push_size _ rfl
  refine ⟨⟨_, ge, rfl⟩, h _ ge ⟨o1, Heap.get?_push_of_some _ (Heap.get?_push_size _ rfl), rfl, rfl⟩ fun b o q => Heap.get?_push_of_some _ (Heap.get?_push_of_some _ q)⟩
/-- the tuple at a, each item in a new pair -/
def IteT (K : PySem.W.Frag) (a : Addr) : It :=
  ⟨fun i H => ∃ (xs : List V) (x : V), SqT K H a xs ∧ xs[i]? = some x, fun i H v H' => ∃ T x, v = .ref T ∧ H T = none ∧ H' = upd H T (.tup [.int (i : Nat), x]) ∧ ∀ xs, SqT K H a xs → xs[i]? = some x, fun i H => ∃ xs : List V, SqT K H a xs ∧ xs.length ≤ i⟩
theorem turn_enT {P : Program} {w : World} {K : PySem.W.Frag} {elts : List Expr} {kk : Nat} {tpos : Pos} (a e it : Addr) :
    Turn P w K (.Tuple elts kk tpos) (IteT K a) [e, it] e (fun i h => (∃ old, IsEnum h e it ((i : Nat) : Int) old) ∧ h.IsTupleIter it a i ∧ e ≠ it) where
  mem := List.mem_cons_self
  obj := by
    rintro i h ⟨⟨old, he⟩, ⟨o, ho, hc, hd⟩, _⟩ b hb
    rcases List.mem_cons.mp hb with rfl | hb
    · exact ⟨_, he, fun v q => nomatch q⟩
    · rw [List.mem_singleton.mp hb]
      exact ⟨o, ho, fun v q => by rw [hd] at q; cases q⟩
  keep := by
    rintro i h h' ⟨⟨old, he⟩, hi, ne⟩ k
    exact ⟨⟨old, k e List.mem_cons_self _ he⟩, hi.at fun o q => k it (List.mem_cons_of_mem _ List.mem_cons_self) o q, ne⟩
  item := by
    rintro X rfl rfl rfl calm i pins s σ H E I hf ⟨⟨old, he⟩, hit, ne⟩ ⟨xs, x, hq, hx⟩
    obtain ⟨its, rv, tp, hz⟩ := I.tuple hq
    obtain ⟨u, hu, ru⟩ := rv.get hx
    have tp' : s.heap.IsTuple a its.toArray := tp
    have a_it : a ≠ it := by
      rintro rfl
      obtain ⟨o, ho, hc, _⟩ := tp'
      obtain ⟨o2, ho2, hc2, _⟩ := hit
      rw [ho] at ho2; cases ho2
      rw [hc] at hc2
      exact absurd hc2 (by simp)
    have a_e : e ≠ a := by
      rintro rfl
      obtain ⟨o, ho, hc, _⟩ := tp'
      have he' : s.heap.get? e = some _ := he
      rw [ho] at he'
      have hc2 := congrArg (fun z : Option Obj => z.map (·.cls)) he'
      simp only [Option.map_some] at hc2
      rw [hc] at hc2
      exact absurd (Option.some.inj hc2) (by simp)
    have hel : e < s.heap.objs.size := Heap.lt_size he
    have hil : it < s.heap.objs.size := by obtain ⟨_, q, _⟩ := hit; exact Heap.lt_size q
    have hin : X.A.in1.handled = none := I.ok.hd calm
    have hlt : i < its.toArray.size := by
      have := (List.getElem?_eq_some_iff.mp hu).1
      simpa using this
    refine wpAny_pyNext_enum_itemC (Draws.tuple hin it a a_it its.toArray) he ⟨hit, tp'⟩ hlt ne (by simp [ne, a_e]) fun y h' tk hy ho st hT hsz hk => ?_
    have ey : y = u := by
      have h1 : its[i]? = some y := by simpa using hy
      rw [hu] at h1
      exact (Option.some.inj h1).symm
    subst ey
    refine ⟨_, rfl, wpAny_letOwnedTupleGo_enum (s := { s with heap := h', toks := tk + 1 }) ho fun h'' he' sb => ?_⟩
    have hT2 : h''.get? s.heap.objs.size = some { cls := .type "tuple", data := .seq #[.int i tk, y] } := (sb.2 _ (Nat.ne_of_gt hel)).trans hT
    have nw : ObjOk X.prog X.w (upd H s.heap.objs.size (.tup [.int (i : Nat), x])) h'' s.heap.objs.size (.tup [.int (i : Nat), x]) :=
      ⟨by show 2 ≤ sizeLine; decide, [.int i tk, y], .cons ⟨_, rfl⟩ (.cons ru .nil), ⟨_, hT2, rfl, _, rfl⟩⟩
    have I1 : Inv X pins σ (upd H s.heap.objs.size (.tup [.int (i : Nat), x])) { s with heap := h'', toks := tk + 1 } := by
      refine I.turnedNew (ch := [e, it]) (fun b o hb q => ?_) hf (Nat.le_refl _) nw
      have b1 : b ≠ e := fun z => hb (by simp [z])
      have b2 : b ≠ it := fun z => hb (by simp [z])
      exact (sb.2 b b1).trans (hk b o b1 b2 q)
    refine ⟨.ref s.heap.objs.size, _, I1, rfl, ⟨_, x, rfl, I.hok.fresh (Nat.le_refl _), rfl, fun ys hy => by rw [I.tuple_inj hy hq]; exact hx⟩, ⟨⟨y, ?_⟩, st.1.at fun o q => (sb.2 it (Ne.symm ne)).trans q, ne⟩, fun b hb => ?_⟩
    · rw [show ((i + 1 : Nat) : Int) = (i : Int) + 1 by omega]
      exact he'
    · have lt : b < s.heap.objs.size := by
        rcases List.mem_cons.mp hb with rfl | z
        · exact hel
        · rw [List.mem_singleton.mp z]; exact hil
      rw [upd_ne (Nat.ne_of_lt lt)]
      exact (hf b hb).1
  done := by
    rintro X rfl rfl rfl calm i pins s σ H E I hf ⟨⟨old, he⟩, hit, ne⟩ ⟨xs, hq, hx⟩
    obtain ⟨its, rv, tp, hz⟩ := I.tuple hq
    have tp' : s.heap.IsTuple a its.toArray := tp
    obtain ⟨f0, f1, f2, f3, f4, f5⟩ := hf it (by simp)
    have hin : X.A.in1.handled = none := I.ok.hd calm
    have a_it : a ≠ it := by
      rintro rfl
      obtain ⟨o, ho, hc, _⟩ := tp'
      obtain ⟨o2, ho2, hc2, _⟩ := hit
      rw [ho] at ho2; cases ho2
      rw [hc] at hc2
      exact absurd hc2 (by simp)
    have big : its.toArray.size ≤ i := by
      have := rv.length
      simp; omega
    have none_ : its.toArray[i]? = none := Array.getElem?_eq_none big
    refine wpAny_pyNext_enum_endD (n := i) (fp := [it, a]) (P := fun _ _ => True) (St := fun j h => j = i ∧ h.IsTupleIter it a j ∧ h.IsTuple a its.toArray) ?_ he ⟨rfl, hit, tp'⟩ fun h' eb => ⟨rfl, I.turned (t' := s.toks) (fun b o hb q => eb b o hb q) f0 f1 f3 f4 f5⟩
    have D := Draws.tuple (prog := X.prog) (w := X.w) hin it a a_it its.toArray
    exact ⟨fun j h st => D.live j h st.2, fun j h h' st hk => ⟨st.1, D.frame j h h' st.2 hk⟩, fun j s Q E hj st _ => absurd st.1 (Nat.ne_of_lt hj), fun s Q E st hE => wpAny_nextOf_tuple_end hin st.2.1 st.2.2 none_ hE⟩
  self := fun A i s Q E st h => let ⟨⟨_, he⟩, _⟩ := st; wpAny_pyIter_enum he h
def iEnT (K : PySem.W.Frag) (ta : TA) : TI := fun σ H R => ta σ H fun vs H1 => ∃ a xs, vs = [.ref a] ∧ SqT K H1 a xs ∧ R (IteT K a) H1
theorem pi_enT {X : Cx} {e : Expr} {ta : TA} {p pos tpos : Pos} {elts : List Expr} {kk : Nat} (hg : Gl X "enumerate") (hm : X.mg "enumerate" = none) (ha : PA X [e] ta) (hs : starEach [e] X.env = [(false, eval e X.env)] := by rfl) :
    PI X (.Tuple elts kk tpos) (.Call (.Name "enumerate" p) [e] [] pos) (iEnT X.K ta) := by
  constructor
  intro pins s σ H R I h
  refine Call_ (ld_blt I hg hm boot_enumerate (PyProof.Rows.callWith_type1 (thn (ha.run pos pins s σ H _ I h) fun us s1 ⟨vs, H1, I1, r1, a, xs, ex, hq, q⟩ => ?_) hs rfl))
  subst ex
  cases r1 with
  | cons r rr =>
    cases rr
    cases r
    obtain ⟨its, rv, tp, hz⟩ := I1.tuple hq
    refine call_en1 (show s1.heap.IsTuple a its.toArray from tp) fun h' he hit hk => wpAny_pyIter_enum he ?_
    have I2 : Inv X pins σ H1 { s1 with heap := h' } := I1.kept (t' := s1.toks) hk
    refine ⟨_, [s1.heap.objs.size + 1, s1.heap.objs.size], _, _, H1, rfl, I2, turn_enT a (s1.heap.objs.size + 1) s1.heap.objs.size, ⟨⟨.none, he⟩, hit, Nat.succ_ne_self _⟩, fun b hb => ?_, q⟩
    have le : s1.heap.objs.size ≤ b := by
      rcases List.mem_cons.mp hb with rfl | z
      · exact Nat.le_succ _
      · rw [List.mem_singleton.mp z]; exact Nat.le_refl _
    exact I1.fpOk le (I1.hok.fresh le)
/-- the loop: Pv by the turn, the slots, the heap; each turn brings a new pair at T -/
theorem for_enT {K : PySem.W.Frag} {a : Addr} {xs : List V} {g : TG} {tb : TS} {D : Ends} {σ : L2.St} {H : Hp} (Pv : Nat → L2.St → Hp → Prop) (h0 : Pv 0 σ H) (hl : ∀ i σ H, i ≤ xs.length → Pv i σ H → SqT K H a xs)
    (hs : ∀ i x σ H T, xs[i]? = some x → Pv i σ H → H T = none → g (.ref T) σ (upd H T (.tup [.int ((i : Nat) : Int), x])) fun σ2 H2 => tb { D with nx := Pv (i + 1), ct := Pv (i + 1), bk := D.nx } σ2 H2) (hd : ∀ σ H, Pv xs.length σ H → D.nx σ H) :
    ∃ W : Nat → Nat → L2.St → Hp → Prop, (∃ m, W 0 m σ H) ∧ ∀ i m σ H, W i m σ H →
      ((IteT K a).stop i H ∧ D.nx σ H) ∨ ((IteT K a).go i H ∧ ∃ N : L2.St → Hp → Prop, (∀ σ' H', N σ' H' → ∃ m', m' < m ∧ W (i + 1) m' σ' H') ∧ ∀ x H', (IteT K a).yld i H x H' → g x σ H' fun σ2 H2 => tb { D with nx := N, ct := N, bk := D.nx } σ2 H2) := by
  refine ⟨fun i m σ H => m = xs.length - i ∧ i ≤ xs.length ∧ Pv i σ H, ⟨xs.length, rfl, Nat.zero_le _, h0⟩, ?_⟩
  rintro i m σ H ⟨rfl, hi, p⟩
  have hq := hl i σ H hi p
  by_cases lt : i < xs.length
  · refine .inr ⟨⟨xs, xs[i], hq, List.getElem?_eq_getElem lt⟩, Pv (i + 1), fun σ' H' p' => ⟨xs.length - (i + 1), by omega, rfl, lt, p'⟩, ?_⟩
    rintro v H' ⟨T, x, rfl, hT, rfl, hx⟩
    exact hs i x σ H T (hx xs hq) p hT
  · have e : i = xs.length := by omega
    subst e
    exact .inl ⟨⟨xs, hq, Nat.le_refl _⟩, hd σ H p⟩
end Lp

/-! Le2: list(reversed(l)), l a list. -/
namespace Lp
open PySem PySem.Spec PyProof.Rows L2 RT
section
variable {prog : Program} {w : World} {A : Around} {E : Value → Shared → Prop} {s : Shared}
/-- a new list's object, filled -/
def fullO (acc : Array Value) (c : Nat) : Obj := { cls := .type "list", dict := none, data := .seq acc c, slots := #[] }
theorem ext_rev {it l S : Addr} {xs : Array Value} {res : Value} {R : Result → Shared → Prop} (hh : A.handled = none) (ht : s.heap.IsRevIter it l ((xs.size : Int) - 1)) (hq : s.heap.IsList l xs) (ne : l ≠ it) (si : S ≠ it) (sl : S ≠ l) (hn : xs.size ≤ sizeLine) (hS : s.heap.get? S = some { cls := .type "list", data := .seq #[] })
    (hR : ∀ (h2 : Heap) (tk : Nat) (acc : Array Value) (c : Nat), (∀ b o, b ≠ it → b ≠ S → s.heap.get? b = some o → h2.get? b = some o) → h2.get? S = some (fullO acc c) → ItemsOf (fun i v => xs[xs.size - 1 - i]? = some v) acc xs.size → R (.ok (.ret res)) { s with heap := h2, toks := tk }) :
    wpAny (model prog w) A.in1 (Builtin.List.listExtendWith (.ref S) (.ref it) res)
      (fun fin z => match fin with
        | .done f => R (.ok f) z
        | .again c' => c'.quiet = true ∧ codeAny (model prog w) A c' R z) (fun e z => R (.error e) z) s := by
  have W := (Walks.listRev (prog := prog) (w := w) (A := A.in1) hh it l ne xs).toS
  have off : S ∉ [it, l] := by
    intro z
    rcases List.mem_cons.mp z with z | z
    · exact si z
    · exact sl (List.mem_singleton.mp z)
  have tyI : s.TypeIs (.ref it) "list_reverseiterator" := ht.typeIs
  have same : Builtin.List.listSameRef (.ref S) (.ref it) = false := by
    simp [Builtin.List.listSameRef, si]
  unfold Builtin.List.listExtendWith
  refine wpAny_bind (wpAny_typeOf tyI ?_)
  rw [if_neg (by rw [same]; decide)]
  refine wpAny_bind (wpAny_pyIter_revIter ht ?_)
  refine wpAny_bind (wpAny_holding ?_)
  unfold Builtin.List.listLengthHint
  refine wpAny_bind (wpAny_specialOf tyI nolen_lri ?_)
  show wpAny _ _ (specialOf (Value.ref it) (Str.ofString "__length_hint__") >>= _) _ _ _
  refine wpAny_bind (wpAny_specialOf tyI hint_lri ?_)
  generalize hid : ("list_reverseiterator.__length_hint__" : String) = nm
  wp_delta
  rw [show splitId nm = some ("list_reverseiterator", "__length_hint__") from by rw [← hid]; decide +kernel]
  subst hid
  refine wpAny_bind (wpAny_isInstance (b := true) tyI (by
    rw [isSubtype_type]; kernel_rfl) ?_)
  refine wpAny_pure ?_
  rw [if_neg (by decide)]
  have e0 : (xs.size : Int) - 1 - ((0 : Nat) : Int) = (xs.size : Int) - 1 := by omega
  refine wpAny_pure ⟨plainId_quiet F.plain_extend_loop _, codeAny_extend_loopS W hn S off res xs.size 0 _ _ _ rfl (Nat.zero_le _) ⟨Nat.zero_le _, by rw [e0]; exact ht, hq⟩ hS (ItemsOf.nil _) fun z acc c hm hz hi => ?_⟩
  rw [Moved.eq_with hm]
  refine hR z.heap z.toks acc c (fun b o n1 n2 e => hm.heap b o (fun y => ?_) e) hz hi
  rcases List.mem_cons.mp y with y | y
  · exact n2 y
  · exact n1 (List.mem_singleton.mp y)
theorem init_rev {it l S : Addr} {xs : Array Value} {R : Result → Shared → Prop} (hh : A.handled = none) (ht : s.heap.IsRevIter it l ((xs.size : Int) - 1)) (hq : s.heap.IsList l xs) (ne : l ≠ it) (si : S ≠ it) (sl : S ≠ l) (hn : xs.size ≤ sizeLine) (hS : s.heap.get? S = some { cls := .type "list", data := .seq #[] })
    (hR : ∀ (h2 : Heap) (tk : Nat) (acc : Array Value) (c : Nat), (∀ b o, b ≠ it → b ≠ S → s.heap.get? b = some o → h2.get? b = some o) → h2.get? S = some (fullO acc c) → ItemsOf (fun i v => xs[xs.size - 1 - i]? = some v) acc xs.size → R (.ok (.ret .none)) { s with heap := h2, toks := tk }) :
    wpAny (model prog w) A.in1 (Builtin.«list.__init__» ⟨[.ref S, .ref it], []⟩)
      (fun fin z => match fin with
        | .done f => R (.ok f) z
        | .again c' => c'.quiet = true ∧ codeAny (model prog w) A c' R z) (fun e z => R (.error e) z) s := by
  show wpAny _ _ (do
    let old ← Builtin.List.listItems (.ref S)
    Builtin.List.listUpdate (.ref S) (fun _ => #[])
    letGo old.toList.reverse
    Builtin.List.listExtendWith (.ref S) (.ref it) .none) _ _ s
  refine wpAny_bind ?_
  unfold Builtin.List.listItems
  refine wpAny_bind (wpAny_seqItems hS rfl (wpAny_pure ?_))
  show wpAny _ _ (updateSeq S (fun _ => #[]) >>= fun _ =>
    letGo (#[] : Array Value).toList.reverse >>= fun _ =>
    Builtin.List.listExtendWith (.ref S) (.ref it) .none) _ _ s
  refine wpAny_bind (wpAny_updateSeq hS rfl ?_)
  have hS2 := Heap.get?_update_self (Obj.mapSeq (fun _ => (#[] : Array Value))) hS rfl
  have oth : ∀ b o, b ≠ S → s.heap.get? b = some o → (s.heap.update S (Obj.mapSeq fun _ => (#[] : Array Value))).get? b = some o := fun b o nb e => by
    rw [Heap.get?_update_other _ _ (Ne.symm nb)]
    exact e
  refine wpAny_bind (wpAny_letGo ?_)
  refine ext_rev hh (ht.at fun o e => oth it o (Ne.symm si) e) ?_ ne si sl hn hS2 fun h2 tk acc c k hz hi => ?_
  · obtain ⟨o, ho, r⟩ := id hq
    exact ⟨o, oth l o (Ne.symm sl) ho, r⟩
  · exact hR h2 tk acc c (fun b o n1 n2 e => k b o n1 n2 (oth b o n2 e)) hz hi
theorem call_list_rev {it l : Addr} {xs : Array Value} {Q : Value → Shared → Prop} (hh : A.handled = none) (ht : s.heap.IsRevIter it l ((xs.size : Int) - 1)) (hq : s.heap.IsList l xs) (ne : l ≠ it) (hn : xs.size ≤ sizeLine)
    (hQ : ∀ (h2 : Heap) (tk : Nat) (acc : Array Value) (c : Nat), (∀ b o, b ≠ it → s.heap.get? b = some o → h2.get? b = some o) → h2.get? s.heap.objs.size = some (fullO acc c) → ItemsOf (fun i v => xs[xs.size - 1 - i]? = some v) acc xs.size → Q (.ref s.heap.objs.size) { s with heap := h2, toks := tk }) :
    wpAny (model prog w) A (call (.type "list") [.ref it]) Q E s := by
  obtain ⟨oi, hoi, _⟩ := id ht
  obtain ⟨ol, hol, _⟩ := id hq
  refine callType_codes (Q₁ := fun obj z => obj = .ref s.heap.objs.size ∧ z = { s with heap := s.heap.push { cls := .type "list", data := .seq #[] } }) F.called_list
    (F.typeCall_list_1 _) F.entry_list_init (code_list_new _ ⟨rfl, rfl⟩) fun obj z hz => ?_
  obtain ⟨rfl, rfl⟩ := hz
  have hS : (s.heap.push { cls := .type "list", data := .seq #[] }).get? s.heap.objs.size = some { cls := .type "list", data := .seq #[] } := Heap.get?_push_size _ rfl
  have up : ∀ b o, s.heap.get? b = some o → (s.heap.push { cls := .type "list", data := .seq #[] }).get? b = some o := fun b o e => Heap.get?_push_of_some _ e
  refine ⟨⟨_, hS, rfl⟩, F.args_list_init_2 _ _, init_rev hh (ht.at fun o e => up it o e) (hq.push _) ne (Nat.ne_of_gt (Heap.lt_size hoi)) (Nat.ne_of_gt (Heap.lt_size hol)) hn hS fun h2 tk acc c k hz hi => ?_⟩
  exact ⟨rfl, hQ h2 tk acc c (fun b o nb e => k b o nb (Nat.ne_of_lt (Heap.lt_size e)) (up b o e)) hz hi⟩
end
/-- max of two -/
def rMax2 : List V → Hp → VK → Prop := fun xs H Q => ∃ i j, xs = [.int i, .int j] ∧ Q (.int (if j > i then j else i)) H
/-- list(reversed(x)), x a list: a new list -/
def tListRev (K : PySem.W.Frag) (te : TE) : TE := fun σ H Q => te σ H fun v H1 => ∃ (a : Addr) (xs : List V), v = .ref a ∧ SqL K H1 a xs ∧ ∀ q, H1 q = none → Q (.ref q) (L2.upd H1 q (.lst xs.reverse))
section
variable {X : Cx}
theorem pe_listRev {e : Expr} {te : TE} {p p2 pos pos2 : Pos} (calm : X.calm = true) (hg : Gl X "list") (hm : X.mg "list" = none) (hg2 : Gl X "reversed") (hm2 : X.mg "reversed" = none) (he : PE X e te)
    (hs : starEach [e] X.env = (false, eval e X.env) :: starEach [] X.env := by rfl)
    (hs2 : starEach [.Call (.Name "reversed" p2) [e] [] pos2] X.env = (false, eval (.Call (.Name "reversed" p2) [e] [] pos2) X.env) :: starEach [] X.env := by rfl) :
    PE X (.Call (.Name "list" p) [.Call (.Name "reversed" p2) [e] [] pos2] [] pos) (tListRev X.K te) := by
  refine ⟨fun pins s σ H Q I h => ?_⟩
  have inner := fun (s1 : Shared) (Z : List Value → Shared → Prop) => he.run pins s σ H
  refine Call_ (ld_blt I hg hm boot_list (PyProof.Rows.callWith_type1 (args_cons (Call_ (ld_blt I hg2 hm2 PyProof.Rows.boot_reversed
    (PyProof.Rows.callWith_type1 (args_cons (thn (he.run pins s σ H _ I h) fun u s1 got => args_nil ?_) hs) hs rfl))) hs2) hs2 rfl))
  obtain ⟨v, H1, I1, r1, a, xs, ev, hq, q⟩ := got
  subst ev
  cases (show u = Value.ref a from r1)
  obtain ⟨its, rv, pl, hz⟩ := I1.list hq
  refine call_reversed_list pl.isList (args_nil ?_)
  have up : ∀ b o, s1.heap.get? b = some o → (s1.heap.push (revObj a ((its.toArray.size : Int) - 1))).get? b = some o := fun b o z => Heap.get?_push_of_some _ z
  have I2 : Inv X pins σ H1 { s1 with heap := s1.heap.push (revObj a ((its.toArray.size : Int) - 1)) } := I1.kept (t' := s1.toks) up
  have fp : FpOk X pins H1 s1.heap.objs.size := I1.fpOk (Nat.le_refl _) (I1.hok.fresh (Nat.le_refl _))
  have hl := pl.isList
  obtain ⟨ol, hol, _⟩ := id hl
  have ne : a ≠ s1.heap.objs.size := Nat.ne_of_lt (Heap.lt_size hol)
  have hn : its.toArray.size ≤ sizeLine := by
    rw [List.size_toArray, ← rv.length]; exact hz
  refine call_list_rev (s := { s1 with heap := s1.heap.push (revObj a ((its.toArray.size : Int) - 1)) }) (I1.ok.hd calm) ⟨_, Heap.get?_push_size _ rfl, rfl, rfl⟩ (hl.push _) ne hn fun h2 tk acc c k hS hi => ?_
  have fresh : H1 (s1.heap.push (revObj a ((its.toArray.size : Int) - 1))).objs.size = none := I2.hok.fresh (Nat.le_refl _)
  refine ⟨.ref _, L2.upd H1 (s1.heap.push (revObj a ((its.toArray.size : Int) - 1))).objs.size (.lst xs.reverse), ?_, rfl, q _ fresh⟩
  refine I2.turnedNew (t' := tk) (ch := [s1.heap.objs.size]) (fun b o nb z => k b o (fun y => nb (List.mem_singleton.mpr y)) z) (fun b hb => by rw [List.mem_singleton.mp hb]; exact fp) (Nat.le_refl _) ?_
  refine ⟨by rw [List.length_reverse]; exact hz, acc.toList, c, vals_rev rv hi, ?_⟩
  rw [Array.toArray_toList]
  exact hS
end
end Lp

/-! L4a: the law's own coding, and its look at two things alike. -/
namespace Lp
open PySem PySem.Spec PyProof.Rows L2
def t_law_alike (K : PySem.W.Frag) (sp_law_alike : Sp) : TS :=
  tSeq (tIfS (tTest (tOp rIsN (tVar 1) (tC .non))) (tRet (tOp rIsN (tVar 0) (tC .non))) (tNext)) (tSeq (tIfS (tB (tCB (rIsi K) (tCons (tVar 1) (tCons (tC (.ty "bool")) (tNil))))) (tRet (tAndV (tCB (rIsi K) (tCons (tVar 0) (tCons (tC (.ty "bool")) (tNil)))) (tOp rEq (tVar 0) (tVar 1)))) (tNext)) (tSeq (tIfS (tB (tCB (rIsi K) (tCons (tVar 1) (tCons (tC (.ty "int")) (tNil))))) (tRet (tAndV (tCB (rIsi K) (tCons (tVar 0) (tCons (tC (.ty "int")) (tNil)))) (tAndV (tNotV (tCB (rIsi K) (tCons (tVar 0) (tCons (tC (.ty "bool")) (tNil))))) (tOp rEq (tVar 0) (tVar 1))))) (tNext)) (tSeq (tIfS (tB (tCB (rIsi K) (tCons (tVar 1) (tCons (tC (.ty "str")) (tNil))))) (tRet (tAndV (tCB (rIsi K) (tCons (tVar 0) (tCons (tC (.ty "str")) (tNil)))) (tOp rEq (tVar 0) (tVar 1)))) (tNext)) (tSeq (tIfS (tOr (tTest (tOp rNe (tCB (rIsi K) (tCons (tVar 1) (tCons (tC (.ty "tuple")) (tNil)))) (tCB (rIsi K) (tCons (tVar 0) (tCons (tC (.ty "tuple")) (tNil)))))) (tTest (tOp rNe (tCB (rIsi K) (tCons (tVar 1) (tCons (tC (.ty "list")) (tNil)))) (tCB (rIsi K) (tCons (tVar 0) (tCons (tC (.ty "list")) (tNil))))))) (tRet (tC (.bl false))) (tNext)) (tSeq (tIfS (tTest (tOp rNe (tCB (rLenQ K) (tCons (tVar 0) (tNil))) (tCB (rLenQ K) (tCons (tVar 1) (tNil))))) (tRet (tC (.bl false))) (tNext)) (tSeq (tFor (iRng1 (tCons (tCB (rLenQ K) (tCons (tVar 1) (tNil))) (tNil))) (gName 2) (tIfS (tNot (tB (tCall sp_law_alike [] E0 (tCons (tOp (rIx K) (tVar 0) (tVar 2)) (tCons (tOp (rIx K) (tVar 1) (tVar 2)) (tNil)))))) (tRet (tC (.bl false))) (tNext))) (tRet (tC (.bl true)))))))))

def t_law_part_code (K : PySem.W.Frag) (sp_law_part_code : Sp) : TS :=
  tSeq (tIfS (tTest (tOp (rIn K false) (tOp (rIxT K) (tVar 0) (tC (.int 0))) (tTup (tCons (tC (.str "num")) (tCons (tC (.str "var")) (tNil)))))) (tRet (tLst (tCons (tVar 0) (tNil)))) (tNext)) (tRet (tOp rCat (tOp rCat (tCall sp_law_part_code [] E0 (tCons (tOp (rIxT K) (tVar 0) (tC (.int 1))) (tNil))) (tCall sp_law_part_code [] E0 (tCons (tOp (rIxT K) (tVar 0) (tC (.int 2))) (tNil)))) (tLst (tCons (tTup (tCons (tOp (rIxT K) (tVar 0) (tC (.int 0))) (tNil))) (tNil)))))

def t_law_loop_code (K : PySem.W.Frag) (sp_law_part_code : Sp) (sp_law_code : Sp) : TS :=
  tSeq (tAsg (tCall sp_law_part_code [] E0 (tCons (tOp (rIxT K) (tVar 0) (tC (.int 1))) (tNil))) (gName 3)) (tSeq (tAsg (tOp rAdI (tOp rAdI (tVar 1) (tCB (rLenQ K) (tCons (tVar 3) (tNil)))) (tC (.int 2))) (gName 4)) (tSeq (tAsg (tCall sp_law_code [] E0 (tCons (tOp (rIxT K) (tVar 0) (tC (.int 2))) (tCons (tVar 4) (tCons (tVar 2) (tCons (tTup (tCons (tVar 1) (tCons (tOp rSbI (tUn rNeg (tC (.int 1))) (tVar 1)) (tCons (tVar 2) (tNil))))) (tNil)))))) (gName 5)) (tSeq (tAsg (tOp rAdI (tOp rAdI (tVar 4) (tCB (rLenQ K) (tCons (tVar 5) (tNil)))) (tC (.int 1))) (gName 6)) (tSeq (tAsg (tLc (iList K (tVar 5)) (gName 7) (tYes) (tOp (rIxL K) (tLst (tCons (tVar 7) (tCons (tTup (tCons (tC (.str "leap")) (tCons (tVar 6) (tCons (tVar 2) (tNil))))) (tNil)))) (tCB rInt1 (tCons (tOp (rEqD K) (tVar 7) (tTup (tCons (tC (.str "leap")) (tCons (tOp rSbI (tUn rNeg (tC (.int 1))) (tVar 1)) (tCons (tVar 2) (tNil)))))) (tNil)))) [7]) (gName 5)) (tRet (tOp rCat (tOp rCat (tOp rCat (tVar 3) (tLst (tCons (tTup (tCons (tC (.str "unless")) (tCons (tVar 6) (tNil)))) (tCons (tTup (tCons (tC (.str "turn")) (tNil))) (tNil))))) (tVar 5)) (tLst (tCons (tTup (tCons (tC (.str "go")) (tCons (tVar 1) (tNil)))) (tNil)))))))))

def t_law_try_code (K : PySem.W.Frag) (sp_law_code : Sp) : TS :=
  tSeq (tAsg (tCall sp_law_code [] E0 (tCons (tOp (rIxT K) (tVar 0) (tC (.int 1))) (tCons (tVar 1) (tCons (tVar 2) (tCons (tVar 3) (tNil)))))) (gName 4)) (tSeq (tAsg (tOp rAdI (tVar 1) (tCB (rLenQ K) (tCons (tVar 4) (tNil)))) (gName 5)) (tSeq (tAsg (tOp rCat (tVar 4) (tLst (tCons (tTup (tCons (tC (.str "go")) (tCons (tUn rNeg (tC (.int 1))) (tNil)))) (tNil)))) (gName 6)) (tSeq (tFor (iTup K (tOp (rIxT K) (tVar 0) (tC (.int 2)))) (gName 7) (tSeq (tAsg (tOp rCat (tVar 6) (tLst (tCons (tTup (tCons (tC (.str "handler")) (tCons (tVar 1) (tCons (tVar 5) (tCons (tOp (rIxT K) (tVar 7) (tC (.int 0))) (tCons (tVar 2) (tNil))))))) (tCons (tTup (tCons (tC (.str "set")) (tCons (tOp (rIxT K) (tVar 7) (tC (.int 1))) (tNil)))) (tNil))))) (gName 6)) (tSeq (tAsg (tOp rCat (tVar 6) (tCall sp_law_code [] E0 (tCons (tOp (rIxT K) (tVar 7) (tC (.int 2))) (tCons (tOp rAdI (tVar 1) (tCB (rLenQ K) (tCons (tVar 6) (tNil)))) (tCons (tOp rAdI (tVar 2) (tC (.int 1))) (tCons (tVar 3) (tNil))))))) (gName 6)) (tAsg (tOp rCat (tVar 6) (tLst (tCons (tTup (tCons (tC (.str "settled")) (tNil))) (tCons (tTup (tCons (tC (.str "go")) (tCons (tUn rNeg (tC (.int 1))) (tNil)))) (tNil))))) (gName 6))))) (tSeq (tAsg (tOp rAdI (tVar 1) (tCB (rLenQ K) (tCons (tVar 6) (tNil)))) (gName 8)) (tRet (tLc (iList K (tVar 6)) (gName 9) (tYes) (tOp (rIxL K) (tLst (tCons (tVar 9) (tCons (tTup (tCons (tC (.str "go")) (tCons (tVar 8) (tNil)))) (tNil)))) (tCB rInt1 (tCons (tOp (rEqD K) (tVar 9) (tTup (tCons (tC (.str "go")) (tCons (tUn rNeg (tC (.int 1))) (tNil))))) (tNil)))) [9]))))))

def t_law_if_code (K : PySem.W.Frag) (sp_law_part_code : Sp) (sp_law_code : Sp) : TS :=
  tSeq (tAsg (tCall sp_law_part_code [] E0 (tCons (tOp (rIxT K) (tVar 0) (tC (.int 1))) (tNil))) (gName 4)) (tSeq (tAsg (tCall sp_law_code [] E0 (tCons (tOp (rIxT K) (tVar 0) (tC (.int 2))) (tCons (tOp rAdI (tOp rAdI (tVar 1) (tCB (rLenQ K) (tCons (tVar 4) (tNil)))) (tC (.int 1))) (tCons (tVar 2) (tCons (tVar 3) (tNil)))))) (gName 5)) (tSeq (tAsg (tOp rAdI (tOp rAdI (tOp rAdI (tVar 1) (tCB (rLenQ K) (tCons (tVar 4) (tNil)))) (tCB (rLenQ K) (tCons (tVar 5) (tNil)))) (tC (.int 2))) (gName 6)) (tSeq (tAsg (tCall sp_law_code [] E0 (tCons (tOp (rIxT K) (tVar 0) (tC (.int 3))) (tCons (tVar 6) (tCons (tVar 2) (tCons (tVar 3) (tNil)))))) (gName 7)) (tRet (tOp rCat (tOp rCat (tOp rCat (tOp rCat (tVar 4) (tLst (tCons (tTup (tCons (tC (.str "unless")) (tCons (tVar 6) (tNil)))) (tNil)))) (tVar 5)) (tLst (tCons (tTup (tCons (tC (.str "go")) (tCons (tOp rAdI (tVar 6) (tCB (rLenQ K) (tCons (tVar 7) (tNil)))) (tNil)))) (tNil)))) (tVar 7))))))

def t_law_clean_code (K : PySem.W.Frag) (sp_law_code : Sp) : TS :=
  tSeq (tAsg (tOp rCat (tCall sp_law_code [] E0 (tCons (tOp (rIxT K) (tVar 0) (tC (.int 1))) (tCons (tVar 1) (tCons (tVar 2) (tCons (tVar 3) (tNil)))))) (tLst (tCons (tTup (tCons (tC (.str "mend")) (tNil))) (tNil)))) (gName 4)) (tSeq (tAsg (tOp rAdI (tVar 1) (tCB (rLenQ K) (tCons (tVar 4) (tNil)))) (gName 5)) (tSeq (tAsg (tCall sp_law_code [] E0 (tCons (tOp (rIxT K) (tVar 0) (tC (.int 2))) (tCons (tOp rAdI (tVar 5) (tC (.int 1))) (tCons (tOp rAdI (tVar 2) (tC (.int 1))) (tCons (tVar 3) (tNil)))))) (gName 6)) (tRet (tOp rCat (tOp rCat (tOp rCat (tVar 4) (tLst (tCons (tTup (tCons (tC (.str "cleanup")) (tCons (tVar 1) (tCons (tVar 5) (tCons (tVar 2) (tNil)))))) (tNil)))) (tVar 6)) (tLst (tCons (tTup (tCons (tC (.str "resume")) (tNil))) (tNil)))))))

def t_law_plain_code (K : PySem.W.Frag) (sp_law_part_code : Sp) : TS :=
  tSeq (tAsg (tOp (rIxT K) (tVar 0) (tC (.int 0))) (gName 2)) (tSeq (tIfS (tTest (tOp rEq (tVar 2) (tC (.str "break")))) (tRet (tLst (tCons (tTup (tCons (tC (.str "leap")) (tCons (tOp (rIxT K) (tVar 1) (tC (.int 1))) (tCons (tOp (rIxT K) (tVar 1) (tC (.int 2))) (tNil))))) (tNil)))) (tNext)) (tSeq (tIfS (tTest (tOp rEq (tVar 2) (tC (.str "continue")))) (tRet (tLst (tCons (tTup (tCons (tC (.str "leap")) (tCons (tOp (rIxT K) (tVar 1) (tC (.int 0))) (tCons (tOp (rIxT K) (tVar 1) (tC (.int 2))) (tNil))))) (tNil)))) (tNext)) (tSeq (tIfS (tTest (tOp rEq (tVar 2) (tC (.str "again")))) (tRet (tLst (tCons (tVar 0) (tNil)))) (tNext)) (tSeq (tIfS (tTest (tOp rEq (tVar 2) (tC (.str "set")))) (tRet (tOp rCat (tCall sp_law_part_code [] E0 (tCons (tOp (rIxT K) (tVar 0) (tC (.int 2))) (tNil))) (tLst (tCons (tTup (tCons (tC (.str "set")) (tCons (tOp (rIxT K) (tVar 0) (tC (.int 1))) (tNil)))) (tNil))))) (tNext)) (tSeq (tIfS (tTest (tOp rEq (tVar 2) (tC (.str "raise")))) (tRet (tOp rCat (tCall sp_law_part_code [] E0 (tCons (tOp (rIxT K) (tVar 0) (tC (.int 2))) (tNil))) (tLst (tCons (tTup (tCons (tC (.str "raise")) (tCons (tOp (rIxT K) (tVar 0) (tC (.int 1))) (tCons (tOp (rIxT K) (tVar 0) (tC (.int 3))) (tNil))))) (tNil))))) (tNext)) (tSeq (tIfS (tTest (tOp rEq (tVar 2) (tC (.str "call")))) (tSeq (tAsg (tLst (tNil)) (gName 3)) (tSeq (tFor (iTup K (tOp (rIxT K) (tVar 0) (tC (.int 3)))) (gName 4) (tAsg (tOp rCat (tVar 3) (tCall sp_law_part_code [] E0 (tCons (tVar 4) (tNil)))) (gName 3))) (tRet (tOp rCat (tVar 3) (tLst (tCons (tTup (tCons (tC (.str "call")) (tCons (tOp (rIxT K) (tVar 0) (tC (.int 2))) (tCons (tCB (rLenQ K) (tCons (tOp (rIxT K) (tVar 0) (tC (.int 3))) (tNil))) (tCons (tOp (rIxT K) (tVar 0) (tC (.int 4))) (tNil)))))) (tCons (tTup (tCons (tC (.str "set")) (tCons (tOp (rIxT K) (tVar 0) (tC (.int 1))) (tNil)))) (tNil)))))))) (tNext)) (tRet (tOp rCat (tCall sp_law_part_code [] E0 (tCons (tOp (rIxT K) (tVar 0) (tC (.int 1))) (tNil))) (tLst (tCons (tTup (tCons (tVar 2) (tNil))) (tNil)))))))))))

def t_law_code (K : PySem.W.Frag) (sp_law_code : Sp) (sp_law_if_code : Sp) (sp_law_loop_code : Sp) (sp_law_try_code : Sp) (sp_law_clean_code : Sp) (sp_law_plain_code : Sp) : TS :=
  tSeq (tAsg (tOp (rIxT K) (tVar 0) (tC (.int 0))) (gName 4)) (tSeq (tIfS (tTest (tOp rEq (tVar 4) (tC (.str "row")))) (tSeq (tAsg (tLst (tNil)) (gName 5)) (tSeq (tFor (iTup K (tOp (rIxT K) (tVar 0) (tC (.int 1)))) (gName 6) (tAsg (tOp rCat (tVar 5) (tCall sp_law_code [] E0 (tCons (tVar 6) (tCons (tOp rAdI (tVar 1) (tCB (rLenQ K) (tCons (tVar 5) (tNil)))) (tCons (tVar 2) (tCons (tVar 3) (tNil))))))) (gName 5))) (tRet (tVar 5)))) (tNext)) (tSeq (tIfS (tTest (tOp rEq (tVar 4) (tC (.str "if")))) (tRet (tCall sp_law_if_code [] E0 (tCons (tVar 0) (tCons (tVar 1) (tCons (tVar 2) (tCons (tVar 3) (tNil))))))) (tNext)) (tSeq (tIfS (tTest (tOp rEq (tVar 4) (tC (.str "while")))) (tRet (tCall sp_law_loop_code [] E0 (tCons (tVar 0) (tCons (tVar 1) (tCons (tVar 2) (tNil)))))) (tNext)) (tSeq (tIfS (tTest (tOp rEq (tVar 4) (tC (.str "try")))) (tRet (tCall sp_law_try_code [] E0 (tCons (tVar 0) (tCons (tVar 1) (tCons (tVar 2) (tCons (tVar 3) (tNil))))))) (tNext)) (tSeq (tIfS (tTest (tOp rEq (tVar 4) (tC (.str "clean")))) (tRet (tCall sp_law_clean_code [] E0 (tCons (tVar 0) (tCons (tVar 1) (tCons (tVar 2) (tCons (tVar 3) (tNil))))))) (tNext)) (tRet (tCall sp_law_plain_code [] E0 (tCons (tVar 0) (tCons (tVar 3) (tNil))))))))))

def t_law_table (K : PySem.W.Frag) : TS :=
  tSeq (tAsg (tLst (tNil)) (gName 1)) (tSeq (tFor (iRng1 (tCons (tCB (rLenQ K) (tCons (tVar 0) (tNil))) (tNil))) (gName 2) (tSeq (tAsg (tOp (rIxT K) (tVar 0) (tVar 2)) (gName 3)) (tSeq (tIfS (tTest (tOp rEq (tOp (rIxT K) (tVar 3) (tC (.int 0))) (tC (.str "handler")))) (tDrop (tBM K "list" rAppend (tVar 1) (tCons (tTup (tCons (tOp (rIxT K) (tVar 3) (tC (.int 1))) (tCons (tOp (rIxT K) (tVar 3) (tC (.int 2))) (tCons (tC (.str "handler")) (tCons (tOp (rIxT K) (tVar 3) (tC (.int 3))) (tCons (tVar 2) (tCons (tOp (rIxT K) (tVar 3) (tC (.int 4))) (tNil)))))))) (tNil)))) (tNext)) (tIfS (tTest (tOp rEq (tOp (rIxT K) (tVar 3) (tC (.int 0))) (tC (.str "cleanup")))) (tDrop (tBM K "list" rAppend (tVar 1) (tCons (tTup (tCons (tOp (rIxT K) (tVar 3) (tC (.int 1))) (tCons (tOp (rIxT K) (tVar 3) (tC (.int 2))) (tCons (tC (.str "cleanup")) (tCons (tC .non) (tCons (tVar 2) (tCons (tOp (rIxT K) (tVar 3) (tC (.int 3))) (tNil)))))))) (tNil)))) (tNext))))) (tRet (tCB (rTupOf K) (tCons (tVar 1) (tNil)))))

def t_law_coded (K : PySem.W.Frag) (sp_law_code : Sp) (sp_law_table : Sp) : TS :=
  tSeq (tAsg (tLst (tNil)) (gName 1)) (tSeq (tFor (iTup K (tOp (rIxT K) (tVar 0) (tC (.int 1)))) (gName 2) (tSeq (tAsg (tCB (rTupOf K) (tCons (tOp rCat (tCall sp_law_code [] E0 (tCons (tOp (rIxT K) (tVar 2) (tC (.int 1))) (tCons (tC (.int 0)) (tCons (tC (.int 0)) (tCons (tC .non) (tNil)))))) (tLst (tCons (tTup (tCons (tC (.str "num")) (tCons (tC (.int 0)) (tNil)))) (tCons (tTup (tCons (tC (.str "return")) (tNil))) (tNil))))) (tNil))) (gName 3)) (tDrop (tBM K "list" rAppend (tVar 1) (tCons (tTup (tCons (tOp (rIxT K) (tVar 2) (tC (.int 0))) (tCons (tVar 3) (tCons (tCall sp_law_table [] E0 (tCons (tVar 3) (tNil))) (tNil))))) (tNil)))))) (tRet (tCB (rTupOf K) (tCons (tVar 1) (tNil)))))

/-! ### alike -/
mutual
/-- the longest list or tuple within -/
def wid : PyData → Nat
  | .list xs => max xs.length (widAll xs)
  | .tuple xs => max xs.length (widAll xs)
  | .none | .bool _ | .int _ | .str _ | .dict _ => 0
def widAll : List PyData → Nat
  | [] => 0
  | x :: xs => max (wid x) (widAll xs)
end
theorem wid_mem : ∀ {ds : List PyData} {d : PyData}, d ∈ ds → wid d ≤ widAll ds ∧ d.depth ≤ PyData.depthAll ds
  | [], _, h => by cases h
  | e :: r, d, h => by
    rcases List.mem_cons.mp h with rfl | h
    · simp [widAll, PyData.depthAll]; omega
    · have := wid_mem h
      simp [widAll, PyData.depthAll]; omega
def spAlike (K : PySem.W.Frag) (n : Nat) : Sp := fun vs H Q _ => ∃ (x y : V) (d : PyData), vs = [x, y] ∧ Dp K H x d ∧ Dp K H y d ∧ d.depth < n ∧ wid d ≤ 1000000 ∧ Q (.bl true) H
theorem spAlike_zero {K : PySem.W.Frag} (vs : List V) (H : Hp) (Q : VK) (E : XK) : ¬ spAlike K 0 vs H Q E := by
  rintro ⟨x, y, d, _, _, _, h, _⟩
  omega
section
variable {K : PySem.W.Frag} {H : Hp} {a : Addr} {xs : List V}
theorem tyL (h : SqL K H a xs) : TyX K H (.ref a) (.type "list") := by
  rcases h with (h | ⟨o, h⟩) | ⟨o, its, n, hk, hc, _⟩
  · exact .base (.lst h)
  · exact .base (.frz h)
  · exact .kList hk hc
theorem tyT (h : SqT K H a xs) : TyX K H (.ref a) (.type "tuple") := by
  rcases h with (h | ⟨o, h⟩) | ⟨o, its, n, hk, hc, _⟩
  · exact .base (.tup h)
  · exact .fTuple h
  · exact .kTuple hk hc
theorem kit_bb : PySem.W.kitOne K (.type "bool") (.type "bool") = some true := kit_ty (by decide +kernel)
theorem kit_ib : PySem.W.kitOne K (.type "int") (.type "bool") = some false := kit_ty (by decide +kernel)
theorem kit_sb : PySem.W.kitOne K (.type "str") (.type "bool") = some false := kit_ty (by decide +kernel)
theorem kit_lb : PySem.W.kitOne K (.type "list") (.type "bool") = some false := kit_ty (by decide +kernel)
theorem kit_tb : PySem.W.kitOne K (.type "tuple") (.type "bool") = some false := kit_ty (by decide +kernel)
theorem kit_ii : PySem.W.kitOne K (.type "int") (.type "int") = some true := kit_ty (by decide +kernel)
theorem kit_si : PySem.W.kitOne K (.type "str") (.type "int") = some false := kit_ty (by decide +kernel)
theorem kit_li : PySem.W.kitOne K (.type "list") (.type "int") = some false := kit_ty (by decide +kernel)
theorem kit_ti : PySem.W.kitOne K (.type "tuple") (.type "int") = some false := kit_ty (by decide +kernel)
theorem kit_ss : PySem.W.kitOne K (.type "str") (.type "str") = some true := kit_ty (by decide +kernel)
theorem kit_ls : PySem.W.kitOne K (.type "list") (.type "str") = some false := kit_ty (by decide +kernel)
theorem kit_ts : PySem.W.kitOne K (.type "tuple") (.type "str") = some false := kit_ty (by decide +kernel)
theorem kit_tt : PySem.W.kitOne K (.type "tuple") (.type "tuple") = some true := kit_ty (by decide +kernel)
theorem kit_lt : PySem.W.kitOne K (.type "list") (.type "tuple") = some false := kit_ty (by decide +kernel)
theorem kit_tl : PySem.W.kitOne K (.type "tuple") (.type "list") = some false := kit_ty (by decide +kernel)
theorem kit_ll : PySem.W.kitOne K (.type "list") (.type "list") = some true := kit_ty (by decide +kernel)
/-- isinstance of what stands in a slot -/
theorem rIs {σ : L2.St} {i : Nat} {x : V} {t n : String} {b : Bool} {Q : VK} (hs : σ[i]? = some (some x)) (ty : TyX K H x (.type t)) (k : PySem.W.kitOne K (.type t) (.type n) = some b) (q : Q (.bl b) H) :
    tCB (rIsi K) (tCons (tVar i) (tCons (tC (.ty n)) tNil)) σ H Q := ⟨_, hs, x, .ty n, _, _, b, rfl, .ty n, ty, k, q⟩
theorem dpAll_length : ∀ {vs : List V} {ds : List PyData}, DpAll K H vs ds → vs.length = ds.length
  | _, [], h => by cases h; rfl
  | _, d :: ds, h => by
    cases h with
    | cons h1 h2 => simp [dpAll_length h2]
theorem dpAll_get : ∀ {vs : List V} {ds : List PyData} {i : Nat} {d : PyData}, DpAll K H vs ds → ds[i]? = some d → ∃ v, vs[i]? = some v ∧ Dp K H v d
  | _, [], i, d, h, e => by simp at e
  | _, d0 :: ds, 0, d, h, e => by
    cases h with
    | cons h1 h2 => simp at e; subst e; exact ⟨_, rfl, h1⟩
  | _, d0 :: ds, i + 1, d, h, e => by
    cases h with
    | cons h1 h2 =>
      obtain ⟨v, e', t⟩ := dpAll_get (i := i) (d := d) h2 (by simpa using e)
      exact ⟨v, by simpa using e', t⟩
end
abbrev N_law_alike : List Str := ["_law_found", "_law_due", "_law_k"]
theorem rd_alike {K : PySem.W.Frag} {n : Nat} (vs : List V) (H : Hp) (Q : VK) (E : XK) (h : spAlike K (n + 1) vs H Q E) : t_law_alike K (spAlike K n) { nx := fun _ H' => Q .non H', rt := Q } (start N_law_alike vs) H := by
  obtain ⟨x, y, d, rfl, hx, hy, hd, hw, q⟩ := h
  -- what is walked at the end: the places of two lists, two tuples
  have walk : ∀ (a b : Addr) (us ws : List V) (ds : List PyData) (s1 : SqL K H a us ∨ SqT K H a us) (s2 : SqL K H b ws ∨ SqT K H b ws), DpAll K H us ds → DpAll K H ws ds → PyData.depthAll ds < n → widAll ds ≤ 1000000 → ds.length ≤ 1000000 →
      (tSeq (tIfS (tTest (tOp rNe (tCB (rLenQ K) (tCons (tVar 0) (tNil))) (tCB (rLenQ K) (tCons (tVar 1) (tNil))))) (tRet (tC (.bl false))) (tNext)) (tSeq (tFor (iRng1 (tCons (tCB (rLenQ K) (tCons (tVar 1) (tNil))) (tNil))) (gName 2) (tIfS (tNot (tB (tCall (spAlike K n) [] E0 (tCons (tOp (rIx K) (tVar 0) (tVar 2)) (tCons (tOp (rIx K) (tVar 1) (tVar 2)) (tNil)))))) (tRet (tC (.bl false))) (tNext))) (tRet (tC (.bl true))))) { nx := fun _ H' => Q .non H', rt := Q } [some (.ref a), some (.ref b), none] H := by
    intro a b us ws ds s1 s2 h1 h2 hdep hwid hlen
    have l1 := dpAll_length h1; have l2 := dpAll_length h2
    refine ⟨_, rfl, a, us, rfl, s1, _, rfl, b, ws, rfl, s2, rfl, _, rfl, ifF (by rw [dT (by rw [l1, l2])]; rfl) ?_⟩
    refine ⟨_, rfl, b, ws, rfl, s2, _, rfl, by omega, by omega, for_range (lo := 0) (n := ((ws.length : Int)).toNat) (fun i σ H' => H' = H ∧ ∃ v, σ = [some (.ref a), some (.ref b), v]) ⟨rfl, none, rfl⟩ ?_ ?_⟩
    · rintro i σ H' hi ⟨rfl, v, rfl⟩
      have hi2 : i < ds.length := by omega
      have ed : ds[i]? = some ds[i] := List.getElem?_eq_getElem hi2
      obtain ⟨u, hu, du⟩ := dpAll_get h1 ed
      obtain ⟨w, hw', dw⟩ := dpAll_get h2 ed
      have hm := wid_mem (List.getElem_mem hi2)
      have e0 : (0 : Int) + (i : Int) = (i : Int) := by omega
      refine ⟨_, rfl, _, rfl, ?_⟩
      rw [e0]
      have ix1 : ∀ {Q' : VK}, Q' u H' → rIx K (.ref a) (.int (i : Int)) H' Q' := fun {Q'} q' => by
        rcases s1 with s | s
        · exact .inl ⟨a, us, _, u, rfl, rfl, s, atI_nat hu, q'⟩
        · exact .inr (.inl ⟨a, us, _, u, rfl, rfl, s, atI_nat hu, q'⟩)
      have ix2 : ∀ {Q' : VK}, Q' w H' → rIx K (.ref b) (.int (i : Int)) H' Q' := fun {Q'} q' => by
        rcases s2 with s | s
        · exact .inl ⟨b, ws, _, w, rfl, rfl, s, atI_nat hw', q'⟩
        · exact .inr (.inl ⟨b, ws, _, w, rfl, rfl, s, atI_nat hw', q'⟩)
      refine ix1 ⟨_, rfl, _, rfl, ix2 ⟨u, w, ds[i], rfl, du, dw, by omega, by omega, true, rfl, ifF rfl ?_⟩⟩
      exact ⟨rfl, _, rfl⟩
    · rintro σ H' ⟨rfl, v, rfl⟩
      exact q
  cases hx with
  | non =>
    cases hy
    refine ⟨_, rfl, rfl, _, rfl, ifT rfl ⟨_, rfl, rfl, q⟩⟩
  | bl b =>
    cases hy
    refine ⟨_, rfl, rfl, _, rfl, ifF rfl (rIs rfl (.base (.bl _)) kit_bb ⟨_, rfl, ifT rfl (rIs rfl (.base (.bl _)) kit_bb ⟨_, rfl, ifT rfl ⟨_, rfl, _, rfl, rfl, ?_⟩⟩)⟩)⟩
    rw [dT rfl]; exact q
  | int i =>
    cases hy
    refine ⟨_, rfl, rfl, _, rfl, ifF rfl (rIs rfl (.base (.int _)) kit_ib ⟨_, rfl, ifF rfl (rIs rfl (.base (.int _)) kit_ii ⟨_, rfl, ifT rfl (rIs rfl (.base (.int _)) kit_ii ⟨_, rfl, ifT rfl (rIs rfl (.base (.int _)) kit_ib ⟨_, rfl, _, rfl, ifT rfl ⟨_, rfl, _, rfl, rfl, ?_⟩⟩)⟩)⟩)⟩)⟩
    rw [dT rfl]; exact q
  | str z =>
    cases hy
    refine ⟨_, rfl, rfl, _, rfl, ifF rfl (rIs rfl (.base (.str _)) kit_sb ⟨_, rfl, ifF rfl (rIs rfl (.base (.str _)) kit_si ⟨_, rfl, ifF rfl (rIs rfl (.base (.str _)) kit_ss ⟨_, rfl, ifT rfl (rIs rfl (.base (.str _)) kit_ss ⟨_, rfl, ifT rfl ⟨_, rfl, _, rfl, rfl, ?_⟩⟩)⟩)⟩)⟩)⟩
    rw [dT rfl]; exact q
  | @lst a us ds s1 h1 =>
    cases hy with
    | @lst b ws _ s2 h2 =>
      have hd' : PyData.depthAll ds + 1 < n + 1 := by simpa [PyData.depth] using hd
      have hw' : max ds.length (widAll ds) ≤ 1000000 := by simpa [wid] using hw
      refine ⟨_, rfl, rfl, _, rfl, ifF rfl (rIs rfl (tyL s2) kit_lb ⟨_, rfl, ifF rfl (rIs rfl (tyL s2) kit_li ⟨_, rfl, ifF rfl (rIs rfl (tyL s2) kit_ls ⟨_, rfl, ifF rfl ?_⟩)⟩)⟩)⟩
      refine rIs rfl (tyL s2) kit_lt (rIs rfl (tyL s1) kit_lt ⟨rfl, _, rfl, ifF rfl (rIs rfl (tyL s2) kit_ll (rIs rfl (tyL s1) kit_ll ⟨rfl, _, rfl, ifF rfl ?_⟩))⟩)
      exact walk a b us ws ds (.inl s1) (.inl s2) h1 h2 (by omega) (by omega) (by omega)
  | @tup a us ds s1 h1 =>
    cases hy with
    | @tup b ws _ s2 h2 =>
      have hd' : PyData.depthAll ds + 1 < n + 1 := by simpa [PyData.depth] using hd
      have hw' : max ds.length (widAll ds) ≤ 1000000 := by simpa [wid] using hw
      refine ⟨_, rfl, rfl, _, rfl, ifF rfl (rIs rfl (tyT s2) kit_tb ⟨_, rfl, ifF rfl (rIs rfl (tyT s2) kit_ti ⟨_, rfl, ifF rfl (rIs rfl (tyT s2) kit_ts ⟨_, rfl, ifF rfl ?_⟩)⟩)⟩)⟩
      refine rIs rfl (tyT s2) kit_tt (rIs rfl (tyT s1) kit_tt ⟨rfl, _, rfl, ifF rfl (rIs rfl (tyT s2) kit_tl (rIs rfl (tyT s1) kit_tl ⟨rfl, _, rfl, ifF rfl ?_⟩))⟩)
      exact walk a b us ws ds (.inr s1) (.inr s2) h1 h2 (by omega) (by omega) (by omega)
/-! ### new lists of rows -/
/-- a new list of these; all stands -/
def NewL (K : PySem.W.Frag) (H : Hp) (Q : VK) (ds : List PyData) : Prop := ∀ (r : Addr) (vs : List V) (H' : Hp), H r = none → H' r = some (.lst vs) → TpAll K H' vs ds → Same H H' → Q (.ref r) H'
section
variable {K : PySem.W.Frag} {H H1 : Hp} {Q : VK}
theorem NewL.mono {ds : List PyData} (q : NewL K H Q ds) (s : Same H H1) : NewL K H1 Q ds := fun r vs H' hr h t s' => q r vs H' (s.free hr) h t (s.trans s')
theorem Same.new {p : Addr} {o : HO} (h : H p = none) : Same H (upd H p o) := fun b u e => by rw [upd_ne (ne_of_none e h)]; exact e
theorem sqSameL {a : Addr} {xs : List V} (s : Same H H1) (h : SqL K H a xs) : SqL K H1 a xs := s.seq h
/-- two lists in a row -/
theorem cat_new {a b : Addr} {xs ys : List V} {ds es : List PyData} (ha : H a = some (.lst xs)) (hb : H b = some (.lst ys)) (tx : TpAll K H xs ds) (ty : TpAll K H ys es) (hz : ds.length + es.length ≤ 1000000) (q : NewL K H Q (ds ++ es)) : rCat (.ref a) (.ref b) H Q := by
  refine ⟨a, b, xs, ys, rfl, rfl, ha, hb, ?_, fun p hp => ?_⟩
  · rw [tx.length, ty.length]; exact sz_le1 hz
  · exact q p _ _ hp upd_same ((tx.app ty).mono (Tk.new hp)) (Same.new hp)
/-- a comprehension over a list, all stands -/
theorem lc_same {Qd : Hp → Prop} {a D : Addr} {xs : List V} {ds es : List PyData} {te : TE} {slot : Nat} {σ : L2.St} (hs : SqL K H1 a xs) (ht : TpAll K H1 xs ds) (hl : es.length = ds.length) (hD : H1 D = none) (hz : ds.length < 1000000)
    (hw : ∀ x, wipe ((wipe σ [slot]).set slot x) [slot] = wipe σ [slot])
    (step : ∀ (i : Nat) (x : V) (d e : PyData) (H2 : Hp), ds[i]? = some d → es[i]? = some e → Same H1 H2 → Tp K H2 x d → ∀ Q' : VK, (∀ y H3, Same H2 H3 → Tp K H3 y e → Q' y H3) → te ((wipe σ [slot]).set slot (some x)) H2 Q')
    (fin : ∀ (vs : List V) (H' : Hp), H' D = some (.lst vs) → TpAll K H' vs es → Same H1 H' → Qd H') :
    ∃ W : Nat → Nat → Hp → Prop, (∃ m, W 0 m (upd H1 D (.lst []))) ∧ ∀ i m H, W i m H →
      ((Itl K a).stop i H ∧ Qd H) ∨ ((Itl K a).go i H ∧ ∃ Nx : Hp → Prop, (∀ H', Nx H' → ∃ m', m' < m ∧ W (i + 1) m' H') ∧ ∀ x H', (Itl K a).yld i H x H' → gName slot x (wipe σ [slot]) H' fun σ2 H2 => wipe σ2 [slot] = wipe σ [slot] ∧ tYes σ2 H2 fun c H3 =>
        if c = true then te σ2 H3 fun y H4 => ∃ acc, H4 D = some (.lst acc) ∧ acc.length < sizeLine ∧ Nx (upd H4 D (.lst (acc ++ [y]))) else Nx H3) := by
  have lx := ht.length
  refine lc_list (K := K) (a := a) (xs := xs) (Qd := Qd) (fun i H' => ∃ vs, H' D = some (.lst vs) ∧ TpAll K H' vs (es.take i) ∧ Same H1 H')
    ⟨[], upd_same, .nil, Same.new hD⟩ (fun i H' _ ⟨_, _, _, s⟩ => s.seq hs) ?_ ?_
  · rintro i x H2 hx ⟨vs, hv, tv, s2⟩
    obtain ⟨d, hd, td⟩ := ht.get hx
    have hi : i < es.length := by rw [hl]; exact (List.getElem?_eq_some_iff.mp hd).1
    have he : es[i]? = some es[i] := List.getElem?_eq_getElem hi
    refine ⟨hw _, ?_⟩
    show te ((wipe σ [slot]).set slot (some x)) H2 fun y H4 => ∃ acc, H4 D = some (.lst acc) ∧ acc.length < sizeLine ∧ _
    refine step i x d es[i] H2 hd he s2 (td.mono (Tk.same s2)) _ fun y H3 s3 t3 => ?_
    have hv3 := s3 D _ hv
    refine ⟨vs, hv3, ?_, vs ++ [y], upd_same, ?_, fun b u e => by rw [upd_ne (ne_of_none e hD)]; exact s3 b u (s2 b u e)⟩
    · have := tv.length
      rw [List.length_take] at this
      exact sz_lt1 (by omega)
    · rw [List.take_succ, he]
      exact ((tv.mono (Tk.same s3)).snoc t3).mono (Tk.lst hv3)
  · rintro H' ⟨vs, hv, tv, s2⟩
    rw [List.take_of_length_le (by omega)] at tv
    exact fin vs H' hv tv s2
end
/-! ### parts one by one -/
section
variable {K : PySem.W.Frag} {H : Hp} {xs : List V} {i : Nat} {x : V}
theorem drop_at (hx : xs[i]? = some x) : xs.drop i = x :: xs.drop (i + 1) := by
  have hi := (List.getElem?_eq_some_iff.mp hx).1
  rw [List.drop_eq_getElem_cons hi, (List.getElem?_eq_some_iff.mp hx).2]
theorem sms_at {r : Sms} (ht : TpAll K H (xs.drop i) r.ds) (hx : xs[i]? = some x) : ∃ s r', r = .cons s r' ∧ Tp K H x s.d ∧ TpAll K H (xs.drop (i + 1)) r'.ds := by
  rw [drop_at hx] at ht
  cases r with
  | nil => cases ht
  | cons s r' =>
    cases ht with
    | cons h1 h2 => exact ⟨s, r', rfl, h1, h2⟩
theorem sms_end {r : Sms} (ht : TpAll K H (xs.drop xs.length) r.ds) : r = .nil := by
  rw [List.drop_length] at ht
  cases r with
  | nil => rfl
  | cons s r' => cases ht
theorem hds_at {r : Hds} (ht : TpAll K H (xs.drop i) r.ds) (hx : xs[i]? = some x) : ∃ k sl t r', r = .cons k sl t r' ∧ Tp K H x (.tuple [kindD k, .int (sl : Int), t.d]) ∧ TpAll K H (xs.drop (i + 1)) r'.ds := by
  rw [drop_at hx] at ht
  cases r with
  | nil => cases ht
  | cons k sl t r' =>
    cases ht with
    | cons h1 h2 => exact ⟨k, sl, t, r', rfl, h1, h2⟩
theorem hds_end {r : Hds} (ht : TpAll K H (xs.drop xs.length) r.ds) : r = .nil := by
  rw [List.drop_length] at ht
  cases r with
  | nil => rfl
  | cons k sl t r' => cases ht
theorem exs_at {r : List Ex} (ht : TpAll K H (xs.drop i) (r.map Ex.d)) (hx : xs[i]? = some x) : ∃ e r', r = e :: r' ∧ Tp K H x e.d ∧ TpAll K H (xs.drop (i + 1)) (r'.map Ex.d) := by
  rw [drop_at hx] at ht
  cases r with
  | nil => cases ht
  | cons e r' =>
    cases ht with
    | cons h1 h2 => exact ⟨e, r', rfl, h1, h2⟩
theorem exs_end {r : List Ex} (ht : TpAll K H (xs.drop xs.length) (r.map Ex.d)) : r = [] := by
  rw [List.drop_length] at ht
  cases r with
  | nil => rfl
  | cons e r' => cases ht
end
/-! ### _law_part_code -/
def spPartCode (K : PySem.W.Frag) (n : Nat) : Sp := fun vs H Q _ => ∃ (v : V) (e : Ex), vs = [v] ∧ Tp K H v e.d ∧ e.dep ≤ n ∧ e.len ≤ 100000 ∧ NewL K H Q (e.code.map Rw.d)
theorem spPartCode_zero {K : PySem.W.Frag} (vs : List V) (H : Hp) (Q : VK) (E : XK) : ¬ spPartCode K 0 vs H Q E := by
  rintro ⟨v, e, _, _, h, _⟩
  cases e <;> simp [Ex.dep] at h
section
variable {K : PySem.W.Frag}
abbrev N_law_part_code : List Str := ["_law_part_here"]
theorem rd_part_code {n : Nat} (vs : List V) (H : Hp) (Q : VK) (E : XK) (h : spPartCode K (n + 1) vs H Q E) : t_law_part_code K (spPartCode K n) { nx := fun _ H' => Q .non H', rt := Q } (start N_law_part_code vs) H := by
  obtain ⟨v, e, rfl, ht, hd, hz, q⟩ := h
  have leaf : ∀ (a : Addr) (x0 x1 : V), v = .ref a → SqT K H a [x0, x1] → (x0 = .str "num" ∨ x0 = .str "var") → e.code.map Rw.d = [e.d] → t_law_part_code K (spPartCode K n) { nx := fun _ H' => Q .non H', rt := Q } (start N_law_part_code [v]) H := by
    rintro a x0 x1 rfl hT hx he
    refine rd_ixT (j := 0) rfl hT rfl ⟨(by show 2 ≤ sizeLine; decide), fun p hp => ⟨p, _, rfl, .inr (SqT.of upd_same), ?_⟩⟩
    have f1 : flatV x0 = true := by rcases hx with rfl | rfl <;> rfl
    have f2 : inV x0 ([.str "num", .str "var"] : List V) = true := by rcases hx with rfl | rfl <;> rfl
    refine ⟨f1, rfl, true, by rw [if_neg Bool.false_ne_true, f2], ifT rfl ?_⟩
    refine ⟨_, rfl, (by show 1 ≤ sizeLine; decide), fun r hr => ?_⟩
    have s1 : Same H (L2.upd H p (.tup [.str "num", .str "var"])) := Same.new hp
    refine q r _ _ (s1.free hr) upd_same ?_ (s1.trans (Same.new hr))
    rw [he]
    exact .cons ((ht.mono (Tk.same s1)).mono (Tk.new hr)) .nil
  cases e with
  | num k =>
    obtain ⟨a, x0, x1, rfl, hT, h0, h1⟩ := ht.tup2
    exact leaf a x0 x1 rfl hT (.inl h0.strE) rfl
  | var k =>
    obtain ⟨a, x0, x1, rfl, hT, h0, h1⟩ := ht.tup2
    exact leaf a x0 x1 rfl hT (.inr h0.strE) rfl
  | bin o e1 e2 =>
    obtain ⟨a, x0, x1, x2, rfl, hT, h0, h1, h2⟩ := ht.tup3
    cases h0.strE
    have hd' : max e1.dep e2.dep + 1 ≤ n + 1 := hd
    have hz' : e1.len + e2.len + 1 ≤ 100000 := hz
    refine rd_ixT (j := 0) rfl hT rfl ⟨(by show 2 ≤ sizeLine; decide), fun p hp => ⟨p, _, rfl, .inr (SqT.of upd_same), rfl, rfl, false, ?_, ifF rfl ?_⟩⟩
    · rw [if_neg Bool.false_ne_true]; cases o <;> rfl
    have s1 : Same H (L2.upd H p (.tup [.str "num", .str "var"])) := Same.new hp
    refine rd_ixT (j := 1) rfl (s1.sqT hT) rfl ⟨_, e1, rfl, h1.mono (Tk.same s1), by omega, by omega, fun r1 us H1 hr1 hl1 t1 s2 => ?_⟩
    have s12 := s1.trans s2
    refine rd_ixT (j := 2) rfl (s12.sqT hT) rfl ⟨_, e2, rfl, h2.mono (Tk.same s12), by omega, by omega, fun r2 ws H2 hr2 hl2 t2 s3 => ?_⟩
    refine cat_new (K := K) (s3 _ _ hl1) hl2 (t1.mono (Tk.same s3)) t2 (by rw [List.length_map, List.length_map, Ex.code_len, Ex.code_len]; omega) fun r3 ys H3 hr3 hl3 t3 s4 => ?_
    have s14 := (s12.trans s3).trans s4
    refine rd_ixT (j := 0) rfl (s14.sqT hT) rfl ⟨(by show 1 ≤ sizeLine; decide), fun p2 hp2 => ⟨(by show 1 ≤ sizeLine; decide), fun p3 hp3 => ?_⟩⟩
    have s5 : Same H3 (L2.upd (L2.upd H3 p2 (.tup [.str o.s])) p3 (.lst [.ref p2])) := (Same.new hp2).trans (Same.new hp3)
    refine cat_new (K := K) (ds := e1.code.map Rw.d ++ e2.code.map Rw.d) (es := [(Rw.op o).d]) (s5 _ _ hl3) upd_same (t3.mono (Tk.same s5)) (.cons ((Tp.mk hp2 (.cons (.str _) .nil)).mono (Tk.new hp3)) .nil) (by simp [Ex.code_len]; omega) ?_
    rw [show e1.code.map Rw.d ++ e2.code.map Rw.d ++ [(Rw.op o).d] = (Ex.bin o e1 e2).code.map Rw.d by simp [Ex.code]]
    exact q.mono (s14.trans s5)
/-! ### _law_code and what it calls -/
/-- the turn as it is handed: None, or three numbers -/
def tnD : Option Tn → PyData
  | none => .none
  | some t => .tuple [.int t.1, .int t.2.1, .int t.2.2]
def tnOf : Option Tn → Tn
  | none => (0, 0, 0)
  | some t => t
/-- what may be coded: breaks where there is a while, at most so deep and so long; from a place on -/
structure CodeOk (s : Sm) (n : Nat) (tn : Option Tn) (base : Int) : Prop where
  wf : ∃ cs nk hand, s.Wf cs nk tn.isSome hand
  dep : s.dep ≤ n
  len : s.len ≤ 100000
  b0 : 0 ≤ base
  tn0 : ∀ t, tn = some t → 0 ≤ t.1
def spCode (n : Nat) : Sp := fun vs H Q _ => ∃ (v tv : V) (s : Sm) (base D : Int) (tn : Option Tn), vs = [v, .int base, .int D, tv] ∧ Tp K H v s.d ∧ Tp K H tv (tnD tn) ∧ CodeOk s n tn base ∧ NewL K H Q ((s.code base D (tnOf tn)).map Rw.d)
theorem spCode_zero (vs : List V) (H : Hp) (Q : VK) (E : XK) : ¬ spCode (K := K) 0 vs H Q E := by
  rintro ⟨v, tv, s, base, D, tn, _, _, _, h, _⟩
  have := h.dep
  cases s <;> simp [Sm.dep] at this
def spIfCode (n : Nat) : Sp := fun vs H Q _ => ∃ (v tv : V) (e : Ex) (s t : Sm) (base D : Int) (tn : Option Tn), vs = [v, .int base, .int D, tv] ∧ Tp K H v (Sm.ife e s t).d ∧ Tp K H tv (tnD tn) ∧ CodeOk (.ife e s t) (n + 1) tn base ∧ NewL K H Q (((Sm.ife e s t).code base D (tnOf tn)).map Rw.d)
def spLoopCode (n : Nat) : Sp := fun vs H Q _ => ∃ (v : V) (e : Ex) (s : Sm) (base D : Int) (tn : Option Tn), vs = [v, .int base, .int D] ∧ Tp K H v (Sm.whl e s).d ∧ CodeOk (.whl e s) (n + 1) tn base ∧ NewL K H Q (((Sm.whl e s).code base D (tnOf tn)).map Rw.d)
def spTryCode (n : Nat) : Sp := fun vs H Q _ => ∃ (v tv : V) (s : Sm) (hs : Hds) (base D : Int) (tn : Option Tn), vs = [v, .int base, .int D, tv] ∧ Tp K H v (Sm.tri s hs).d ∧ Tp K H tv (tnD tn) ∧ CodeOk (.tri s hs) (n + 1) tn base ∧ NewL K H Q (((Sm.tri s hs).code base D (tnOf tn)).map Rw.d)
def spCleanCode (n : Nat) : Sp := fun vs H Q _ => ∃ (v tv : V) (s c : Sm) (base D : Int) (tn : Option Tn), vs = [v, .int base, .int D, tv] ∧ Tp K H v (Sm.cln s c).d ∧ Tp K H tv (tnD tn) ∧ CodeOk (.cln s c) (n + 1) tn base ∧ NewL K H Q (((Sm.cln s c).code base D (tnOf tn)).map Rw.d)
def Sm.plain : Sm → Bool
  | .row _ | .ife _ _ _ | .whl _ _ | .tri _ _ | .cln _ _ => false
  | _ => true
def spPlainCode : Sp := fun vs H Q _ => ∃ (v tv : V) (s : Sm) (n : Nat) (base D : Int) (tn : Option Tn), vs = [v, tv] ∧ Tp K H v s.d ∧ Tp K H tv (tnD tn) ∧ s.plain = true ∧ CodeOk s n tn base ∧ NewL K H Q ((s.code base D (tnOf tn)).map Rw.d)
theorem Sm.dep_pos : ∀ s : Sm, 1 ≤ s.dep := fun s => by cases s <;> simp [Sm.dep]
theorem ite_int {c : Bool} : (if c = true then (1 : Int) else 0) = if c then 1 else 0 := by cases c <;> rfl
abbrev N_law_if_code : List Str := ["_law_one", "_law_base", "_law_depth", "_law_turn", "_law_head", "_law_yes", "_law_here", "_law_no"]
theorem rd_if_code {n : Nat} (vs : List V) (H : Hp) (Q : VK) (E : XK) (h : spIfCode (K := K) n vs H Q E) : t_law_if_code K (spPartCode K 6) (spCode (K := K) n) { nx := fun _ H' => Q .non H', rt := Q } (start N_law_if_code vs) H := by
  obtain ⟨v, tv, e, s, t, base, D, tn, rfl, ht, htn, ok, q⟩ := h
  obtain ⟨cs, nk, hand, ⟨we, de⟩, ws, wt⟩ := ok.wf
  have hd : max s.dep t.dep + 1 ≤ n + 1 := ok.dep
  have hl : e.len + 1 + s.len + 1 + t.len ≤ 100000 := ok.len
  have b0 := ok.b0
  obtain ⟨a, x0, x1, x2, x3, rfl, hT, h0, h1, h2, h3⟩ := ht.tup4
  refine rd_ixT (j := 1) rfl hT rfl ⟨_, e, rfl, h1, by omega, by omega, fun r1 us H1 hr1 hl1 t1 s1 => ?_⟩
  have lu : (us.length : Int) = e.len := by rw [t1.length, List.length_map, Ex.code_len]
  refine rd_ixT (j := 2) rfl (s1.sqT hT) rfl ⟨_, rfl, _, rfl, r1, us, rfl, .inl (SqL.of hl1), _, _, rfl, rfl, _, _, rfl, rfl, _, rfl, _, rfl, ?_⟩
  refine ⟨x2, tv, s, base + us.length + 1, D, tn, rfl, h2.mono (Tk.same s1), htn.mono (Tk.same s1), ⟨⟨cs, nk, hand, ws⟩, by omega, by omega, by omega, ok.tn0⟩, fun r2 ws' H2 hr2 hl2 t2 s2 => ?_⟩
  have s12 := s1.trans s2
  have hl1' := s2 _ _ hl1
  have lw : (ws'.length : Int) = s.len := by rw [t2.length, List.length_map, Sm.code_len]
  refine ⟨_, rfl, _, rfl, r1, us, rfl, .inl (SqL.of hl1'), _, _, rfl, rfl, _, rfl, r2, ws', rfl, .inl (SqL.of hl2), _, _, rfl, rfl, _, _, rfl, rfl, ?_⟩
  refine rd_ixT (j := 3) rfl (s12.sqT hT) rfl ⟨_, rfl, _, rfl, _, rfl, ?_⟩
  refine ⟨x3, tv, t, base + us.length + ws'.length + 2, D, tn, rfl, h3.mono (Tk.same s12), htn.mono (Tk.same s12), ⟨⟨cs, nk, hand, wt⟩, by omega, by omega, by omega, ok.tn0⟩, fun r3 zs H3 hr3 hl3 t3 s3 => ?_⟩
  have lz : (zs.length : Int) = t.len := by rw [t3.length, List.length_map, Sm.code_len]
  have e1 : base + us.length + 1 = base + e.len + 1 := by omega
  have e2 : base + us.length + ws'.length + 2 = base + e.len + 1 + s.len + 1 := by omega
  rw [e1] at t2; rw [e2] at t3
  have hl1'' := s3 _ _ hl1'
  have hl2' := s3 _ _ hl2
  -- head + [("unless", here)]
  refine ⟨_, rfl, _, rfl, (by show 2 ≤ sizeLine; decide), fun p hp => ⟨(by show 1 ≤ sizeLine; decide), fun p2 hp2 => ?_⟩⟩
  have sA : Same H3 (L2.upd (L2.upd H3 p (.tup [.str "unless", .int (base + us.length + ws'.length + 2)])) p2 (.lst [.ref p])) := (Same.new hp).trans (Same.new hp2)
  refine cat_new (K := K) (ds := e.code.map Rw.d) (es := [(Rw.unless (base + us.length + ws'.length + 2)).d]) (sA _ _ hl1'') upd_same ((t1.mono (Tk.same (s2.trans s3))).mono (Tk.same sA)) (.cons ((Tp.mk hp (.cons (.str _) (.cons (.int _) .nil))).mono (Tk.new hp2)) .nil) (by rw [List.length_map, Ex.code_len]; simp; omega) fun r4 ws4 H4 hr4 hl4 t4 s4 => ?_
  have s34 := sA.trans s4
  refine ⟨_, rfl, cat_new (K := K) hl4 (s34 _ _ hl2') t4 ((t2.mono (Tk.same s3)).mono (Tk.same s34)) (by simp [Ex.code_len, Sm.code_len]; omega) fun r5 ws5 H5 hr5 hl5 t5 s5 => ?_⟩
  have s35 := s34.trans s5
  refine ⟨_, rfl, _, rfl, r3, zs, rfl, .inl (SqL.of (s35 _ _ hl3)), _, _, rfl, rfl, (by show 2 ≤ sizeLine; decide), fun p3 hp3 => ⟨(by show 1 ≤ sizeLine; decide), fun p4 hp4 => ?_⟩⟩
  have sB : Same H5 (L2.upd (L2.upd H5 p3 (.tup [.str "go", .int (base + us.length + ws'.length + 2 + zs.length)])) p4 (.lst [.ref p3])) := (Same.new hp3).trans (Same.new hp4)
  refine cat_new (K := K) (es := [(Rw.go (base + us.length + ws'.length + 2 + zs.length)).d]) (sB _ _ hl5) upd_same (t5.mono (Tk.same sB)) (.cons ((Tp.mk hp3 (.cons (.str _) (.cons (.int _) .nil))).mono (Tk.new hp4)) .nil) (by simp [Ex.code_len, Sm.code_len]; omega) fun r6 ws6 H6 hr6 hl6 t6 s6 => ?_
  have s36 := (s35.trans sB).trans s6
  refine ⟨_, rfl, cat_new (K := K) hl6 (s36 _ _ hl3) t6 (t3.mono (Tk.same s36)) (by simp [Ex.code_len, Sm.code_len]; omega) ?_⟩
  have e3 : base + us.length + ws'.length + 2 + zs.length = base + e.len + 1 + s.len + 1 + t.len := by omega
  rw [e3, e2]
  rw [show e.code.map Rw.d ++ [(Rw.unless (base + e.len + 1 + s.len + 1)).d] ++ (s.code (base + e.len + 1) D (tnOf tn)).map Rw.d ++ [(Rw.go (base + e.len + 1 + s.len + 1 + t.len)).d] ++ (t.code (base + e.len + 1 + s.len + 1) D (tnOf tn)).map Rw.d = ((Sm.ife e s t).code base D (tnOf tn)).map Rw.d by simp [Sm.code]]
  exact q.mono ((s12.trans s3).trans s36)
theorem shaped_rw (r : Rw) : SeqAt.shaped r.d = true := by
  cases r with
  | op o => cases o <;> decide +kernel
  | hand b x kd D => cases kd <;> simp [SeqAt.shaped, Rw.d, kindD, PyData.canLay0, PyData.canLayAll0, PyData.depth, PyData.depthAll] <;> decide +kernel
  | _ => simp [SeqAt.shaped, Rw.d, PyData.canLay0, PyData.canLayAll0, PyData.depth, PyData.depthAll] <;> decide +kernel
/-- [row, other][int(row == mark)] where all three are rows -/
theorem pick_row {σ : L2.St} {H2 : Hp} {x : V} {r r' mk : Rw} {i : Nat} {tb tm : TE} {Q' : VK} (hx : σ[i]? = some (some x)) (tx : Tp K H2 x r.d)
    (hb : ∀ (H3 : Hp) (Q2 : VK), Same H2 H3 → (∀ p H4, Same H3 H4 → Tp K H4 (.ref p) r'.d → Q2 (.ref p) H4) → tb σ H3 Q2)
    (hm : ∀ (H3 : Hp) (Q2 : VK), Same H2 H3 → (∀ p H4, Same H3 H4 → Tp K H4 (.ref p) mk.d → Q2 (.ref p) H4) → tm σ H3 Q2) (eqv : PyData.eqv r.d mk.d = decide (r = mk))
    (q : ∀ y H3, Same H2 H3 → Tp K H3 y (if r = mk then r' else r).d → Q' y H3) :
    tOp (rIxL K) (tLst (tCons (tVar i) (tCons tb tNil))) (tCB rInt1 (tCons (tOp (rEqD K) (tVar i) tm) tNil)) σ H2 Q' := by
  refine ⟨_, hx, hb H2 _ (Same.refl _) fun p H3 s3 t3 => ⟨(by show 2 ≤ sizeLine; decide), fun l hl => ?_⟩⟩
  have s4 : Same H2 (L2.upd H3 l (.lst [x, .ref p])) := s3.trans (Same.new hl)
  refine ⟨_, hx, hm _ _ s4 fun p2 H5 s5 t5 => ⟨r.d, mk.d, (tx.mono (Tk.same (s4.trans s5))).dp, t5.dp, shaped_rw r, shaped_rw mk, .inr ⟨_, rfl, ?_⟩⟩⟩
  rw [eqv]
  have hl5 := s5 l _ upd_same
  by_cases c : r = mk
  · rw [if_pos (dT c)]
    have z := q (.ref p) H5 (s4.trans s5)
    rw [if_pos c] at z
    exact ⟨l, _, 1, .ref p, rfl, rfl, SqL.of hl5, rfl, z (t3.mono (Tk.same ((Same.new hl).trans s5)))⟩
  · rw [if_neg (by rw [dF c]; decide)]
    have z := q x H5 (s4.trans s5)
    rw [if_neg c] at z
    exact ⟨l, _, 0, x, rfl, rfl, SqL.of hl5, rfl, z (tx.mono (Tk.same (s4.trans s5)))⟩
abbrev N_law_loop_code : List Str := ["_law_one", "_law_base", "_law_depth", "_law_head", "_law_start", "_law_inner", "_law_leave", "_law_row"]
theorem rd_loop_code {n : Nat} (vs : List V) (H : Hp) (Q : VK) (E : XK) (h : spLoopCode (K := K) n vs H Q E) : t_law_loop_code K (spPartCode K 6) (spCode (K := K) n) { nx := fun _ H' => Q .non H', rt := Q } (start N_law_loop_code vs) H := by
  obtain ⟨v, e, s, base, D, tn, rfl, ht, ok, q⟩ := h
  obtain ⟨cs, nk, hand, ⟨we, de⟩, ws⟩ := ok.wf
  have hd : s.dep + 1 ≤ n + 1 := ok.dep
  have hl : e.len + 2 + s.len + 1 ≤ 100000 := ok.len
  have b0 := ok.b0
  obtain ⟨a, x0, x1, x2, rfl, hT, h0, h1, h2⟩ := ht.tup3
  refine rd_ixT (j := 1) rfl hT rfl ⟨_, e, rfl, h1, by omega, by omega, fun r1 us H1 hr1 hl1 t1 s1 => ?_⟩
  have lu : (us.length : Int) = e.len := by rw [t1.length, List.length_map, Ex.code_len]
  refine ⟨_, rfl, _, rfl, r1, us, rfl, .inl (SqL.of hl1), _, _, rfl, rfl, _, _, rfl, rfl, ?_⟩
  refine rd_ixT (j := 2) rfl (s1.sqT hT) rfl ⟨_, rfl, _, rfl, _, rfl, _, rfl, _, rfl, _, _, rfl, rfl, _, rfl, (by show 3 ≤ sizeLine; decide), fun p hp => ?_⟩
  have sp : Same H1 (L2.upd H1 p (.tup [.int base, .int (-1 - base), .int D])) := Same.new hp
  have eS : base + us.length + 2 = base + e.len + 2 := by omega
  refine ⟨x2, .ref p, s, base + us.length + 2, D, some (base, -1 - base, D), rfl, (h2.mono (Tk.same s1)).mono (Tk.same sp), Tp.mk hp (.cons (.int _) (.cons (.int _) (.cons (.int _) .nil))), ⟨⟨cs, nk, hand, ws⟩, by omega, by omega, by omega, fun t z => by cases z; exact b0⟩, fun r2 ws' H2 hr2 hl2 t2 s2 => ?_⟩
  rw [eS] at t2
  have s12 := (s1.trans sp).trans s2
  have lw : (ws'.length : Int) = s.len := by rw [t2.length, List.length_map, Sm.code_len]
  refine ⟨_, rfl, _, rfl, r2, ws', rfl, .inl (SqL.of hl2), _, _, rfl, rfl, _, _, rfl, rfl, ?_⟩
  -- the look at each row
  have eZ : base + us.length + 2 + ws'.length + 1 = base + e.len + 2 + s.len + 1 := by omega
  refine ⟨_, rfl, r2, rfl, ⟨_, SqL.of hl2⟩, fun L hL => ?_⟩
  refine lc_same (K := K) (es := ((s.code (base + e.len + 2) D (base, base + e.len + 2 + s.len + 1, D)).map Rw.d)) (SqL.of hl2) t2 (by simp [Sm.code_len]) hL (by simp [Sm.code_len]; omega) ?hw ?_ ?_
  case hw => exact fun _ => rfl
  · intro i x d f H3 hd hf s3 tx Q' q'
    rw [List.getElem?_map] at hd hf
    have hfill := Sm.subL (w := -1 - base) (z := base + e.len + 2 + s.len + 1) (p := base) (D0 := D) (by omega) b0 s (base + e.len + 2) D (by omega)
    rw [← hfill, List.getElem?_map] at hf
    cases er : (s.code (base + e.len + 2) D (tnOf (some (base, -1 - base, D))))[i]? with
    | none => rw [er] at hd; cases hd
    | some r =>
      have er' : (s.code (base + e.len + 2) D (base, -1 - base, D))[i]? = some r := er
      rw [er] at hd; rw [er'] at hf
      obtain rfl : r.d = d := Option.some.inj hd
      obtain rfl : (subL (-1 - base) (base + e.len + 2 + s.len + 1) D r).d = f := Option.some.inj hf
      refine pick_row (r := r) (r' := .leap (base + e.len + 2 + s.len + 1) D) (mk := .leap (-1 - base) D) rfl tx ?_ ?_ (Rw.eqv_leap _ _ _) q'
      · intro H4 Q2 s4 k
        refine ⟨_, rfl, _, rfl, (by show 3 ≤ sizeLine; decide), fun p3 hp3 => k p3 _ (Same.new hp3) ?_⟩
        rw [← eZ]
        exact Tp.mk hp3 (.cons (.str _) (.cons (.int _) (.cons (.int _) .nil)))
      · intro H4 Q2 s4 k
        exact ⟨_, rfl, _, rfl, _, _, rfl, rfl, _, rfl, (by show 3 ≤ sizeLine; decide), fun p3 hp3 => k p3 _ (Same.new hp3) (Tp.mk hp3 (.cons (.str _) (.cons (.int _) (.cons (.int _) .nil))))⟩
  · intro zs H3 hL3 tz s3
    have s13 := s12.trans s3
    have hl1' := ((sp.trans s2).trans s3) _ _ hl1
    refine ⟨_, rfl, _, rfl, (by show 2 ≤ sizeLine; decide), fun p1 hp1 => ⟨(by show 1 ≤ sizeLine; decide), fun p2 hp2 => ⟨(by show 2 ≤ sizeLine; decide), fun p3 hp3 => ?_⟩⟩⟩
    have sA : Same H3 (L2.upd (L2.upd (L2.upd H3 p1 (.tup [.str "unless", .int (base + us.length + 2 + ws'.length + 1)])) p2 (.tup [.str "turn"])) p3 (.lst [.ref p1, .ref p2])) := ((Same.new hp1).trans (Same.new hp2)).trans (Same.new hp3)
    have tA : TpAll K (L2.upd (L2.upd (L2.upd H3 p1 (.tup [.str "unless", .int (base + us.length + 2 + ws'.length + 1)])) p2 (.tup [.str "turn"])) p3 (.lst [.ref p1, .ref p2])) [.ref p1, .ref p2] [(Rw.unless (base + us.length + 2 + ws'.length + 1)).d, Rw.turn.d] :=
      .cons (((Tp.mk hp1 (.cons (.str _) (.cons (.int _) .nil))).mono (Tk.new hp2)).mono (Tk.new hp3)) (.cons ((Tp.mk hp2 (.cons (.str _) .nil)).mono (Tk.new hp3)) .nil)
    refine cat_new (K := K) (sA _ _ hl1') upd_same ((t1.mono (Tk.same ((sp.trans s2).trans s3))).mono (Tk.same sA)) tA (by simp [Ex.code_len]; omega) fun r4 ws4 H4 hr4 hl4 t4 s4 => ?_
    have s34 := sA.trans s4
    refine ⟨_, rfl, cat_new (K := K) hl4 (s34 _ _ hL3) t4 (tz.mono (Tk.same s34)) (by simp [Ex.code_len, Sm.code_len]; omega) fun r5 ws5 H5 hr5 hl5 t5 s5 => ?_⟩
    refine ⟨_, rfl, (by show 2 ≤ sizeLine; decide), fun p4 hp4 => ⟨(by show 1 ≤ sizeLine; decide), fun p5 hp5 => ?_⟩⟩
    have sB : Same H5 (L2.upd (L2.upd H5 p4 (.tup [.str "go", .int base])) p5 (.lst [.ref p4])) := (Same.new hp4).trans (Same.new hp5)
    refine cat_new (K := K) (es := [(Rw.go base).d]) (sB _ _ hl5) upd_same (t5.mono (Tk.same sB)) (.cons ((Tp.mk hp4 (.cons (.str _) (.cons (.int _) .nil))).mono (Tk.new hp5)) .nil) (by simp [Ex.code_len, Sm.code_len]; omega) ?_
    rw [eZ, show e.code.map Rw.d ++ [(Rw.unless (base + e.len + 2 + s.len + 1)).d, Rw.turn.d] ++ (s.code (base + e.len + 2) D (base, base + e.len + 2 + s.len + 1, D)).map Rw.d ++ [(Rw.go base).d] = ((Sm.whl e s).code base D (tnOf tn)).map Rw.d by simp [Sm.code]]
    exact q.mono (((s13.trans s34).trans s5).trans sB)
abbrev N_law_clean_code : List Str := ["_law_one", "_law_base", "_law_depth", "_law_turn", "_law_inner", "_law_end", "_law_last"]
theorem rd_clean_code {n : Nat} (vs : List V) (H : Hp) (Q : VK) (E : XK) (h : spCleanCode (K := K) n vs H Q E) : t_law_clean_code K (spCode (K := K) n) { nx := fun _ H' => Q .non H', rt := Q } (start N_law_clean_code vs) H := by
  obtain ⟨v, tv, s, c, base, D, tn, rfl, ht, htn, ok, q⟩ := h
  obtain ⟨cs, nk, hand, ws, wc⟩ := ok.wf
  have hd : max s.dep c.dep + 1 ≤ n + 1 := ok.dep
  have hl : s.len + 2 + c.len + 1 ≤ 100000 := ok.len
  have b0 := ok.b0
  obtain ⟨a, x0, x1, x2, rfl, hT, h0, h1, h2⟩ := ht.tup3
  refine rd_ixT (j := 1) rfl hT rfl ⟨_, rfl, _, rfl, _, rfl, ?_⟩
  refine ⟨x1, tv, s, base, D, tn, rfl, h1, htn, ⟨⟨cs, nk, hand, ws⟩, by omega, by omega, b0, ok.tn0⟩, fun r1 us H1 hr1 hl1 t1 s1 => ?_⟩
  have lu : (us.length : Int) = s.len := by rw [t1.length, List.length_map, Sm.code_len]
  refine ⟨(by show 1 ≤ sizeLine; decide), fun p1 hp1 => ⟨(by show 1 ≤ sizeLine; decide), fun p2 hp2 => ?_⟩⟩
  have sA : Same H1 (L2.upd (L2.upd H1 p1 (.tup [.str "mend"])) p2 (.lst [.ref p1])) := (Same.new hp1).trans (Same.new hp2)
  refine cat_new (K := K) (es := [Rw.mend.d]) (sA _ _ hl1) upd_same (t1.mono (Tk.same sA)) (.cons ((Tp.mk hp1 (.cons (.str _) .nil)).mono (Tk.new hp2)) .nil) (by simp [Sm.code_len]; omega) fun r2 ws2 H2 hr2 hl2 t2 s2 => ?_
  have s12 := (s1.trans sA).trans s2
  have lw : (ws2.length : Int) = s.len + 1 := by rw [t2.length]; simp [Sm.code_len]
  refine ⟨_, rfl, _, rfl, r2, ws2, rfl, .inl (SqL.of hl2), _, _, rfl, rfl, ?_⟩
  refine rd_ixT (j := 2) rfl (s12.sqT hT) rfl ⟨_, rfl, _, _, rfl, rfl, _, rfl, _, _, rfl, rfl, _, rfl, ?_⟩
  have eB : base + ws2.length + 1 = base + s.len + 2 := by omega
  refine ⟨x2, tv, c, base + ws2.length + 1, D + 1, tn, rfl, h2.mono (Tk.same s12), htn.mono (Tk.same s12), ⟨⟨cs, nk, hand, wc⟩, by omega, by omega, by omega, ok.tn0⟩, fun r3 ws3 H3 hr3 hl3 t3 s3 => ?_⟩
  rw [eB] at t3
  refine ⟨_, rfl, _, rfl, _, rfl, _, rfl, (by show 4 ≤ sizeLine; decide), fun p3 hp3 => ⟨(by show 1 ≤ sizeLine; decide), fun p4 hp4 => ?_⟩⟩
  have sB : Same H3 (L2.upd (L2.upd H3 p3 (.tup [.str "cleanup", .int base, .int (base + ws2.length), .int D])) p4 (.lst [.ref p3])) := (Same.new hp3).trans (Same.new hp4)
  refine cat_new (K := K) (es := [(Rw.cup base (base + ws2.length) D).d]) (sB _ _ (s3 _ _ hl2)) upd_same ((t2.mono (Tk.same s3)).mono (Tk.same sB)) (.cons ((Tp.mk hp3 (.cons (.str _) (.cons (.int _) (.cons (.int _) (.cons (.int _) .nil))))).mono (Tk.new hp4)) .nil) (by simp [Sm.code_len]; omega) fun r4 ws4 H4 hr4 hl4 t4 s4 => ?_
  have s34 := sB.trans s4
  refine ⟨_, rfl, cat_new (K := K) hl4 (s34 _ _ hl3) t4 (t3.mono (Tk.same s34)) (by simp [Sm.code_len]; omega) fun r5 ws5 H5 hr5 hl5 t5 s5 => ?_⟩
  refine ⟨(by show 1 ≤ sizeLine; decide), fun p5 hp5 => ⟨(by show 1 ≤ sizeLine; decide), fun p6 hp6 => ?_⟩⟩
  have sC : Same H5 (L2.upd (L2.upd H5 p5 (.tup [.str "resume"])) p6 (.lst [.ref p5])) := (Same.new hp5).trans (Same.new hp6)
  refine cat_new (K := K) (es := [Rw.resume.d]) (sC _ _ hl5) upd_same (t5.mono (Tk.same sC)) (.cons ((Tp.mk hp5 (.cons (.str _) .nil)).mono (Tk.new hp6)) .nil) (by simp [Sm.code_len]; omega) ?_
  have eX : base + ws2.length = base + s.len + 1 := by omega
  rw [eX, show (s.code base D (tnOf tn)).map Rw.d ++ [Rw.mend.d] ++ [(Rw.cup base (base + s.len + 1) D).d] ++ (c.code (base + s.len + 2) (D + 1) (tnOf tn)).map Rw.d ++ [Rw.resume.d] = ((Sm.cln s c).code base D (tnOf tn)).map Rw.d by simp [Sm.code]]
  exact q.mono ((((s12.trans s3).trans s34).trans s5).trans sC)
abbrev N_law_try_code : List Str := ["_law_one", "_law_base", "_law_depth", "_law_turn", "_law_inner", "_law_end", "_law_rows", "_law_handler_here", "_law_leave", "_law_row"]
theorem rd_try_code {n : Nat} (vs : List V) (H : Hp) (Q : VK) (E : XK) (h : spTryCode (K := K) n vs H Q E) : t_law_try_code K (spCode (K := K) n) { nx := fun _ H' => Q .non H', rt := Q } (start N_law_try_code vs) H := by
  obtain ⟨v, tv, s, hs, base, D, tn, rfl, ht, htn, ok, q⟩ := h
  obtain ⟨cs, nk, hand, ws, wh⟩ := ok.wf
  have hd : max s.dep hs.dep + 1 ≤ n + 1 := ok.dep
  have hl : s.len + 1 + hs.len ≤ 100000 := ok.len
  have b0 := ok.b0
  obtain ⟨a, x0, x1, x2, rfl, hT, h0, h1, h2⟩ := ht.tup3
  obtain ⟨ah, hxs, rfl, hTh, hth⟩ := h2.tupE
  refine rd_ixT (j := 1) rfl hT rfl ⟨_, rfl, _, rfl, _, rfl, ?_⟩
  refine ⟨x1, tv, s, base, D, tn, rfl, h1, htn, ⟨⟨cs, nk, hand, ws⟩, by omega, by omega, b0, ok.tn0⟩, fun r1 us H1 hr1 hl1 t1 s1 => ?_⟩
  have lu : (us.length : Int) = s.len := by rw [t1.length, List.length_map, Sm.code_len]
  refine ⟨_, rfl, _, rfl, r1, us, rfl, .inl (SqL.of hl1), _, _, rfl, rfl, _, rfl, _, rfl, (by show 2 ≤ sizeLine; decide), fun p1 hp1 => ⟨(by show 1 ≤ sizeLine; decide), fun p2 hp2 => ?_⟩⟩
  have sA : Same H1 (L2.upd (L2.upd H1 p1 (.tup [.str "go", .int (-1)])) p2 (.lst [.ref p1])) := (Same.new hp1).trans (Same.new hp2)
  refine cat_new (K := K) (es := [(Rw.go (-1)).d]) (sA _ _ hl1) upd_same (t1.mono (Tk.same sA)) (.cons ((Tp.mk hp1 (.cons (.str _) (.cons (.int _) .nil))).mono (Tk.new hp2)) .nil) (by simp [Sm.code_len]; omega) fun r2 ws2 H2 hr2 hl2 t2 s2 => ?_
  have s12 := (s1.trans sA).trans s2
  have eX : base + us.length = base + s.len := by omega
  -- the handlers, one by one
  refine rd_ixT (j := 2) rfl (s12.sqT hT) rfl ⟨ah, rfl, ⟨_, s12.sqT hTh⟩, for_tup (K := K) (a := ah) (xs := hxs) (fun i σ H' => ∃ (r : Hds) (pre : List Rw) (rr : Addr) (rv : List V) (v7 : Option V),
      σ = [some (.ref a), some (.int base), some (.int D), some tv, some (.ref r1), some (.int (base + us.length)), some (.ref rr), v7, none, none] ∧ Same H H' ∧ H' rr = some (.lst rv) ∧ TpAll K H' rv (((s.code base D (tnOf tn)) ++ [Rw.go (-1)] ++ pre).map Rw.d) ∧
      TpAll K H' (hxs.drop i) r.ds ∧ r.Wf cs nk tn.isSome ∧ r.dep ≤ n ∧ pre.length + r.len = hs.len ∧ pre ++ r.code base (base + s.len) (-1) (base + s.len + 1 + pre.length) D (tnOf tn) = hs.code base (base + s.len) (-1) (base + s.len + 1) D (tnOf tn))
    ⟨hs, [], r2, ws2, none, rfl, s12, hl2, by rw [List.append_nil, List.map_append]; exact t2, by rw [List.drop_zero]; exact hth.mono (Tk.same s12), wh, by omega, by simp, by simp⟩ (fun i σ H' _ ⟨_, _, _, _, _, _, s', _⟩ => s'.sqT hTh) ?_ ?_⟩
  · rintro i x σ H3 hx ⟨r, pre, rr, rv, v7, rfl, s3, hrr, trv, tr, wr, dr, lr, er⟩
    obtain ⟨k, sl, t, r', rfl, tx, tr'⟩ := hds_at tr hx
    obtain ⟨ax, y0, y1, y2, rfl, hTx, k0, k1, k2⟩ := tx.tup3
    cases k1.intE
    obtain ⟨wk, wsl, wt, wr'⟩ : (∀ j, k = some j → j < nk) ∧ sl < 8 ∧ t.Wf cs nk tn.isSome true ∧ r'.Wf cs nk tn.isSome := wr
    have dr2 : max t.dep r'.dep ≤ n := dr
    have lr2 : pre.length + (2 + t.len + 2 + r'.len) = hs.len := lr
    have lrv : (rv.length : Int) = s.len + 1 + pre.length := by rw [trv.length]; simp [Sm.code_len]; omega
    -- the two rows ahead
    refine ⟨_, rfl, _, rfl, _, rfl, rd_ixT (j := 0) rfl hTx rfl ⟨_, rfl, (by show 5 ≤ sizeLine; decide), fun p3 hp3 => ?_⟩⟩
    have sx1 : Same H3 (L2.upd H3 p3 (.tup [.str "handler", .int base, .int (base + us.length), y0, .int D])) := Same.new hp3
    refine rd_ixT (j := 1) rfl (sx1.sqT hTx) rfl ⟨(by show 2 ≤ sizeLine; decide), fun p4 hp4 => ⟨(by show 2 ≤ sizeLine; decide), fun p5 hp5 => ?_⟩⟩
    have sB : Same H3 (L2.upd (L2.upd (L2.upd H3 p3 (.tup [.str "handler", .int base, .int (base + us.length), y0, .int D])) p4 (.tup [.str "set", .int (sl : Int)])) p5 (.lst [.ref p3, .ref p4])) := (sx1.trans (Same.new hp4)).trans (Same.new hp5)
    have tB : TpAll K (L2.upd (L2.upd (L2.upd H3 p3 (.tup [.str "handler", .int base, .int (base + us.length), y0, .int D])) p4 (.tup [.str "set", .int (sl : Int)])) p5 (.lst [.ref p3, .ref p4])) [.ref p3, .ref p4] [(Rw.hand base (base + s.len) k D).d, (Rw.set sl).d] := by
      rw [← eX]
      exact .cons (((Tp.mk hp3 (.cons (.str _) (.cons (.int _) (.cons (.int _) (.cons k0 (.cons (.int _) .nil)))))).mono (Tk.new hp4)).mono (Tk.new hp5)) (.cons ((Tp.mk hp4 (.cons (.str _) (.cons (.int _) .nil))).mono (Tk.new hp5)) .nil)
    refine cat_new (K := K) (sB _ _ hrr) upd_same (trv.mono (Tk.same sB)) tB (by simp [Sm.code_len]; omega) fun r4 ws4 H4 hr4 hl4 t4 s4 => ?_
    have s34 := sB.trans s4
    have l4 : (ws4.length : Int) = s.len + 1 + pre.length + 2 := by rw [t4.length]; simp [Sm.code_len]; omega
    -- the handler's own
    refine ⟨_, rfl, rd_ixT (j := 2) rfl (s34.sqT hTx) rfl ⟨_, rfl, _, rfl, r4, ws4, rfl, .inl (SqL.of hl4), _, _, rfl, rfl, _, rfl, _, _, rfl, rfl, _, rfl, ?_⟩⟩
    have eB : base + ws4.length = base + s.len + 1 + pre.length + 2 := by omega
    refine ⟨y2, tv, t, base + ws4.length, D + 1, tn, rfl, k2.mono (Tk.same s34), htn.mono (Tk.same (s3.trans s34)), ⟨⟨cs, nk, true, wt⟩, by omega, by omega, by omega, ok.tn0⟩, fun r5 ws5 H5 hr5 hl5 t5 s5 => ?_⟩
    rw [eB] at t5
    refine cat_new (K := K) (s5 _ _ hl4) hl5 (t4.mono (Tk.same s5)) t5 (by simp [Sm.code_len]; omega) fun r6 ws6 H6 hr6 hl6 t6 s6 => ?_
    refine ⟨_, rfl, (by show 1 ≤ sizeLine; decide), fun p6 hp6 => ⟨_, rfl, (by show 2 ≤ sizeLine; decide), fun p7 hp7 => ⟨(by show 2 ≤ sizeLine; decide), fun p8 hp8 => ?_⟩⟩⟩
    have sC : Same H6 (L2.upd (L2.upd (L2.upd H6 p6 (.tup [.str "settled"])) p7 (.tup [.str "go", .int (-1)])) p8 (.lst [.ref p6, .ref p7])) := ((Same.new hp6).trans (Same.new hp7)).trans (Same.new hp8)
    have tC : TpAll K (L2.upd (L2.upd (L2.upd H6 p6 (.tup [.str "settled"])) p7 (.tup [.str "go", .int (-1)])) p8 (.lst [.ref p6, .ref p7])) [.ref p6, .ref p7] [Rw.settled.d, (Rw.go (-1)).d] :=
      .cons (((Tp.mk hp6 (.cons (.str _) .nil)).mono (Tk.new hp7)).mono (Tk.new hp8)) (.cons ((Tp.mk hp7 (.cons (.str _) (.cons (.int _) .nil))).mono (Tk.new hp8)) .nil)
    refine cat_new (K := K) (sC _ _ hl6) upd_same (t6.mono (Tk.same sC)) tC (by simp [Sm.code_len]; omega) fun r7 ws7 H7 hr7 hl7 t7 s7 => ?_
    have sZ := (((s34.trans s5).trans s6).trans sC).trans s7
    refine ⟨r', pre ++ ([Rw.hand base (base + s.len) k D, Rw.set sl] ++ t.code (base + s.len + 1 + pre.length + 2) (D + 1) (tnOf tn) ++ [Rw.settled, Rw.go (-1)]), r7, ws7, _, rfl, s3.trans sZ, hl7, ?_, tr'.mono (Tk.same sZ), wr', by omega, by simp [Sm.code_len]; omega, ?_⟩
    · rw [show ((s.code base D (tnOf tn)) ++ [Rw.go (-1)] ++ (pre ++ ([Rw.hand base (base + s.len) k D, Rw.set sl] ++ t.code (base + s.len + 1 + pre.length + 2) (D + 1) (tnOf tn) ++ [Rw.settled, Rw.go (-1)]))).map Rw.d = ((s.code base D (tnOf tn)) ++ [Rw.go (-1)] ++ pre).map Rw.d ++ [(Rw.hand base (base + s.len) k D).d, (Rw.set sl).d] ++ (t.code (base + s.len + 1 + pre.length + 2) (D + 1) (tnOf tn)).map Rw.d ++ [Rw.settled.d, (Rw.go (-1)).d] by simp]
      exact t7
    · rw [← er]
      have e9 : base + s.len + 1 + ((pre ++ ([Rw.hand base (base + s.len) k D, Rw.set sl] ++ t.code (base + s.len + 1 + pre.length + 2) (D + 1) (tnOf tn) ++ [Rw.settled, Rw.go (-1)])).length : Int) = base + s.len + 1 + pre.length + 2 + t.len + 2 := by simp [Sm.code_len]; omega
      rw [e9]
      simp [Hds.code]
  · rintro σ H3 ⟨r, pre, rr, rv, v7, rfl, s3, hrr, trv, tr, wr, dr, lr, er⟩
    cases hds_end tr
    have er' : pre = hs.code base (base + s.len) (-1) (base + s.len + 1) D (tnOf tn) := by simpa [Hds.code] using er
    have lr' : pre.length = hs.len := by simpa [Hds.len] using lr
    have lrv : (rv.length : Int) = s.len + 1 + hs.len := by rw [trv.length]; simp [Sm.code_len]; omega
    refine ⟨_, rfl, _, rfl, rr, rv, rfl, .inl (SqL.of hrr), _, _, rfl, rfl, ?_⟩
    have eZ : base + rv.length = base + s.len + 1 + hs.len := by omega
    refine ⟨_, rfl, rr, rfl, ⟨_, SqL.of hrr⟩, fun L hL => ?_⟩
    have hfill : ((s.code base D (tnOf tn)) ++ [Rw.go (-1)] ++ pre).map (subG (base + s.len + 1 + hs.len)) = (Sm.tri s hs).code base D (tnOf tn) := by
      rw [er', List.map_append, List.map_append, Sm.subG s _ _ _ b0, Hds.fill hs _ _ _ _ _ (by omega)]
      rw [show [Rw.go (-1)].map (subG (base + s.len + 1 + hs.len)) = [.go (base + s.len + 1 + hs.len)] from congrArg (fun z => [z]) (if_pos rfl)]
      simp [Sm.code]
    refine lc_same (K := K) (es := ((Sm.tri s hs).code base D (tnOf tn)).map Rw.d) (SqL.of hrr) trv (by simp [Sm.code_len, Sm.len]; omega) hL (by simp [Sm.code_len]; omega) ?hw ?_ ?_
    case hw => exact fun _ => rfl
    · intro i x d f H4 hd hf s4 tx Q' q'
      rw [List.getElem?_map] at hd hf
      rw [← hfill, List.getElem?_map] at hf
      cases er2 : ((s.code base D (tnOf tn)) ++ [Rw.go (-1)] ++ pre)[i]? with
      | none => rw [er2] at hd; cases hd
      | some rw_ =>
        rw [er2] at hd hf
        obtain rfl : rw_.d = d := Option.some.inj hd
        obtain rfl : (subG (base + s.len + 1 + hs.len) rw_).d = f := Option.some.inj hf
        refine pick_row (r := rw_) (r' := .go (base + s.len + 1 + hs.len)) (mk := .go (-1)) rfl tx ?_ ?_ (Rw.eqv_go _ _) q'
        · intro H5 Q2 s5 k
          refine ⟨_, rfl, (by show 2 ≤ sizeLine; decide), fun p3 hp3 => k p3 _ (Same.new hp3) ?_⟩
          rw [← eZ]
          exact Tp.mk hp3 (.cons (.str _) (.cons (.int _) .nil))
        · intro H5 Q2 s5 k
          exact ⟨_, rfl, (by show 2 ≤ sizeLine; decide), fun p3 hp3 => k p3 _ (Same.new hp3) (Tp.mk hp3 (.cons (.str _) (.cons (.int _) .nil)))⟩
    · intro zs H4 hL4 tz s4
      exact q L zs H4 ((s3.free hL)) hL4 tz (s3.trans s4)
abbrev N_law_plain_code : List Str := ["_law_one", "_law_turn", "_law_word", "_law_rows", "_law_part_here"]
/-- an expression's rows, and one more -/
theorem part_and {σ : L2.St} {H : Hp} {Q2 : VK} {e : Ex} {x : V} {r : Rw} {te tr : TE} (te_ : ∀ Q' : VK, Q' x H → te σ H Q') (tx : Tp K H x e.d) (de : e.dep ≤ 5) (hl : e.len ≤ 100000)
    (tr_ : ∀ (H1 : Hp) (Q' : VK), Same H H1 → (∀ p H2, Same H1 H2 → Tp K H2 (.ref p) r.d → Q' (.ref p) H2) → tr σ H1 Q') (q : NewL K H Q2 (e.code.map Rw.d ++ [r.d])) :
    tOp rCat (tCall (spPartCode K 6) [] E0 (tCons te tNil)) (tLst (tCons tr tNil)) σ H Q2 := by
  refine te_ _ ⟨x, e, rfl, tx, by omega, by omega, fun r1 us H1 hr1 hl1 t1 s1 => ?_⟩
  refine tr_ H1 _ s1 fun p H2 s2 tp => ⟨(by show 1 ≤ sizeLine; decide), fun p2 hp2 => ?_⟩
  have s3 : Same H1 (L2.upd H2 p2 (.lst [.ref p])) := s2.trans (Same.new hp2)
  exact cat_new (K := K) (s3 _ _ hl1) upd_same (t1.mono (Tk.same s3)) (.cons (tp.mono (Tk.new hp2)) .nil) (by simp [Ex.code_len]; omega) (q.mono (s1.trans s3))
theorem rd_plain_code (vs : List V) (H : Hp) (Q : VK) (E : XK) (h : spPlainCode (K := K) vs H Q E) : t_law_plain_code K (spPartCode K 6) { nx := fun _ H' => Q .non H', rt := Q } (start N_law_plain_code vs) H := by
  obtain ⟨v, tv, s, n, base, D, tn, rfl, ht, htn, pl, ok, q⟩ := h
  obtain ⟨cs, nk, hand, ws⟩ := ok.wf
  have hl := ok.len
  cases s with
  | row _ => cases pl
  | ife _ _ _ => cases pl
  | whl _ _ => cases pl
  | tri _ _ => cases pl
  | cln _ _ => cases pl
  | brk =>
    obtain ⟨a, x0, rfl, hT, h0⟩ := ht.tup1
    cases h0.strE
    cases tn with
    | none => exact absurd ws (by simp [Sm.Wf])
    | some t =>
      obtain ⟨c, y0, y1, y2, rfl, hTc, k0, k1, k2⟩ := htn.tup3
      cases k0.intE; cases k1.intE; cases k2.intE
      refine rd_ixT (j := 0) rfl hT rfl ?_
      refine r_ifT (pb_is (pb_eqS rfl) rfl) ?_
      refine rd_ixT (j := 1) rfl hTc rfl (rd_ixT (j := 2) rfl hTc rfl ⟨(by show 3 ≤ sizeLine; decide), fun p hp => ⟨(by show 1 ≤ sizeLine; decide), fun p2 hp2 => ?_⟩⟩)
      exact q p2 _ _ ((Same.new hp).free hp2) upd_same (.cons ((Tp.mk hp (.cons (.str _) (.cons (.int _) (.cons (.int _) .nil)))).mono (Tk.new hp2)) .nil) ((Same.new hp).trans (Same.new hp2))
  | cnt =>
    obtain ⟨a, x0, rfl, hT, h0⟩ := ht.tup1
    cases h0.strE
    cases tn with
    | none => exact absurd ws (by simp [Sm.Wf])
    | some t =>
      obtain ⟨c, y0, y1, y2, rfl, hTc, k0, k1, k2⟩ := htn.tup3
      cases k0.intE; cases k1.intE; cases k2.intE
      refine rd_ixT (j := 0) rfl hT rfl (r_ifF (pb_is (pb_eqS rfl) rfl) (r_ifT (pb_is (pb_eqS rfl) rfl) ?_))
      refine rd_ixT (j := 0) rfl hTc rfl (rd_ixT (j := 2) rfl hTc rfl ⟨(by show 3 ≤ sizeLine; decide), fun p hp => ⟨(by show 1 ≤ sizeLine; decide), fun p2 hp2 => ?_⟩⟩)
      exact q p2 _ _ ((Same.new hp).free hp2) upd_same (.cons ((Tp.mk hp (.cons (.str _) (.cons (.int _) (.cons (.int _) .nil)))).mono (Tk.new hp2)) .nil) ((Same.new hp).trans (Same.new hp2))
  | again =>
    obtain ⟨a, x0, rfl, hT, h0⟩ := id ht.tup1
    cases h0.strE
    refine rd_ixT (j := 0) rfl hT rfl (r_ifF (pb_is (pb_eqS rfl) rfl) (r_ifF (pb_is (pb_eqS rfl) rfl) (r_ifT (pb_is (pb_eqS rfl) rfl) ?_)))
    refine ⟨_, rfl, (by show 1 ≤ sizeLine; decide), fun p hp => ?_⟩
    exact q p _ _ hp upd_same (.cons (ht.mono (Tk.new hp)) .nil) (Same.new hp)
  | set k e =>
    obtain ⟨a, x0, x1, x2, rfl, hT, h0, h1, h2⟩ := ht.tup3
    cases h0.strE; cases h1.intE
    have hl' : e.len + 1 ≤ 100000 := hl
    refine rd_ixT (j := 0) rfl hT rfl (r_ifF (pb_is (pb_eqS rfl) rfl) (r_ifF (pb_is (pb_eqS rfl) rfl) (r_ifF (pb_is (pb_eqS rfl) rfl) (r_ifT (pb_is (pb_eqS rfl) rfl) ?_))))
    refine part_and (e := e) (x := x2) (r := .set k) (fun Q' q' => rd_ixT (j := 2) rfl hT rfl q') h2 ws.2.2 (by omega) (fun H1 Q' s1 k1 => rd_ixT (j := 1) rfl (s1.sqT hT) rfl ⟨(by show 2 ≤ sizeLine; decide), fun p hp => k1 p _ (Same.new hp) (Tp.mk hp (.cons (.str _) (.cons (.int _) .nil)))⟩) ?_
    rw [show e.code.map Rw.d ++ [(Rw.set k).d] = ((Sm.set k e).code base D (tnOf tn)).map Rw.d by simp [Sm.code]]
    exact q
  | rais kd e m =>
    obtain ⟨a, x0, x1, x2, x3, rfl, hT, h0, h1, h2, h3⟩ := ht.tup4
    cases h0.strE; cases h1.intE; cases h3.intE
    have hl' : e.len + 1 ≤ 100000 := hl
    refine rd_ixT (j := 0) rfl hT rfl (r_ifF (pb_is (pb_eqS rfl) rfl) (r_ifF (pb_is (pb_eqS rfl) rfl) (r_ifF (pb_is (pb_eqS rfl) rfl) (r_ifF (pb_is (pb_eqS rfl) rfl) (r_ifT (pb_is (pb_eqS rfl) rfl) ?_)))))
    refine part_and (e := e) (x := x2) (r := .rais kd m) (fun Q' q' => rd_ixT (j := 2) rfl hT rfl q') h2 ws.2.1.2 (by omega) (fun H1 Q' s1 k1 => rd_ixT (j := 1) rfl (s1.sqT hT) rfl (rd_ixT (j := 3) rfl (s1.sqT hT) rfl ⟨(by show 3 ≤ sizeLine; decide), fun p hp => k1 p _ (Same.new hp) (Tp.mk hp (.cons (.str _) (.cons (.int _) (.cons (.int _) .nil))))⟩)) ?_
    rw [show e.code.map Rw.d ++ [(Rw.rais kd m).d] = ((Sm.rais kd e m).code base D (tnOf tn)).map Rw.d by simp [Sm.code]]
    exact q
  | say e =>
    obtain ⟨a, x0, x1, rfl, hT, h0, h1⟩ := ht.tup2
    cases h0.strE
    have hl' : e.len + 1 ≤ 100000 := hl
    refine rd_ixT (j := 0) rfl hT rfl (r_ifF (pb_is (pb_eqS rfl) rfl) (r_ifF (pb_is (pb_eqS rfl) rfl) (r_ifF (pb_is (pb_eqS rfl) rfl) (r_ifF (pb_is (pb_eqS rfl) rfl) (r_ifF (pb_is (pb_eqS rfl) rfl) (r_ifF (pb_is (pb_eqS rfl) rfl) ?_))))))
    refine part_and (e := e) (x := x1) (r := .say) (fun Q' q' => rd_ixT (j := 1) rfl hT rfl q') h1 ws.2 (by omega) (fun H1 Q' s1 k1 => ⟨_, rfl, (by show 1 ≤ sizeLine; decide), fun p hp => k1 p _ (Same.new hp) (Tp.mk hp (.cons (.str _) .nil))⟩) ?_
    rw [show e.code.map Rw.d ++ [Rw.say.d] = ((Sm.say e).code base D (tnOf tn)).map Rw.d by simp [Sm.code]]
    exact q
  | ret e =>
    obtain ⟨a, x0, x1, rfl, hT, h0, h1⟩ := ht.tup2
    cases h0.strE
    have hl' : e.len + 1 ≤ 100000 := hl
    refine rd_ixT (j := 0) rfl hT rfl (r_ifF (pb_is (pb_eqS rfl) rfl) (r_ifF (pb_is (pb_eqS rfl) rfl) (r_ifF (pb_is (pb_eqS rfl) rfl) (r_ifF (pb_is (pb_eqS rfl) rfl) (r_ifF (pb_is (pb_eqS rfl) rfl) (r_ifF (pb_is (pb_eqS rfl) rfl) ?_))))))
    refine part_and (e := e) (x := x1) (r := .ret) (fun Q' q' => rd_ixT (j := 1) rfl hT rfl q') h1 ws.2 (by omega) (fun H1 Q' s1 k1 => ⟨_, rfl, (by show 1 ≤ sizeLine; decide), fun p hp => k1 p _ (Same.new hp) (Tp.mk hp (.cons (.str _) .nil))⟩) ?_
    rw [show e.code.map Rw.d ++ [Rw.ret.d] = ((Sm.ret e).code base D (tnOf tn)).map Rw.d by simp [Sm.code]]
    exact q
  | call k f ps m =>
    obtain ⟨a, x0, x1, x2, x3, x4, rfl, hT, h0, h1, h2, h3, h4⟩ := ht.tup5
    cases h0.strE; cases h1.intE; cases h2.intE; cases h4.intE
    obtain ⟨pa, pxs, rfl, hTp, htp⟩ := h3.tupE
    have hl' : exsLen ps + 2 ≤ 100000 := hl
    obtain ⟨_, _, _, wps, _⟩ := ws
    refine rd_ixT (j := 0) rfl hT rfl (r_ifF (pb_is (pb_eqS rfl) rfl) (r_ifF (pb_is (pb_eqS rfl) rfl) (r_ifF (pb_is (pb_eqS rfl) rfl) (r_ifF (pb_is (pb_eqS rfl) rfl) (r_ifF (pb_is (pb_eqS rfl) rfl) (r_ifT (pb_is (pb_eqS rfl) rfl) ?_))))))
    refine ⟨(by show 0 ≤ sizeLine; decide), fun p hp => ?_⟩
    have s0 : Same H (L2.upd H p (.lst [])) := Same.new hp
    refine rd_ixT (j := 3) rfl (s0.sqT hT) rfl ⟨pa, rfl, ⟨_, s0.sqT hTp⟩, for_tup (K := K) (a := pa) (xs := pxs) (fun i σ H' => ∃ (r : List Ex) (pre : List Rw) (rr : Addr) (rv : List V) (v4 : Option V),
        σ = [some (.ref a), some tv, some (.str "call"), some (.ref rr), v4] ∧ Same H H' ∧ H' rr = some (.lst rv) ∧ TpAll K H' rv (pre.map Rw.d) ∧ TpAll K H' (pxs.drop i) (r.map Ex.d) ∧ (∀ e ∈ r, e.dep ≤ 5) ∧ pre.length + exsLen r = exsLen ps ∧ pre ++ exsCode r = exsCode ps)
      ⟨ps, [], p, [], none, rfl, s0, upd_same, .nil, by rw [List.drop_zero]; exact htp.mono (Tk.same s0), fun e he => (wps e he).2, by simp, by simp⟩ (fun i σ H' _ ⟨_, _, _, _, _, _, s', _⟩ => s'.sqT hTp) ?_ ?_⟩
    · rintro i x σ H3 hx ⟨r, pre, rr, rv, v4, rfl, s3, hrr, trv, tr, dr, lr, er⟩
      obtain ⟨e, r', rfl, tx, tr'⟩ := exs_at tr hx
      have lr2 : pre.length + (e.len + exsLen r') = exsLen ps := lr
      refine ⟨_, rfl, _, rfl, x, e, rfl, tx, by have := dr e List.mem_cons_self; omega, by omega, fun r1 us H4 hr1 hl1 t1 s4 => ?_⟩
      refine cat_new (K := K) (s4 _ _ hrr) hl1 (trv.mono (Tk.same s4)) t1 (by simp [Ex.code_len]; omega) fun r2 us2 H5 hr2 hl2 t2 s5 => ?_
      have sZ := s4.trans s5
      exact ⟨r', pre ++ e.code, r2, us2, _, rfl, s3.trans sZ, hl2, by rw [List.map_append]; exact t2, tr'.mono (Tk.same sZ), fun z hz => dr z (List.mem_cons_of_mem _ hz), by simp [Ex.code_len]; omega, by rw [← er]; simp [exsCode]⟩
    · rintro σ H3 ⟨r, pre, rr, rv, v4, rfl, s3, hrr, trv, tr, dr, lr, er⟩
      cases exs_end tr
      have er' : pre = exsCode ps := by simpa [exsCode] using er
      have lp : pxs.length = ps.length := by have := htp.length; rw [List.length_map] at this; exact this
      refine ⟨_, rfl, rd_ixT (j := 2) rfl (s3.sqT hT) rfl (rd_ixT (j := 3) rfl (s3.sqT hT) rfl ⟨pa, pxs, rfl, .inr (s3.sqT hTp), rd_ixT (j := 4) rfl (s3.sqT hT) rfl ⟨(by show 4 ≤ sizeLine; decide), fun p1 hp1 => ?_⟩⟩)⟩
      have s4 : Same H3 (L2.upd H3 p1 (.tup [.str "call", .int (f : Int), .int (pxs.length : Int), .int m])) := Same.new hp1
      refine rd_ixT (j := 1) rfl ((s3.trans s4).sqT hT) rfl ⟨(by show 2 ≤ sizeLine; decide), fun p2 hp2 => ⟨(by show 2 ≤ sizeLine; decide), fun p3 hp3 => ?_⟩⟩
      have s5 : Same H3 (L2.upd (L2.upd (L2.upd H3 p1 (.tup [.str "call", .int (f : Int), .int (pxs.length : Int), .int m])) p2 (.tup [.str "set", .int (k : Int)])) p3 (.lst [.ref p1, .ref p2])) := (s4.trans (Same.new hp2)).trans (Same.new hp3)
      refine cat_new (K := K) (ds := (exsCode ps).map Rw.d) (es := [(Rw.call f ps.length m).d, (Rw.set k).d]) (s5 _ _ hrr) upd_same (by rw [← er']; exact trv.mono (Tk.same s5)) (.cons ?_ (.cons ?_ .nil)) (by simp [exsCode_len]; omega) ?_
      · rw [← lp]
        exact ((Tp.mk hp1 (.cons (.str _) (.cons (.int _) (.cons (.int _) (.cons (.int _) .nil))))).mono (Tk.new hp2)).mono (Tk.new hp3)
      · exact (Tp.mk hp2 (.cons (.str _) (.cons (.int _) .nil))).mono (Tk.new hp3)
      · rw [show (exsCode ps).map Rw.d ++ [(Rw.call f ps.length m).d, (Rw.set k).d] = ((Sm.call k f ps m).code base D (tnOf tn)).map Rw.d by simp [Sm.code]]
        exact q.mono (s3.trans s5)
abbrev N_law_code : List Str := ["_law_one", "_law_base", "_law_depth", "_law_turn", "_law_word", "_law_rows", "_law_part_here"]
theorem rd_code {n : Nat} (vs : List V) (H : Hp) (Q : VK) (E : XK) (h : spCode (K := K) (n + 1) vs H Q E) : t_law_code K (spCode (K := K) n) (spIfCode (K := K) n) (spLoopCode (K := K) n) (spTryCode (K := K) n) (spCleanCode (K := K) n) (spPlainCode (K := K)) { nx := fun _ H' => Q .non H', rt := Q } (start N_law_code vs) H := by
  obtain ⟨v, tv, s, base, D, tn, rfl, ht, htn, ok, q⟩ := h
  have word : ∀ (a : Addr) (xs : List V) (w : Str), v = .ref a → SqT K H a xs → xs[0]? = some (.str w) → (V.str w ≠ .str "row" ∧ V.str w ≠ .str "if" ∧ V.str w ≠ .str "while" ∧ V.str w ≠ .str "try" ∧ V.str w ≠ .str "clean") → s.plain = true → t_law_code K (spCode (K := K) n) (spIfCode (K := K) n) (spLoopCode (K := K) n) (spTryCode (K := K) n) (spCleanCode (K := K) n) (spPlainCode (K := K)) { nx := fun _ H' => Q .non H', rt := Q } (start N_law_code [v, .int base, .int D, tv]) H := by
    rintro a xs w rfl hT hw ⟨n1, n2, n3, n4, n5⟩ pl
    refine rd_ixT (j := 0) rfl hT hw (r_ifF (pb_is (pb_eqS rfl) (dF n1)) (r_ifF (pb_is (pb_eqS rfl) (dF n2)) (r_ifF (pb_is (pb_eqS rfl) (dF n3)) (r_ifF (pb_is (pb_eqS rfl) (dF n4)) (r_ifF (pb_is (pb_eqS rfl) (dF n5)) ?_)))))
    exact ⟨_, rfl, _, rfl, _, tv, s, n + 1, base, D, tn, rfl, ht, htn, pl, ok, q⟩
  cases s with
  | say e =>
    obtain ⟨a, x0, x1, rfl, hT, h0, h1⟩ := id ht.tup2
    cases h0.strE
    exact word a _ "say" rfl hT rfl (by decide) rfl
  | set k e =>
    obtain ⟨a, x0, x1, x2, rfl, hT, h0, h1, h2⟩ := id ht.tup3
    cases h0.strE
    exact word a _ "set" rfl hT rfl (by decide) rfl
  | brk =>
    obtain ⟨a, x0, rfl, hT, h0⟩ := id ht.tup1
    cases h0.strE
    exact word a _ "break" rfl hT rfl (by decide) rfl
  | cnt =>
    obtain ⟨a, x0, rfl, hT, h0⟩ := id ht.tup1
    cases h0.strE
    exact word a _ "continue" rfl hT rfl (by decide) rfl
  | again =>
    obtain ⟨a, x0, rfl, hT, h0⟩ := id ht.tup1
    cases h0.strE
    exact word a _ "again" rfl hT rfl (by decide) rfl
  | ret e =>
    obtain ⟨a, x0, x1, rfl, hT, h0, h1⟩ := id ht.tup2
    cases h0.strE
    exact word a _ "return" rfl hT rfl (by decide) rfl
  | call k f ps m =>
    obtain ⟨a, x0, x1, x2, x3, x4, rfl, hT, h0, h1, h2, h3, h4⟩ := id ht.tup5
    cases h0.strE
    exact word a _ "call" rfl hT rfl (by decide) rfl
  | rais kd e m =>
    obtain ⟨a, x0, x1, x2, x3, rfl, hT, h0, h1, h2, h3⟩ := id ht.tup4
    cases h0.strE
    exact word a _ "raise" rfl hT rfl (by decide) rfl
  | ife e s t =>
    obtain ⟨a, x0, x1, x2, x3, rfl, hT, h0, h1, h2, h3⟩ := id ht.tup4
    cases h0.strE
    refine rd_ixT (j := 0) rfl hT rfl (r_ifF (pb_is (pb_eqS rfl) rfl) (r_ifT (pb_is (pb_eqS rfl) rfl) ?_))
    exact ⟨_, rfl, _, rfl, _, rfl, _, rfl, _, tv, e, s, t, base, D, tn, rfl, ht, htn, ok, q⟩
  | whl e s =>
    obtain ⟨a, x0, x1, x2, rfl, hT, h0, h1, h2⟩ := id ht.tup3
    cases h0.strE
    refine rd_ixT (j := 0) rfl hT rfl (r_ifF (pb_is (pb_eqS rfl) rfl) (r_ifF (pb_is (pb_eqS rfl) rfl) (r_ifT (pb_is (pb_eqS rfl) rfl) ?_)))
    exact ⟨_, rfl, _, rfl, _, rfl, _, e, s, base, D, tn, rfl, ht, ok, q⟩
  | tri s hs =>
    obtain ⟨a, x0, x1, x2, rfl, hT, h0, h1, h2⟩ := id ht.tup3
    cases h0.strE
    refine rd_ixT (j := 0) rfl hT rfl (r_ifF (pb_is (pb_eqS rfl) rfl) (r_ifF (pb_is (pb_eqS rfl) rfl) (r_ifF (pb_is (pb_eqS rfl) rfl) (r_ifT (pb_is (pb_eqS rfl) rfl) ?_))))
    exact ⟨_, rfl, _, rfl, _, rfl, _, rfl, _, tv, s, hs, base, D, tn, rfl, ht, htn, ok, q⟩
  | cln s c =>
    obtain ⟨a, x0, x1, x2, rfl, hT, h0, h1, h2⟩ := id ht.tup3
    cases h0.strE
    refine rd_ixT (j := 0) rfl hT rfl (r_ifF (pb_is (pb_eqS rfl) rfl) (r_ifF (pb_is (pb_eqS rfl) rfl) (r_ifF (pb_is (pb_eqS rfl) rfl) (r_ifF (pb_is (pb_eqS rfl) rfl) (r_ifT (pb_is (pb_eqS rfl) rfl) ?_)))))
    exact ⟨_, rfl, _, rfl, _, rfl, _, rfl, _, tv, s, c, base, D, tn, rfl, ht, htn, ok, q⟩
  | row ps =>
    obtain ⟨a, x0, x1, rfl, hT, h0, h1⟩ := id ht.tup2
    cases h0.strE
    obtain ⟨pa, pxs, rfl, hTp, htp⟩ := h1.tupE
    obtain ⟨cs, nk, hand, ws⟩ := ok.wf
    have hd : ps.dep + 1 ≤ n + 1 := ok.dep
    have hl : ps.len ≤ 100000 := ok.len
    have b0 := ok.b0
    refine rd_ixT (j := 0) rfl hT rfl (r_ifT (pb_is (pb_eqS rfl) rfl) ⟨(by show 0 ≤ sizeLine; decide), fun p hp => ?_⟩)
    have s0 : Same H (L2.upd H p (.lst [])) := Same.new hp
    refine rd_ixT (j := 1) rfl (s0.sqT hT) rfl ⟨pa, rfl, ⟨_, s0.sqT hTp⟩, for_tup (K := K) (a := pa) (xs := pxs) (fun i σ H' => ∃ (r : Sms) (pre : List Rw) (rr : Addr) (rv : List V) (v6 : Option V),
        σ = [some (.ref a), some (.int base), some (.int D), some tv, some (.str "row"), some (.ref rr), v6] ∧ H rr = none ∧ Same H H' ∧ H' rr = some (.lst rv) ∧ TpAll K H' rv (pre.map Rw.d) ∧ TpAll K H' (pxs.drop i) r.ds ∧ r.Wf cs nk tn.isSome hand ∧ r.dep ≤ n ∧ pre.length + r.len = ps.len ∧ pre ++ r.code (base + pre.length) D (tnOf tn) = ps.code base D (tnOf tn))
      ⟨ps, [], p, [], none, rfl, hp, s0, upd_same, .nil, by rw [List.drop_zero]; exact htp.mono (Tk.same s0), ws, by omega, by simp, by simp⟩ (fun i σ H' _ ⟨_, _, _, _, _, _, _, s', _⟩ => s'.sqT hTp) ?_ ?_⟩
    · rintro i x σ H3 hx ⟨r, pre, rr, rv, v6, rfl, hnn, s3, hrr, trv, tr, wr, dr, lr, er⟩
      obtain ⟨s, r', rfl, tx, tr'⟩ := sms_at tr hx
      obtain ⟨w1, w2⟩ : s.Wf cs nk tn.isSome hand ∧ r'.Wf cs nk tn.isSome hand := wr
      have dr2 : max s.dep r'.dep ≤ n := dr
      have lr2 : pre.length + (s.len + r'.len) = ps.len := lr
      have lrv : rv.length = pre.length := by rw [trv.length, List.length_map]
      refine ⟨_, rfl, _, rfl, _, rfl, _, rfl, rr, rv, rfl, .inl (SqL.of hrr), _, _, rfl, rfl, _, rfl, _, rfl, ?_⟩
      rw [lrv]
      refine ⟨x, tv, s, base + pre.length, D, tn, rfl, tx, htn.mono (Tk.same s3), ⟨⟨cs, nk, hand, w1⟩, by omega, by omega, by omega, ok.tn0⟩, fun r1 us H4 hr1 hl1 t1 s4 => ?_⟩
      refine cat_new (K := K) (s4 _ _ hrr) hl1 (trv.mono (Tk.same s4)) t1 (by simp [Sm.code_len]; omega) fun r2 us2 H5 hr2 hl2 t2 s5 => ?_
      have sZ := s4.trans s5
      refine ⟨r', pre ++ s.code (base + pre.length) D (tnOf tn), r2, us2, _, rfl, (s3.trans s4).free hr2, s3.trans sZ, hl2, by rw [List.map_append]; exact t2, tr'.mono (Tk.same sZ), w2, by omega, by simp [Sm.code_len]; omega, ?_⟩
      rw [← er]
      have e9 : base + ((pre ++ s.code (base + pre.length) D (tnOf tn)).length : Int) = base + pre.length + s.len := by simp [Sm.code_len]; omega
      rw [e9]
      simp [Sms.code]
    · rintro σ H3 ⟨r, pre, rr, rv, v6, rfl, hnn, s3, hrr, trv, tr, wr, dr, lr, er⟩
      cases sms_end tr
      have er' : pre = ps.code base D (tnOf tn) := by simpa [Sms.code] using er
      refine ⟨_, rfl, q rr rv H3 hnn hrr (by rw [show (Sm.row ps).code base D (tnOf tn) = ps.code base D (tnOf tn) from rfl, ← er']; exact trv) s3⟩
/-! ### _law_table, _law_coded -/
/-- a new tuple of these; all stands -/
def NewT (K : PySem.W.Frag) (H : Hp) (Q : VK) (d : PyData) : Prop := ∀ (v : V) (H' : Hp), Tp K H' v d → Same H H' → Q v H'
def spTable : Sp := fun vs H Q _ => ∃ (v : V) (rows : List Rw), vs = [v] ∧ Tp K H v (.tuple (rows.map Rw.d)) ∧ rows.length ≤ 200000 ∧ NewT K H Q (.tuple ((tabAt 0 rows).map Tb.d))
theorem tab_take {rows : List Rw} {i : Nat} {r : Rw} (h : rows[i]? = some r) : tabAt 0 (rows.take (i + 1)) = tabAt 0 (rows.take i) ++ tbOf (i : Int) r := by
  have hi := (List.getElem?_eq_some_iff.mp h).1
  rw [List.take_succ, h]
  show tabAt 0 (rows.take i ++ [r]) = _
  rw [tabAt_app, List.length_take, Nat.min_eq_left (by omega)]
  simp [tabAt]
/-- what a row adds to a table, by its data -/
theorem row_word (r : Rw) : (∃ b x k D, r = .hand b x k D) ∨ (∃ b x D, r = .cup b x D) ∨ ((∀ p, tbOf p r = []) ∧ ∃ w ds, r.d = .tuple (.str w :: ds) ∧ V.str w ≠ .str "handler" ∧ V.str w ≠ .str "cleanup") := by
  cases r with
  | hand b x k D => exact .inl ⟨b, x, k, D, rfl⟩
  | cup b x D => exact .inr (.inl ⟨b, x, D, rfl⟩)
  | op o => exact .inr (.inr ⟨fun _ => rfl, o.s, _, rfl, by cases o <;> decide, by cases o <;> decide⟩)
  | _ => exact .inr (.inr ⟨fun _ => rfl, _, _, rfl, by decide, by decide⟩)
abbrev N_law_table : List Str := ["_law_rows", "_law_table_here", "_law_k", "_law_row"]
theorem rd_table (vs : List V) (H : Hp) (Q : VK) (E : XK) (h : spTable (K := K) vs H Q E) : t_law_table K { nx := fun _ H' => Q .non H', rt := Q } (start N_law_table vs) H := by
  obtain ⟨v, rows, rfl, ht, hz, q⟩ := h
  obtain ⟨a, xs, rfl, hT, hts⟩ := ht.tupE
  have lx : xs.length = rows.length := by rw [hts.length, List.length_map]
  refine ⟨(by show 0 ≤ sizeLine; decide), fun p hp => ?_⟩
  have s0 : Same H (L2.upd H p (.lst [])) := Same.new hp
  refine ⟨_, rfl, a, xs, rfl, .inr (s0.sqT hT), _, rfl, by omega, by omega, for_range (lo := 0) (n := ((xs.length : Int)).toNat) (fun i σ H' => ∃ (tv : List V) (v2 v3 : Option V), σ = [some (.ref a), some (.ref p), v2, v3] ∧ Same H H' ∧ H' p = some (.lst tv) ∧ TpAll K H' tv ((tabAt 0 (rows.take i)).map Tb.d))
    ⟨[], none, none, rfl, s0, upd_same, by simp [tabAt]; exact .nil⟩ ?_ ?_⟩
  · rintro i σ H1 hi ⟨tv, v2, v3, rfl, s1, hp1, tt⟩
    have hi2 : i < rows.length := by omega
    have er : rows[i]? = some rows[i] := List.getElem?_eq_getElem hi2
    have ed : (rows.map Rw.d)[i]? = some (rows[i]).d := by rw [List.getElem?_map, er]; rfl
    obtain ⟨x, hx, tx⟩ := hts.get' ed
    have tx1 := tx.mono (Tk.same s1)
    have e0 : (0 : Int) + (i : Int) = (i : Int) := by omega
    have etk := tab_take er
    have ltv : tv.length < 1000000 := by
      have h1 := tt.length
      rw [List.length_map] at h1
      have h2 := tabAt_len (rows.take i) 0
      rw [List.length_take] at h2
      omega
    rw [e0]
    have fin : ∀ (t : Tb) (ws : List V) (ds : List PyData), tbOf (i : Int) rows[i] = [t] → t.d = .tuple ds → ∀ (H2 : Hp), Same H1 H2 → TpAll K H2 ws ds → ∀ p2, H2 p2 = none → H2 p = some (.lst tv) → ∃ (tv' : List V) (v2 v3 : Option V), [some (V.ref a), some (.ref p), some (.int (i : Int)), some x] = [some (.ref a), some (.ref p), v2, v3] ∧ Same H (L2.upd (L2.upd H2 p2 (.tup ws)) p (.lst (tv ++ [.ref p2]))) ∧
        (L2.upd (L2.upd H2 p2 (.tup ws)) p (.lst (tv ++ [.ref p2]))) p = some (.lst tv') ∧ TpAll K (L2.upd (L2.upd H2 p2 (.tup ws)) p (.lst (tv ++ [.ref p2]))) tv' ((tabAt 0 (rows.take (i + 1))).map Tb.d) := by
      intro t ws ds et ed2 H2 s2 tw p2 hp2 hpp
      have s3 : Same H1 (L2.upd H2 p2 (.tup ws)) := s2.trans (Same.new hp2)
      refine ⟨tv ++ [.ref p2], _, _, rfl, fun b u e => by rw [upd_ne (ne_of_none e hp)]; exact s3 b u (s1 b u e), upd_same, ?_⟩
      rw [etk, et, List.map_append]
      have : Tp K (L2.upd H2 p2 (.tup ws)) (.ref p2) t.d := by rw [ed2]; exact Tp.mk hp2 tw
      exact ((tt.mono (Tk.same s3)).snoc this).mono (Tk.lst (by rw [upd_ne (ne_of_none hpp hp2)]; exact hpp))
    refine ⟨_, rfl, _, rfl, a, xs, _, x, rfl, rfl, s1.sqT hT, atI_nat hx, ?_⟩
    rcases row_word rows[i] with ⟨b, y, k, D, e⟩ | ⟨b, y, D, e⟩ | ⟨enil, w, ds, e, n1, n2⟩
    · rw [e] at tx1
      obtain ⟨ax, y0, y1, y2, y3, y4, rfl, hTx, k0, k1, k2, k3, k4⟩ := tx1.tup5
      cases k0.strE; cases k1.intE; cases k2.intE; cases k4.intE
      refine rd_ixT (j := 0) rfl hTx rfl ⟨rfl, _, rfl, ifT rfl ?_⟩
      refine ⟨_, rfl, .inl ⟨rfl, _, SqL.of hp1⟩, rd_ixT (j := 1) rfl hTx rfl (rd_ixT (j := 2) rfl hTx rfl (rd_ixT (j := 3) rfl hTx rfl ⟨_, rfl, rd_ixT (j := 4) rfl hTx rfl ⟨(by show 6 ≤ sizeLine; decide), fun p2 hp2 => ?_⟩⟩))⟩
      have pp : L2.upd H1 p2 (.tup [.int b, .int y, .str "handler", y3, .int (i : Int), .int D]) p = some (.lst tv) := by rw [upd_ne (ne_of_none hp1 hp2)]; exact hp1
      refine ⟨p, tv, _, rfl, rfl, pp, sz_lt1 ltv, ?_⟩
      obtain ⟨tv', w2, w3, z1, z2, z3, z4⟩ := fin ⟨b, y, some k, i, D⟩ [.int b, .int y, .str "handler", y3, .int (i : Int), .int D] _ (by rw [e]; rfl) rfl H1 (Same.refl _) (.cons (.int _) (.cons (.int _) (.cons (.str _) (.cons k3 (.cons (.int _) (.cons (.int _) .nil)))))) p2 hp2 hp1
      -- the second look: not a cleanup
      refine rd_ixT (j := 0) rfl (Tk.sqT (Tk.trans (Tk.new hp2) (Tk.lst pp)) hTx) rfl ⟨rfl, _, rfl, ifF rfl ?_⟩
      exact ⟨tv', w2, w3, z1, z2, z3, z4⟩
    · rw [e] at tx1
      obtain ⟨ax, y0, y1, y2, y3, rfl, hTx, k0, k1, k2, k3⟩ := tx1.tup4
      cases k0.strE; cases k1.intE; cases k2.intE; cases k3.intE
      refine rd_ixT (j := 0) rfl hTx rfl ⟨rfl, _, rfl, ifF rfl ?_⟩
      refine rd_ixT (j := 0) rfl hTx rfl ⟨rfl, _, rfl, ifT rfl ?_⟩
      refine ⟨_, rfl, .inl ⟨rfl, _, SqL.of hp1⟩, rd_ixT (j := 1) rfl hTx rfl (rd_ixT (j := 2) rfl hTx rfl ⟨_, rfl, rd_ixT (j := 3) rfl hTx rfl ⟨(by show 6 ≤ sizeLine; decide), fun p2 hp2 => ?_⟩⟩)⟩
      have pp : L2.upd H1 p2 (.tup [.int b, .int y, .str "cleanup", .non, .int (i : Int), .int D]) p = some (.lst tv) := by rw [upd_ne (ne_of_none hp1 hp2)]; exact hp1
      refine ⟨p, tv, _, rfl, rfl, pp, sz_lt1 ltv, ?_⟩
      exact fin ⟨b, y, none, i, D⟩ [.int b, .int y, .str "cleanup", .non, .int (i : Int), .int D] _ (by rw [e]; rfl) rfl H1 (Same.refl _) (.cons (.int _) (.cons (.int _) (.cons (.str _) (.cons .non (.cons (.int _) (.cons (.int _) .nil)))))) p2 hp2 hp1
    · rw [e] at tx1
      obtain ⟨ax, ys, rfl, hTx, tys⟩ := tx1.tupE
      obtain ⟨y0, yr, rfl, k0, _⟩ := tys.consE
      cases k0.strE
      refine rd_ixT (j := 0) rfl hTx rfl ⟨rfl, _, rfl, ifF (dF n1) ?_⟩
      refine rd_ixT (j := 0) rfl hTx rfl ⟨rfl, _, rfl, ifF (dF n2) ?_⟩
      exact ⟨tv, _, _, rfl, s1, hp1, by rw [etk, enil, List.append_nil]; exact tt⟩
  · rintro σ H1 ⟨tv, v2, v3, rfl, s1, hp1, tt⟩
    rw [List.take_of_length_le (by omega)] at tt
    refine ⟨_, rfl, p, tv, rfl, .inl ⟨SqL.of hp1, fun p2 hp2 => ?_⟩⟩
    exact q (.ref p2) _ (Tp.mk hp2 tt) (s1.trans (Same.new hp2))
/-- a program that may be coded -/
structure PgC (p : Pg) (n : Nat) : Prop where
  body : ∀ f ∈ p.funs, CodeOk f.2 n none 0
  few : p.funs.length ≤ 1000
def spCodedL (n : Nat) : Sp := fun vs H Q _ => ∃ (v : V) (p : Pg), vs = [v] ∧ Tp K H v p.d ∧ PgC p n ∧ NewT K H Q (codeD p.code)
abbrev N_law_coded : List Str := ["_law_program_here", "_law_code_here", "_law_function", "_law_rows"]
theorem rd_law_coded {n : Nat} (vs : List V) (H : Hp) (Q : VK) (E : XK) (h : spCodedL (K := K) n vs H Q E) : t_law_coded K (spCode (K := K) n) (spTable (K := K)) { nx := fun _ H' => Q .non H', rt := Q } (start N_law_coded vs) H := by
  obtain ⟨v, p, rfl, ht, ok, q⟩ := h
  obtain ⟨a, x0, x1, rfl, hT, h0, h1⟩ := ht.tup2
  obtain ⟨fa, fxs, rfl, hTf, htf⟩ := h1.tupE
  have lx : fxs.length = p.funs.length := by rw [htf.length, List.length_map]
  refine ⟨(by show 0 ≤ sizeLine; decide), fun c hc => ?_⟩
  have s0 : Same H (L2.upd H c (.lst [])) := Same.new hc
  refine rd_ixT (j := 1) rfl (s0.sqT hT) rfl ⟨fa, rfl, ⟨_, s0.sqT hTf⟩, for_tup (K := K) (a := fa) (xs := fxs) (fun i σ H' => ∃ (cv : List V) (v2 v3 : Option V), σ = [some (.ref a), some (.ref c), v2, v3] ∧ Same H H' ∧ H' c = some (.lst cv) ∧ TpAll K H' cv ((p.code.take i).map Fc.d))
    ⟨[], none, none, rfl, s0, upd_same, .nil⟩ (fun i σ H' _ ⟨_, _, _, _, s', _⟩ => s'.sqT hTf) ?_ ?_⟩
  · rintro i x σ H1 hx ⟨cv, v2, v3, rfl, s1, hc1, tc⟩
    obtain ⟨d, hd, td⟩ := htf.get hx
    rw [List.getElem?_map] at hd
    cases ef : p.funs[i]? with
    | none => rw [ef] at hd; cases hd
    | some f =>
      rw [ef] at hd
      obtain rfl : funD f = d := Option.some.inj hd
      obtain ⟨ax, y0, y1, rfl, hTx, k0, k1⟩ := td.tup2
      cases k0.intE
      have okf := ok.body f (List.mem_of_getElem? ef)
      have hlen : f.2.len ≤ 100000 := okf.len
      have ilt : i < 1000 := by
        have := (List.getElem?_eq_some_iff.mp ef).1
        have := ok.few
        omega
      refine rd_ixT (j := 1) rfl (s1.sqT hTx) rfl ⟨y1, .non, f.2, 0, 0, none, rfl, k1.mono (Tk.same s1), .non, okf, fun r us H2 hr hl2 t2 s2 => ⟨(by show 2 ≤ sizeLine; decide), fun p1 hp1 => ⟨(by show 1 ≤ sizeLine; decide), fun p2 hp2 => ⟨(by show 2 ≤ sizeLine; decide), fun p3 hp3 => ?_⟩⟩⟩⟩
      have s3 : Same H2 (L2.upd (L2.upd (L2.upd H2 p1 (.tup [.str "num", .int 0])) p2 (.tup [.str "return"])) p3 (.lst [.ref p1, .ref p2])) := ((Same.new hp1).trans (Same.new hp2)).trans (Same.new hp3)
      refine cat_new (K := K) (es := [(Rw.num 0).d, Rw.ret.d]) (s3 _ _ hl2) upd_same (t2.mono (Tk.same s3)) (.cons (((Tp.mk hp1 (.cons (.str _) (.cons (.int _) .nil))).mono (Tk.new hp2)).mono (Tk.new hp3)) (.cons ((Tp.mk hp2 (.cons (.str _) .nil)).mono (Tk.new hp3)) .nil)) (by simp [Sm.code_len]; omega) fun r4 ws4 H4 hr4 hl4 t4 s4 => ?_
      have s14 := (s2.trans s3).trans s4
      refine ⟨r4, ws4, rfl, .inl ⟨SqL.of hl4, fun p5 hp5 => ?_⟩⟩
      have s5 : Same H1 (L2.upd H4 p5 (.tup ws4)) := s14.trans (Same.new hp5)
      have tR : Tp K (L2.upd H4 p5 (.tup ws4)) (.ref p5) (.tuple ((bodyRows f.2).map Rw.d)) := by
        rw [show (bodyRows f.2).map Rw.d = (f.2.code 0 0 (tnOf none)).map Rw.d ++ [(Rw.num 0).d, Rw.ret.d] by simp [bodyRows, tnOf]]
        exact Tp.mk hp5 t4
      refine ⟨_, rfl, .inl ⟨rfl, _, SqL.of (s5 _ _ hc1)⟩, rd_ixT (j := 0) rfl ((s1.trans s5).sqT hTx) rfl ⟨_, rfl, _, rfl, .ref p5, bodyRows f.2, rfl, tR, by simp [bodyRows, Sm.code_len]; omega, fun w H6 t6 s6 => ⟨(by show 3 ≤ sizeLine; decide), fun p7 hp7 => ?_⟩⟩⟩
      have hc6 := s6 _ _ (s5 _ _ hc1)
      have hc7 : L2.upd H6 p7 (.tup [.int (f.1 : Int), .ref p5, w]) c = some (.lst cv) := by rw [upd_ne (ne_of_none hc6 hp7)]; exact hc6
      have lcv : cv.length < 1000000 := by
        have := tc.length
        rw [List.length_map, List.length_take] at this
        omega
      have sZ : Same H1 (L2.upd H6 p7 (.tup [.int (f.1 : Int), .ref p5, w])) := (s5.trans s6).trans (Same.new hp7)
      refine ⟨c, cv, _, rfl, rfl, hc7, sz_lt1 lcv, cv ++ [.ref p7], _, _, rfl, fun b u e => by rw [upd_ne (ne_of_none e hc)]; exact sZ b u (s1 b u e), upd_same, ?_⟩
      have ec : p.code[i]? = some ⟨f.1, bodyRows f.2⟩ := by unfold Pg.code; rw [List.getElem?_map, ef]; rfl
      rw [List.take_succ, ec, List.map_append]
      exact ((tc.mono (Tk.same sZ)).snoc (Tp.mk hp7 (.cons (.int _) (.cons (tR.mono (Tk.same s6)) (.cons t6 .nil))))).mono (Tk.lst hc7)
  · rintro σ H1 ⟨cv, v2, v3, rfl, s1, hc1, tc⟩
    rw [List.take_of_length_le (by unfold Pg.code; rw [List.length_map]; omega)] at tc
    refine ⟨_, rfl, c, cv, rfl, .inl ⟨SqL.of hc1, fun p2 hp2 => ?_⟩⟩
    exact q (.ref p2) _ (Tp.mk hp2 tc) (s1.trans (Same.new hp2))
end
end Lp

/-! L4b: the program's coding: Coder, table_of, coded. -/
namespace Lp
open PySem PySem.Spec PyProof.Rows L2
def t_Coder_init (K : PySem.W.Frag) : TS :=
  tSeq (sFld K (tVar 0) (tLst (tNil)) "made") (sFld K (tVar 0) (tLst (tNil)) "turns")

def t_Coder_put (K : PySem.W.Frag) : TS :=
  tSeq (tDrop (tBM K "list" rAppend (tFld K (tVar 0) "made") (tCons (tVar 1) (tNil)))) (tRet (tOp rSbI (tCB (rLenQ K) (tCons (tFld K (tVar 0) "made") (tNil))) (tC (.int 1))))

def t_Coder_part (K : PySem.W.Frag) (C_Coder : Addr) (sp_Coder_put : Sp) (sp_Coder_part : Sp) : TS :=
  tIfS (tTest (tOp (rIn K false) (tOp (rIxT K) (tVar 1) (tC (.int 0))) (tTup (tCons (tC (.str "num")) (tCons (tC (.str "var")) (tNil)))))) (tDrop (tMeth C_Coder "put" sp_Coder_put [] E0 (tVar 0) (tCons (tVar 1) (tNil)))) (tSeq (tDrop (tMeth C_Coder "part" sp_Coder_part [] E0 (tVar 0) (tCons (tOp (rIxT K) (tVar 1) (tC (.int 1))) (tNil)))) (tSeq (tDrop (tMeth C_Coder "part" sp_Coder_part [] E0 (tVar 0) (tCons (tOp (rIxT K) (tVar 1) (tC (.int 2))) (tNil)))) (tDrop (tMeth C_Coder "put" sp_Coder_put [] E0 (tVar 0) (tCons (tTup (tCons (tOp (rIxT K) (tVar 1) (tC (.int 0))) (tNil))) (tNil))))))

/-- what the top has of the class -/
structure CoTxt (K : PySem.W.Frag) (C : Addr) : Prop where
  cl : Cls K C
  made : NoAttr K C "made"
  turns : NoAttr K C "turns"
def cfs (m t : Addr) : List (Str × V) := [("made", .ref m), ("turns", .ref t)]
theorem cfs_made {m t : Addr} : (cfs m t).lookup ("made" : Str) = some (.ref m) := rfl
theorem cfs_turns {m t : Addr} : (cfs m t).lookup ("turns" : Str) = some (.ref t) := rfl
/-- the innermost while under way: its list, its breaks' list, top, depth, the breaks so far -/
structure Wh where
  u : Addr
  pl : Addr
  top : Int
  D : Int
  ps : List Int
def addW (l : List Int) (w : Option Wh) : Option Wh := w.map fun w => { w with ps := w.ps ++ l }
def tnW : Option Wh → Tn
  | none => (0, 0, 0)
  | some w => (w.top, 0, w.D)
theorem tnW_add {l : List Int} {w : Option Wh} : tnW (addW l w) = tnW w := by cases w <;> rfl
theorem addW_nil {w : Option Wh} : addW [] w = w := by cases w <;> simp [addW]
theorem addW_app {l l' : List Int} {w : Option Wh} : addW l' (addW l w) = addW (l ++ l') w := by cases w <;> simp [addW]
theorem addW_some {l : List Int} {w : Option Wh} : (addW l w).isSome = w.isSome := by cases w <;> rfl
/-- what may be changed -/
def BW (m t : Addr) (w : Option Wh) : Addr → Prop := fun a => a = m ∨ a = t ∨ ∃ x, w = some x ∧ a = x.pl
theorem BW_add {m t : Addr} {l : List Int} {w : Option Wh} : BW m t (addW l w) = BW m t w := by
  cases w with
  | none => rfl
  | some w =>
    funext a
    simp [BW, addW]
structure TurnAt (H : Hp) (m t : Addr) (ts : List V) (w : Option Wh) : Prop where
  turns : H t = some (.lst ts)
  tm : t ≠ m
  wh : ∀ x, w = some x → (∃ r, ts = r ++ [.ref x.u]) ∧ H x.u = some (.lst [.int x.top, .int x.D, .ref x.pl]) ∧ H x.pl = some (.lst (x.ps.map V.int)) ∧ x.u ≠ m ∧ x.u ≠ t ∧ x.pl ≠ m ∧ x.pl ≠ t ∧ x.pl ≠ x.u
structure CoSt (K : PySem.W.Frag) (C dx : Addr) (H : Hp) (c m t : Addr) (ts : List V) (w : Option Wh) (R : List Rw) : Prop where
  ins : H c = some (.ins C dx (cfs m t))
  made : ∃ us, H m = some (.lst us) ∧ TpAll K H us (R.map Rw.d)
  trn : TurnAt H m t ts w
  psl : ∀ x, w = some x → x.ps.length ≤ R.length
section
variable {K : PySem.W.Frag} {C dx : Addr} {H H' H1 H2 : Hp} {c m t : Addr} {ts : List V} {w : Option Wh} {R : List Rw}
theorem CoSt.noTup (s : CoSt K C dx H c m t ts w R) : NoTup (BW m t w) H := by
  rintro a (rfl | rfl | ⟨x, rfl, rfl⟩)
  · obtain ⟨us, h, _⟩ := s.made
    exact ⟨_, h, (fun _ z => by cases z), (fun _ _ z => by cases z)⟩
  · exact ⟨_, s.trn.turns, (fun _ z => by cases z), (fun _ _ z => by cases z)⟩
  · exact ⟨_, (s.trn.wh x rfl).2.2.1, (fun _ z => by cases z), (fun _ _ z => by cases z)⟩
theorem CoSt.tk (s : CoSt K C dx H c m t ts w R) (k : Kp (BW m t w) H H') : Tk H H' := k.tk s.noTup
theorem CoSt.tk1 (s : CoSt K C dx H c m t ts w R) (k : Kp (fun x => x = m) H H') : Tk H H' := by
  obtain ⟨us, h, _⟩ := s.made
  exact k.tk1 h
theorem CoSt.cm (s : CoSt K C dx H c m t ts w R) : c ≠ m := by
  obtain ⟨us, h2, _⟩ := s.made
  exact ne_of s.ins h2 (by intro z; cases z)
theorem CoSt.ct (s : CoSt K C dx H c m t ts w R) : c ≠ t := ne_of s.ins s.trn.turns (by intro z; cases z)
theorem CoSt.lst {R' : List Rw} (s : CoSt K C dx H c m t ts w R) (e : R = R') : CoSt K C dx H c m t ts w R' := e ▸ s
theorem CoSt.move {B : Addr → Prop} {R' : List Rw} {us' : List V} (s : CoSt K C dx H c m t ts w R) (k : Kp B H H') (nc : ¬ B c) (nw : ∀ x, w = some x → ¬ B x.u ∧ ¬ B x.pl) (hm : H' m = some (.lst us')) (ht : H' t = some (.lst ts)) (tp : TpAll K H' us' (R'.map Rw.d)) (hl : R.length ≤ R'.length) : CoSt K C dx H' c m t ts w R' := by
  refine ⟨k _ _ s.ins nc, ⟨us', hm, tp⟩, ⟨ht, s.trn.tm, fun x hx => ?_⟩, fun x hx => Nat.le_trans (s.psl x hx) hl⟩
  obtain ⟨h1, h2, h3, h4⟩ := s.trn.wh x hx
  exact ⟨h1, k _ _ h2 (nw x hx).1, k _ _ h3 (nw x hx).2, h4⟩
/-- m and t alone have changed, and t is as it was -/
theorem CoSt.back {R' : List Rw} {us' : List V} (s : CoSt K C dx H c m t ts w R) (k : Kp (fun a => a = m ∨ a = t) H H') (hm : H' m = some (.lst us')) (ht : H' t = some (.lst ts)) (tp : TpAll K H' us' (R'.map Rw.d)) (hl : R.length ≤ R'.length) : CoSt K C dx H' c m t ts w R' :=
  s.move k (fun z => z.elim s.cm s.ct) (fun x hx => by
    obtain ⟨_, _, _, h4, h5, h6, h7, _⟩ := s.trn.wh x hx
    exact ⟨fun z => z.elim h4 h5, fun z => z.elim h6 h7⟩) hm ht tp hl
/-- m alone has changed -/
theorem CoSt.setM {R' : List Rw} {us' : List V} (s : CoSt K C dx H c m t ts w R) (k : Kp (fun x => x = m) H H') (hm : H' m = some (.lst us')) (tp : TpAll K H' us' (R'.map Rw.d)) (hl : R.length ≤ R'.length) : CoSt K C dx H' c m t ts w R' :=
  s.back (k.mono fun _ => .inl) hm (k _ _ s.trn.turns s.trn.tm) tp hl
/-- nothing of it has changed -/
theorem CoSt.same (s : CoSt K C dx H c m t ts w R) (k : Same H H') : CoSt K C dx H' c m t ts w R := by
  obtain ⟨us, h, ht⟩ := s.made
  exact s.setM (Kp.same k) (k _ _ h) (ht.mono (Tk.same k)) (Nat.le_refl _)
/-- p is none of its objects -/
structure Apart (p c m t : Addr) (w : Option Wh) : Prop where
  nc : c ≠ p
  nm : m ≠ p
  nt : t ≠ p
  nw : ∀ x, w = some x → x.u ≠ p ∧ x.pl ≠ p
theorem CoSt.apart (s : CoSt K C dx H c m t ts w R) {p : Addr} (hp : H p = none) : Apart p c m t w := by
  obtain ⟨us, h, _⟩ := s.made
  refine ⟨ne_of_none s.ins hp, ne_of_none h hp, ne_of_none s.trn.turns hp, fun x hx => ?_⟩
  obtain ⟨_, h2, h3, _⟩ := s.trn.wh x hx
  exact ⟨ne_of_none h2 hp, ne_of_none h3 hp⟩
theorem Apart.add {p : Addr} {l : List Int} (a : Apart p c m t w) : Apart p c m t (addW l w) := by
  refine ⟨a.nc, a.nm, a.nt, fun x hx => ?_⟩
  cases w with
  | none => cases hx
  | some y => cases hx; exact a.nw y rfl
theorem CoSt.other {p : Addr} {l : List V} {o : HO} (s : CoSt K C dx H c m t ts w R) (hp : H p = some (.lst l)) (a : Apart p c m t w) : CoSt K C dx (L2.upd H p o) c m t ts w R := by
  obtain ⟨us, h, ht⟩ := s.made
  refine s.move (B := fun x => x = p) (Kp.upd rfl) a.nc a.nw (by rw [upd_ne a.nm]; exact h) (by rw [upd_ne a.nt]; exact s.trn.turns) (ht.mono (Tk.lst hp)) (Nat.le_refl _)
theorem BWm {a : Addr} (h : a = m) : BW m t w a := .inl h
theorem KpW (k : Kp (fun x => x = m) H H') : Kp (BW m t w) H H' := k.mono fun _ => BWm
theorem Kp.narrow {B : Addr → Prop} {p : Addr} (k1 : Kp B H H1) (hp : H1 p = none) (k2 : Kp (fun a => B a ∨ a = p) H1 H2) : Kp B H H2 := fun a o e n => k2 a o (k1 a o e n) fun z => z.elim n (ne_of_none (k1 a o e n) hp)
end
theorem TpAll.set {K : PySem.W.Frag} {H : Hp} : ∀ {vs : List V} {ds : List PyData} {j : Nat} {v : V} {d : PyData}, TpAll K H vs ds → Tp K H v d → TpAll K H (vs.set j v) (ds.set j d)
  | _, _, _, _, _, .nil, _ => .nil
  | _, _, 0, _, _, .cons _ h, h' => .cons h' h
  | _, _, j + 1, _, _, .cons h0 h, h' => .cons h0 (TpAll.set h h')
/-! ### the breaks' places; the handlers' goes -/
mutual
theorem Sm.bks_in : ∀ (s : Sm) (b : Int), ∀ p ∈ s.bks b, b ≤ p ∧ p < b + s.len
  | .row ps, b, p, h => Sms.bks_in ps b p h
  | .ife e s t, b, p, h => by
    show b ≤ p ∧ p < b + ((e.len + 1 + s.len + 1 + t.len : Nat) : Int)
    rcases List.mem_append.mp h with h | h
    · have := Sm.bks_in s _ p h; omega
    · have := Sm.bks_in t _ p h; omega
  | .brk, b, p, h => by
    have : p = b := by simpa [Sm.bks] using h
    show b ≤ p ∧ p < b + ((1 : Nat) : Int)
    omega
  | .tri s hs, b, p, h => by
    show b ≤ p ∧ p < b + ((s.len + 1 + hs.len : Nat) : Int)
    rcases List.mem_append.mp h with h | h
    · have := Sm.bks_in s _ p h; omega
    · have := Hds.bks_in hs _ p h; omega
  | .cln s c, b, p, h => by
    show b ≤ p ∧ p < b + ((s.len + 2 + c.len + 1 : Nat) : Int)
    rcases List.mem_append.mp h with h | h
    · have := Sm.bks_in s _ p h; omega
    · have := Sm.bks_in c _ p h; omega
  | .say _, _, _, h => nomatch h
  | .set _ _, _, _, h => nomatch h
  | .whl _ _, _, _, h => nomatch h
  | .cnt, _, _, h => nomatch h
  | .ret _, _, _, h => nomatch h
  | .call _ _ _ _, _, _, h => nomatch h
  | .rais _ _ _, _, _, h => nomatch h
  | .again, _, _, h => nomatch h
theorem Sms.bks_in : ∀ (s : Sms) (b : Int), ∀ p ∈ s.bks b, b ≤ p ∧ p < b + s.len
  | .nil, _, _, h => nomatch h
  | .cons s r, b, p, h => by
    show b ≤ p ∧ p < b + ((s.len + r.len : Nat) : Int)
    rcases List.mem_append.mp h with h | h
    · have := Sm.bks_in s _ p h; omega
    · have := Sms.bks_in r _ p h; omega
theorem Hds.bks_in : ∀ (s : Hds) (b : Int), ∀ p ∈ s.bks b, b ≤ p ∧ p < b + s.len
  | .nil, _, _, h => nomatch h
  | .cons k x t r, b, p, h => by
    show b ≤ p ∧ p < b + ((2 + t.len + 2 + r.len : Nat) : Int)
    rcases List.mem_append.mp h with h | h
    · have := Sm.bks_in t _ p h; omega
    · have := Hds.bks_in r _ p h; omega
end
mutual
theorem Sm.bks_len : ∀ (s : Sm) (b : Int), (s.bks b).length ≤ s.len
  | .row ps, b => Sms.bks_len ps b
  | .ife e s t, b => by
    have := Sm.bks_len s (b + e.len + 1); have := Sm.bks_len t (b + e.len + 1 + s.len + 1)
    simp only [Sm.bks, Sm.len, List.length_append]; omega
  | .brk, b => Nat.le_refl _
  | .tri s hs, b => by
    have := Sm.bks_len s b; have := Hds.bks_len hs (b + s.len + 1)
    simp only [Sm.bks, Sm.len, List.length_append]; omega
  | .cln s c, b => by
    have := Sm.bks_len s b; have := Sm.bks_len c (b + s.len + 2)
    simp only [Sm.bks, Sm.len, List.length_append]; omega
  | .say _, _ => Nat.zero_le _
  | .set _ _, _ => Nat.zero_le _
  | .whl _ _, _ => Nat.zero_le _
  | .cnt, _ => Nat.zero_le _
  | .ret _, _ => Nat.zero_le _
  | .call _ _ _ _, _ => Nat.zero_le _
  | .rais _ _ _, _ => Nat.zero_le _
  | .again, _ => Nat.zero_le _
theorem Sms.bks_len : ∀ (s : Sms) (b : Int), (s.bks b).length ≤ s.len
  | .nil, _ => Nat.zero_le _
  | .cons s r, b => by
    have := Sm.bks_len s b; have := Sms.bks_len r (b + s.len)
    simp only [Sms.bks, Sms.len, List.length_append]; omega
theorem Hds.bks_len : ∀ (s : Hds) (b : Int), (s.bks b).length ≤ s.len
  | .nil, _ => Nat.zero_le _
  | .cons k x t r, b => by
    have := Sm.bks_len t (b + 2); have := Hds.bks_len r (b + 2 + t.len + 2)
    simp only [Hds.bks, Hds.len, List.length_append]; omega
end
def Hds.gos (at_ : Int) : Hds → List Int
  | .nil => []
  | .cons _ _ t r => (at_ + 2 + t.len + 1) :: r.gos (at_ + 2 + t.len + 2)
theorem Hds.gos_in : ∀ (s : Hds) (b : Int), ∀ p ∈ s.gos b, b ≤ p ∧ p < b + s.len
  | .nil, _, _, h => nomatch h
  | .cons k x t r, b, p, h => by
    show b ≤ p ∧ p < b + ((2 + t.len + 2 + r.len : Nat) : Int)
    rcases List.mem_cons.mp h with h | h
    · omega
    · have := Hds.gos_in r _ p h; omega
theorem Hds.gos_len : ∀ (s : Hds) (b : Int), (s.gos b).length ≤ s.len
  | .nil, _ => Nat.zero_le _
  | .cons k x t r, b => by
    have := Hds.gos_len r (b + 2 + t.len + 2)
    simp only [Hds.gos, Hds.len, List.length_cons]; omega
theorem set_mid {α : Type} {A B : List α} {x y : α} {n : Nat} (h : A.length = n) : (A ++ x :: B).set n y = A ++ y :: B := by
  subst h; simp
theorem Hds.fillG {b x z D : Int} {tn : Tn} : ∀ (hs : Hds) (at_ : Int) (pre post : List Rw), (pre.length : Int) = at_ →
    fillAt (.go z) (hs.gos at_) (pre ++ hs.code b x 0 at_ D tn ++ post) = pre ++ hs.code b x z at_ D tn ++ post
  | .nil, _, _, _, _ => rfl
  | .cons k sl t r, at_, pre, post, h => by
    have h1 : (pre ++ (Hds.cons k sl t r).code b x 0 at_ D tn ++ post).set (at_ + 2 + t.len + 1).toNat (.go z) = (pre ++ ([.hand b x k D, .set sl] ++ t.code (at_ + 2) (D + 1) tn ++ [.settled, .go z])) ++ r.code b x 0 (at_ + 2 + t.len + 2) D tn ++ post := by
      have e : pre ++ (Hds.cons k sl t r).code b x 0 at_ D tn ++ post = (pre ++ ([.hand b x k D, .set sl] ++ t.code (at_ + 2) (D + 1) tn ++ [.settled])) ++ .go 0 :: (r.code b x 0 (at_ + 2 + t.len + 2) D tn ++ post) := by simp [Hds.code]
      rw [e, set_mid (by simp [Sm.code_len]; omega)]
      simp
    have h2 := Hds.fillG r (b := b) (x := x) (z := z) (D := D) (tn := tn) (at_ + 2 + t.len + 2) (pre ++ ([.hand b x k D, .set sl] ++ t.code (at_ + 2) (D + 1) tn ++ [.settled, .go z])) post (by simp [Sm.code_len]; omega)
    show fillAt (.go z) (r.gos _) ((pre ++ (Hds.cons k sl t r).code b x 0 at_ D tn ++ post).set (at_ + 2 + t.len + 1).toNat (.go z)) = _
    rw [h1, h2]
    simp [Hds.code]
theorem fillAt_length (row : Rw) : ∀ (ps : List Int) (l : List Rw), (fillAt row ps l).length = l.length
  | [], _ => rfl
  | p :: ps, l => by
    show (fillAt row ps (l.set p.toNat row)).length = _
    rw [fillAt_length row ps, List.length_set]
theorem fillAt_take (row : Rw) {ps : List Int} {i : Nat} {p : Int} (h : ps[i]? = some p) (l : List Rw) : fillAt row (ps.take (i + 1)) l = (fillAt row (ps.take i) l).set p.toNat row := by
  rw [List.take_succ, h, fillAt_app]; rfl
/-! ### put, part -/
def spCoInit (C : Addr) : Sp := fun vs H Q _ => ∃ (c dx : Addr), vs = [.ref c] ∧ H c = some (.ins C dx []) ∧ ∀ (m t : Addr) (H' : Hp), H m = none → H t = none → t ≠ m → H' c = some (.ins C dx (cfs m t)) → H' m = some (.lst []) → H' t = some (.lst []) → Kp (fun x => x = c) H H' → Q .non H'
structure PutP (C : Addr) (vs : List V) (H : Hp) (Q : VK) : Prop where
  ex : ∃ (c m t dx : Addr) (x : V) (us : List V), vs = [.ref c, x] ∧ H c = some (.ins C dx (cfs m t)) ∧ H m = some (.lst us) ∧ us.length ≤ 500000 ∧ Q (.int (us.length : Int)) (upd H m (.lst (us ++ [x])))
def spPut (C : Addr) : Sp := fun vs H Q _ => PutP C vs H Q
structure PartP (K : PySem.W.Frag) (C : Addr) (n : Nat) (vs : List V) (H : Hp) (Q : VK) : Prop where
  ex : ∃ (c m t dx : Addr) (v : V) (e : Ex) (us : List V) (R : List Rw), vs = [.ref c, v] ∧ H c = some (.ins C dx (cfs m t)) ∧ Tp K H v e.d ∧ e.dep ≤ n ∧ H m = some (.lst us) ∧ TpAll K H us (R.map Rw.d) ∧ R.length + e.len ≤ 500000 ∧
  ∀ (us' : List V) (H' : Hp), H' m = some (.lst us') → TpAll K H' us' ((R ++ e.code).map Rw.d) → Kp (fun x => x = m) H H' → Q .non H'
def spPartC (K : PySem.W.Frag) (C : Addr) (n : Nat) : Sp := fun vs H Q _ => PartP K C n vs H Q
theorem spPartC_zero {K : PySem.W.Frag} {C : Addr} (vs : List V) (H : Hp) (Q : VK) (E : XK) : ¬ spPartC K C 0 vs H Q E := by
  rintro ⟨⟨c, m, t, dx, v, e, us, R, _, _, _, h, _⟩⟩
  cases e <;> simp [Ex.dep] at h
section
variable {K : PySem.W.Frag} {C : Addr}
/-- self.f of a Coder in a slot -/
theorem rFld {σ : L2.St} {H : Hp} {i : Nat} {c m t dx : Addr} {Q : VK} {f : Str} {v : V} (hs : σ[i]? = some (some (.ref c))) (hc : H c = some (.ins C dx (cfs m t))) (cl : Cls K C) (n : NoAttr K C f) (l : (cfs m t).lookup f = some v) (q : Q v H) : tFld K (tVar i) f σ H Q :=
  ⟨_, hs, c, C, dx, _, v, rfl, hc, cl, n, l, q⟩
/-- self.m(..) of a Coder in a slot -/
theorem rMeth {σ : L2.St} {H : Hp} {i : Nat} {c m t dx : Addr} {Q : VK} {f : Str} {sp : Sp} {ta : TA} (hs : σ[i]? = some (some (.ref c))) (hc : H c = some (.ins C dx (cfs m t))) (l : (cfs m t).lookup f = none) (q : ta σ H fun vs H2 => sp (.ref c :: (vs ++ [])) H2 Q E0) : tMeth C f sp [] E0 (tVar i) ta σ H Q :=
  ⟨_, hs, c, dx, _, rfl, hc, l, q⟩
theorem rd_co_init (T : CoTxt K C) (vs : List V) (H : Hp) (Q : VK) (E : XK) (h : spCoInit C vs H Q E) : t_Coder_init K { nx := fun _ H' => Q .non H', rt := Q } (start ["self"] vs) H := by
  obtain ⟨c, dx, rfl, hc, q⟩ := h
  refine ⟨(by show 0 ≤ sizeLine; decide), fun m hm => ⟨_, rfl, c, C, dx, [], rfl, by rw [upd_ne (ne_of_none hc hm)]; exact hc, T.cl, T.made, (by show 0 < 1000; decide), (by show 0 ≤ sizeLine; decide), fun t ht => ?_⟩⟩
  have cm : c ≠ m := ne_of_none hc hm
  have c1 : (L2.upd (L2.upd H m (.lst [])) c (.ins C dx (putF "made" (.ref m) []))) c = some (.ins C dx (putF "made" (.ref m) [])) := upd_same
  have ct : c ≠ t := ne_of_none c1 ht
  have m1 : (L2.upd (L2.upd H m (.lst [])) c (.ins C dx (putF "made" (.ref m) []))) m = some (.lst []) := by rw [upd_ne cm.symm, upd_same]
  have mt : m ≠ t := ne_of_none m1 ht
  have htH : H t = none := by
    have z := ht
    rw [upd_ne ct.symm, upd_ne mt.symm] at z
    exact z
  refine ⟨_, rfl, c, C, dx, _, rfl, by rw [upd_ne ct]; exact c1, T.cl, T.turns, (by show 1 < 1000; decide), ?_⟩
  refine q m t _ hm htH mt.symm (by rw [upd_same]; rfl) (by rw [upd_ne cm.symm, upd_ne mt]; exact m1) (by rw [upd_ne ct.symm, upd_same]) ?_
  intro a o e n
  have am : a ≠ m := ne_of_none e hm
  have at_ : a ≠ t := ne_of_none e htH
  rw [upd_ne n, upd_ne at_, upd_ne n, upd_ne am]
  exact e
theorem rd_put (T : CoTxt K C) (vs : List V) (H : Hp) (Q : VK) (E : XK) (h : spPut C vs H Q E) : t_Coder_put K { nx := fun _ H' => Q .non H', rt := Q } (start ["self", "row"] vs) H := by
  obtain ⟨c, m, t, dx, x, us, rfl, hc, hm, hz, q⟩ := h.ex
  refine ⟨_, rfl, c, C, dx, _, _, rfl, hc, T.cl, T.made, cfs_made, .inl ⟨rfl, _, SqL.of hm⟩, _, rfl, m, us, x, rfl, rfl, hm, sz_lt1 (by omega), ?_⟩
  have cm : c ≠ m := ne_of hc hm (by intro z; cases z)
  have hc1 : L2.upd H m (.lst (us ++ [x])) c = some (.ins C dx (cfs m t)) := by rw [upd_ne cm]; exact hc
  refine ⟨_, rfl, c, C, dx, _, _, rfl, hc1, T.cl, T.made, cfs_made, m, us ++ [x], rfl, .inl (SqL.of upd_same), _, _, rfl, rfl, ?_⟩
  have e : (((us ++ [x]).length : Nat) : Int) - 1 = (us.length : Int) := by simp
  show Q (.int ((((us ++ [x]).length : Nat) : Int) - 1)) _
  rw [e]
  exact q
theorem rd_part (T : CoTxt K C) {n : Nat} (vs : List V) (H : Hp) (Q : VK) (E : XK) (h : spPartC K C (n + 1) vs H Q E) : t_Coder_part K C (spPut C) (spPartC K C n) { nx := fun _ H' => Q .non H', rt := Q } (start ["self", "part"] vs) H := by
  obtain ⟨c, m, t, dx, v, e, us, R, rfl, hc, ht, hd, hm, hts, hz, q⟩ := h.ex
  have lu : us.length = R.length := by rw [hts.length, List.length_map]
  have leaf : ∀ (a : Addr) (x0 x1 : V), v = .ref a → SqT K H a [x0, x1] → (x0 = .str "num" ∨ x0 = .str "var") → e.code.map Rw.d = [e.d] → e.len = 1 → t_Coder_part K C (spPut C) (spPartC K C n) { nx := fun _ H' => Q .non H', rt := Q } (start ["self", "part"] [.ref c, v]) H := by
    rintro a x0 x1 rfl hT hx he hl
    refine rd_ixT (j := 0) rfl hT rfl ⟨(by show 2 ≤ sizeLine; decide), fun p hp => ⟨p, _, rfl, .inr (SqT.of upd_same), ?_⟩⟩
    have f1 : flatV x0 = true := by rcases hx with rfl | rfl <;> rfl
    have f2 : inV x0 ([.str "num", .str "var"] : List V) = true := by rcases hx with rfl | rfl <;> rfl
    refine ⟨f1, rfl, true, by rw [if_neg Bool.false_ne_true, f2], ifT rfl ?_⟩
    have s1 : Same H (L2.upd H p (.tup [.str "num", .str "var"])) := Same.new hp
    refine rMeth rfl (s1 _ _ hc) rfl ⟨_, rfl, c, m, t, dx, .ref a, us, rfl, s1 _ _ hc, s1 _ _ hm, by omega, ?_⟩
    have hm1 := s1 _ _ hm
    refine q (us ++ [.ref a]) _ upd_same ?_ ((Kp.same s1).trans (Kp.upd rfl))
    rw [List.map_append, he]
    exact ((hts.mono (Tk.same s1)).snoc (ht.mono (Tk.same s1))).mono (Tk.lst hm1)
  cases e with
  | num k =>
    obtain ⟨a, x0, x1, rfl, hT, h0, h1⟩ := ht.tup2
    exact leaf a x0 x1 rfl hT (.inl h0.strE) rfl rfl
  | var k =>
    obtain ⟨a, x0, x1, rfl, hT, h0, h1⟩ := ht.tup2
    exact leaf a x0 x1 rfl hT (.inr h0.strE) rfl rfl
  | bin o e1 e2 =>
    obtain ⟨a, x0, x1, x2, rfl, hT, h0, h1, h2⟩ := ht.tup3
    cases h0.strE
    have hd' : max e1.dep e2.dep + 1 ≤ n + 1 := hd
    have hz' : R.length + (e1.len + e2.len + 1) ≤ 500000 := hz
    refine rd_ixT (j := 0) rfl hT rfl ⟨(by show 2 ≤ sizeLine; decide), fun p hp => ⟨p, _, rfl, .inr (SqT.of upd_same), rfl, rfl, false, ?_, ifF rfl ?_⟩⟩
    · rw [if_neg Bool.false_ne_true]; cases o <;> rfl
    have s1 : Same H (L2.upd H p (.tup [.str "num", .str "var"])) := Same.new hp
    have cm : c ≠ m := ne_of hc hm (by intro z; cases z)
    refine rMeth rfl (s1 _ _ hc) rfl (rd_ixT (j := 1) rfl (s1.sqT hT) rfl ⟨c, m, t, dx, x1, e1, us, R, rfl, s1 _ _ hc, h1.mono (Tk.same s1), by omega, s1 _ _ hm, hts.mono (Tk.same s1), by omega, fun us1 H1 hm1 ht1 kp1 => ?_⟩)
    have tk1 : Tk H H1 := (Tk.same s1).trans (kp1.tk1 (s1 _ _ hm))
    have hc1 := kp1 _ _ (s1 _ _ hc) cm
    refine rMeth rfl hc1 rfl (rd_ixT (j := 2) rfl (tk1.sqT hT) rfl ⟨c, m, t, dx, x2, e2, us1, R ++ e1.code, rfl, hc1, h2.mono tk1, by omega, hm1, ht1, by simp [Ex.code_len]; omega, fun us2 H2 hm2 ht2 kp2 => ?_⟩)
    have tk2 := tk1.trans (kp2.tk1 hm1)
    have hc2 := kp2 _ _ hc1 cm
    refine rMeth rfl hc2 rfl (rd_ixT (j := 0) rfl (tk2.sqT hT) rfl ⟨(by show 1 ≤ sizeLine; decide), fun p2 hp2 => ?_⟩)
    have hm3 : L2.upd H2 p2 (.tup [.str o.s]) m = some (.lst us2) := by rw [upd_ne (ne_of_none hm2 hp2)]; exact hm2
    have hc3 : L2.upd H2 p2 (.tup [.str o.s]) c = some (.ins C dx (cfs m t)) := by rw [upd_ne (ne_of_none hc2 hp2)]; exact hc2
    have l2 : us2.length = R.length + e1.len + e2.len := by rw [ht2.length]; simp [Ex.code_len]; omega
    refine ⟨c, m, t, dx, .ref p2, us2, rfl, hc3, hm3, by omega, ?_⟩
    refine q (us2 ++ [.ref p2]) _ upd_same ?_ ((((Kp.same s1).trans kp1).trans kp2).trans ((Kp.new hp2).trans (Kp.upd rfl)))
    rw [show (R ++ (Ex.bin o e1 e2).code).map Rw.d = (R ++ e1.code ++ e2.code).map Rw.d ++ [(Rw.op o).d] by simp [Ex.code]]
    exact ((ht2.mono (Tk.new hp2)).snoc (Tp.mk hp2 (.cons (.str _) .nil))).mono (Tk.lst hm3)
end
end Lp

/-! L4c: the program's coding: lay and what it asks. -/
namespace Lp
open PySem PySem.Spec PyProof.Rows L2
def t_Coder_plain (K : PySem.W.Frag) (C_Coder : Addr) (sp_Coder_part : Sp) (sp_Coder_put : Sp) : TS :=
  tSeq (tAsg (tOp (rIxT K) (tVar 1) (tC (.int 0))) (gName 2)) (tIfS (tTest (tOp rEq (tVar 2) (tC (.str "call")))) (tSeq (tFor (iTup K (tOp (rIxT K) (tVar 1) (tC (.int 3)))) (gName 3) (tDrop (tMeth C_Coder "part" sp_Coder_part [] E0 (tVar 0) (tCons (tVar 3) (tNil))))) (tSeq (tDrop (tMeth C_Coder "put" sp_Coder_put [] E0 (tVar 0) (tCons (tTup (tCons (tC (.str "call")) (tCons (tOp (rIxT K) (tVar 1) (tC (.int 2))) (tCons (tCB (rLenQ K) (tCons (tOp (rIxT K) (tVar 1) (tC (.int 3))) (tNil))) (tCons (tOp (rIxT K) (tVar 1) (tC (.int 4))) (tNil)))))) (tNil)))) (tDrop (tMeth C_Coder "put" sp_Coder_put [] E0 (tVar 0) (tCons (tTup (tCons (tC (.str "set")) (tCons (tOp (rIxT K) (tVar 1) (tC (.int 1))) (tNil)))) (tNil)))))) (tIfS (tTest (tOp rEq (tVar 2) (tC (.str "again")))) (tDrop (tMeth C_Coder "put" sp_Coder_put [] E0 (tVar 0) (tCons (tVar 1) (tNil)))) (tIfS (tTest (tOp rEq (tVar 2) (tC (.str "raise")))) (tSeq (tDrop (tMeth C_Coder "part" sp_Coder_part [] E0 (tVar 0) (tCons (tOp (rIxT K) (tVar 1) (tC (.int 2))) (tNil)))) (tDrop (tMeth C_Coder "put" sp_Coder_put [] E0 (tVar 0) (tCons (tTup (tCons (tC (.str "raise")) (tCons (tOp (rIxT K) (tVar 1) (tC (.int 1))) (tCons (tOp (rIxT K) (tVar 1) (tC (.int 3))) (tNil))))) (tNil))))) (tIfS (tTest (tOp rEq (tVar 2) (tC (.str "set")))) (tSeq (tDrop (tMeth C_Coder "part" sp_Coder_part [] E0 (tVar 0) (tCons (tOp (rIxT K) (tVar 1) (tC (.int 2))) (tNil)))) (tDrop (tMeth C_Coder "put" sp_Coder_put [] E0 (tVar 0) (tCons (tTup (tCons (tC (.str "set")) (tCons (tOp (rIxT K) (tVar 1) (tC (.int 1))) (tNil)))) (tNil))))) (tSeq (tDrop (tMeth C_Coder "part" sp_Coder_part [] E0 (tVar 0) (tCons (tOp (rIxT K) (tVar 1) (tC (.int 1))) (tNil)))) (tDrop (tMeth C_Coder "put" sp_Coder_put [] E0 (tVar 0) (tCons (tTup (tCons (tVar 2) (tNil))) (tNil)))))))))

section
variable {K : PySem.W.Frag} {C dx : Addr} {H H' H1 H2 : Hp} {c m t : Addr} {ts : List V} {w : Option Wh} {R : List Rw} {Q : VK} {E : XK} {σ : L2.St}
theorem pPut {x : V} {r : Rw} (s : CoSt K C dx H c m t ts w R) (hx : Tp K H x r.d) (hz : R.length ≤ 500000)
    (q : ∀ H3, CoSt K C dx H3 c m t ts w (R ++ [r]) → Kp (fun x => x = m) H H3 → Q (.int (R.length : Int)) H3) : spPut C [.ref c, x] H Q E0 := by
  obtain ⟨us, hm, tus⟩ := s.made
  have lu : us.length = R.length := by rw [tus.length, List.length_map]
  refine ⟨c, m, t, dx, x, us, rfl, s.ins, hm, by omega, ?_⟩
  rw [lu]
  refine q _ (s.setM (Kp.upd rfl) upd_same ?_ (by simp)) (Kp.upd rfl)
  rw [List.map_append]
  exact (tus.snoc hx).mono (Tk.lst hm)
theorem pPart {v : V} {e : Ex} {n : Nat} (s : CoSt K C dx H c m t ts w R) (hv : Tp K H v e.d) (hd : e.dep ≤ n) (hz : R.length + e.len ≤ 500000)
    (q : ∀ H3, CoSt K C dx H3 c m t ts w (R ++ e.code) → Kp (fun x => x = m) H H3 → Q .non H3) : spPartC K C n [.ref c, v] H Q E0 := by
  obtain ⟨us, hm, tus⟩ := s.made
  exact ⟨c, m, t, dx, v, e, us, R, rfl, s.ins, hv, hd, hm, tus, hz, fun us' H3 hm3 t3 k3 => q H3 (s.setM k3 hm3 t3 (by simp)) k3⟩
theorem CoSt.ln (s : CoSt K C dx H c m t ts w R) : ∃ us, H m = some (.lst us) ∧ us.length = R.length := by
  obtain ⟨us, hm, tus⟩ := s.made
  exact ⟨us, hm, by rw [tus.length, List.length_map]⟩
theorem CoSt.pset {k : Int} (s : CoSt K C dx H c m t ts w R) (h0 : 0 ≤ k) (hk : k < R.length) : ∃ us, H m = some (.lst us) ∧ ixN us.length k = some k.toNat ∧
    ∀ (x : V) (r : Rw), Tp K H x r.d → CoSt K C dx (L2.upd H m (.lst (us.set k.toNat x))) c m t ts w (R.set k.toNat r) := by
  obtain ⟨us, hm, tus⟩ := s.made
  have lu : us.length = R.length := by rw [tus.length, List.length_map]
  refine ⟨us, hm, ?_, fun x r hx => s.setM (Kp.upd rfl) upd_same ?_ (by simp)⟩
  · have := ixN_n (n := us.length) (j := k.toNat) (by omega)
    rwa [Int.toNat_of_nonneg h0] at this
  · rw [List.map_set]
    exact (tus.set hx).mono (Tk.lst hm)
theorem pTurn {x : Wh} {j : Nat} {v : V} (T : CoTxt K C) (s : CoSt K C dx H c m t ts (some x) R) (hs : σ[0]? = some (some (.ref c))) (e : [V.int x.top, .int x.D, .ref x.pl][j]? = some v) (q : Q v H) :
    tOp (rIxL K) (tOp (rIxL K) (tFld K (tVar 0) "turns") (tUn rNeg (tC (.int 1)))) (tC (.int (j : Int))) σ H Q := by
  obtain ⟨⟨r, hr⟩, hu, _⟩ := s.trn.wh x rfl
  refine ⟨_, hs, c, C, dx, _, _, rfl, s.ins, T.cl, T.turns, cfs_turns, _, rfl, t, ts, -1, .ref x.u, rfl, rfl, SqL.of s.trn.turns, ?_, x.u, _, _, v, rfl, rfl, SqL.of hu, atI_nat e, q⟩
  rw [hr]; exact atI_last _ _
/-- what a statement's coding is asked and told -/
structure LayP (K : PySem.W.Frag) (C : Addr) (P : Sm → Prop) (n : Nat) (vs : List V) (H : Hp) (Q : VK) : Prop where
  ex : ∃ (c dx m t : Addr) (ts : List V) (w : Option Wh) (R : List Rw) (v : V) (s : Sm) (D : Int) (cs : List Nat) (nk : Nat) (hand : Bool), vs = [.ref c, v, .int D] ∧ CoSt K C dx H c m t ts w R ∧ Tp K H v s.d ∧ s.Wf cs nk w.isSome hand ∧ s.dep ≤ n ∧ ts.length + n ≤ 900 ∧ R.length + s.len ≤ 100000 ∧ P s ∧
  ∀ H', CoSt K C dx H' c m t ts (addW (s.bks R.length) w) (R ++ s.code R.length D (tnW w)) → Kp (BW m t w) H H' → Q .non H'
def spLay (K : PySem.W.Frag) (C : Addr) (P : Sm → Prop) (n : Nat) : Sp := fun vs H Q _ => LayP K C P n vs H Q
theorem spLay_zero {P : Sm → Prop} (vs : List V) (H : Hp) (Q : VK) (E : XK) : ¬ spLay K C P 0 vs H Q E := by
  rintro ⟨⟨c, dx, m, t, ts, w, R, v, s, D, cs, nk, hand, _, _, _, _, h, _⟩⟩
  have := s.dep_pos
  omega
theorem pLay {P : Sm → Prop} {n : Nat} {v : V} {s : Sm} {D B : Int} {cs : List Nat} {nk : Nat} {hand : Bool} (st : CoSt K C dx H c m t ts w R) (hv : Tp K H v s.d) (wf : s.Wf cs nk w.isSome hand) (hd : s.dep ≤ n) (ht : ts.length + n ≤ 900) (hz : R.length + s.len ≤ 100000) (hP : P s) (hB : (R.length : Int) = B)
    (q : ∀ H', CoSt K C dx H' c m t ts (addW (s.bks B) w) (R ++ s.code B D (tnW w)) → Kp (BW m t w) H H' → Q .non H') : spLay K C P n [.ref c, v, .int D] H Q E0 := by
  subst hB
  exact ⟨c, dx, m, t, ts, w, R, v, s, D, cs, nk, hand, rfl, st, hv, wf, hd, ht, hz, hP, q⟩
structure PlainP (K : PySem.W.Frag) (C : Addr) (vs : List V) (H : Hp) (Q : VK) : Prop where
  ex : ∃ (c dx m t : Addr) (ts : List V) (w : Option Wh) (R : List Rw) (v : V) (s : Sm) (cs : List Nat) (nk : Nat) (turn hand : Bool), vs = [.ref c, v] ∧ CoSt K C dx H c m t ts w R ∧ Tp K H v s.d ∧ s.Wf cs nk turn hand ∧ s.plain = true ∧ s ≠ .brk ∧ s ≠ .cnt ∧ R.length + s.len ≤ 100000 ∧
  ∀ H', CoSt K C dx H' c m t ts w (R ++ s.code 0 0 (0, 0, 0)) → Kp (fun x => x = m) H H' → Q .non H'
def spPlain (K : PySem.W.Frag) (C : Addr) : Sp := fun vs H Q _ => PlainP K C vs H Q
end
section
variable {K : PySem.W.Frag} {C : Addr}
abbrev N_plain : List Str := ["self", "one", "word", "part"]
theorem rd_plain (T : CoTxt K C) (vs : List V) (H : Hp) (Q : VK) (E : XK) (h : spPlain K C vs H Q E) : t_Coder_plain K C (spPartC K C 6) (spPut C) { nx := fun _ H' => Q .non H', rt := Q } (start N_plain vs) H := by
  obtain ⟨c, dx, m, t, ts, w, R, v, s, cs, nk, turn, hand, rfl, st, ht, wf, hp, nb, nc, hz, q⟩ := h.ex
  cases s with
  | say e =>
    obtain ⟨a, x0, x1, rfl, hT, h0, h1⟩ := ht.tup2
    cases h0.strE
    obtain ⟨_, de⟩ : e.Wf ∧ e.dep ≤ 5 := wf
    have hl : R.length + (e.len + 1) ≤ 100000 := hz
    refine rd_ixT (j := 0) rfl hT rfl (r_ifF (pb_is (pb_eqS rfl) rfl) (r_ifF (pb_is (pb_eqS rfl) rfl) (r_ifF (pb_is (pb_eqS rfl) rfl) (r_ifF (pb_is (pb_eqS rfl) rfl) ?_))))
    refine rMeth rfl st.ins rfl (rd_ixT (j := 1) rfl hT rfl (pPart st h1 (by omega) (by omega) fun H1 s1 k1 => ?_))
    refine rMeth rfl s1.ins rfl ⟨_, rfl, (by show 1 ≤ sizeLine; decide), fun p hp => pPut (r := .say) (s1.same (Same.new hp)) (Tp.mk hp (.cons (.str _) .nil)) (by simp [Ex.code_len]; omega) fun H2 s2 k2 => ?_⟩
    exact q H2 (s2.lst (by simp [Sm.code])) (k1.trans ((Kp.new hp).trans k2))
  | ret e =>
    obtain ⟨a, x0, x1, rfl, hT, h0, h1⟩ := ht.tup2
    cases h0.strE
    obtain ⟨_, de⟩ : e.Wf ∧ e.dep ≤ 5 := wf
    have hl : R.length + (e.len + 1) ≤ 100000 := hz
    refine rd_ixT (j := 0) rfl hT rfl (r_ifF (pb_is (pb_eqS rfl) rfl) (r_ifF (pb_is (pb_eqS rfl) rfl) (r_ifF (pb_is (pb_eqS rfl) rfl) (r_ifF (pb_is (pb_eqS rfl) rfl) ?_))))
    refine rMeth rfl st.ins rfl (rd_ixT (j := 1) rfl hT rfl (pPart st h1 (by omega) (by omega) fun H1 s1 k1 => ?_))
    refine rMeth rfl s1.ins rfl ⟨_, rfl, (by show 1 ≤ sizeLine; decide), fun p hp => pPut (r := .ret) (s1.same (Same.new hp)) (Tp.mk hp (.cons (.str _) .nil)) (by simp [Ex.code_len]; omega) fun H2 s2 k2 => ?_⟩
    exact q H2 (s2.lst (by simp [Sm.code])) (k1.trans ((Kp.new hp).trans k2))
  | set k e =>
    obtain ⟨a, x0, x1, x2, rfl, hT, h0, h1, h2⟩ := ht.tup3
    cases h0.strE; cases h1.intE
    obtain ⟨_, _, de⟩ : k < 8 ∧ e.Wf ∧ e.dep ≤ 5 := wf
    have hl : R.length + (e.len + 1) ≤ 100000 := hz
    refine rd_ixT (j := 0) rfl hT rfl (r_ifF (pb_is (pb_eqS rfl) rfl) (r_ifF (pb_is (pb_eqS rfl) rfl) (r_ifF (pb_is (pb_eqS rfl) rfl) (r_ifT (pb_is (pb_eqS rfl) rfl) ?_))))
    refine rMeth rfl st.ins rfl (rd_ixT (j := 2) rfl hT rfl (pPart st h2 (by omega) (by omega) fun H1 s1 k1 => ?_))
    refine rMeth rfl s1.ins rfl (rd_ixT (j := 1) rfl ((st.tk1 k1).sqT hT) rfl ⟨(by show 2 ≤ sizeLine; decide), fun p hp => pPut (r := .set k) (s1.same (Same.new hp)) (Tp.mk hp (.cons (.str _) (.cons (.int _) .nil))) (by simp [Ex.code_len]; omega) fun H2 s2 k2 => ?_⟩)
    exact q H2 (s2.lst (by simp [Sm.code])) (k1.trans ((Kp.new hp).trans k2))
  | rais kd e mm =>
    obtain ⟨a, x0, x1, x2, x3, rfl, hT, h0, h1, h2, h3⟩ := ht.tup4
    cases h0.strE; cases h1.intE; cases h3.intE
    obtain ⟨_, ⟨_, de⟩, _⟩ : kd < nk ∧ (e.Wf ∧ e.dep ≤ 5) ∧ 0 ≤ mm ∧ mm < 1000 := wf
    have hl : R.length + (e.len + 1) ≤ 100000 := hz
    refine rd_ixT (j := 0) rfl hT rfl (r_ifF (pb_is (pb_eqS rfl) rfl) (r_ifF (pb_is (pb_eqS rfl) rfl) (r_ifT (pb_is (pb_eqS rfl) rfl) ?_)))
    refine rMeth rfl st.ins rfl (rd_ixT (j := 2) rfl hT rfl (pPart st h2 (by omega) (by omega) fun H1 s1 k1 => ?_))
    refine rMeth rfl s1.ins rfl (rd_ixT (j := 1) rfl ((st.tk1 k1).sqT hT) rfl (rd_ixT (j := 3) rfl ((st.tk1 k1).sqT hT) rfl ⟨(by show 3 ≤ sizeLine; decide), fun p hp => pPut (r := .rais kd mm) (s1.same (Same.new hp)) (Tp.mk hp (.cons (.str _) (.cons (.int _) (.cons (.int _) .nil)))) (by simp [Ex.code_len]; omega) fun H2 s2 k2 => ?_⟩))
    exact q H2 (s2.lst (by simp [Sm.code])) (k1.trans ((Kp.new hp).trans k2))
  | again =>
    obtain ⟨a, x0, rfl, hT, h0⟩ := id ht.tup1
    cases h0.strE
    have hl : R.length + 1 ≤ 100000 := hz
    refine rd_ixT (j := 0) rfl hT rfl (r_ifF (pb_is (pb_eqS rfl) rfl) (r_ifT (pb_is (pb_eqS rfl) rfl) ?_))
    refine rMeth rfl st.ins rfl ⟨_, rfl, pPut (r := .again) st ht (by omega) fun H2 s2 k2 => ?_⟩
    exact q H2 s2 k2
  | call k f ps mm =>
    obtain ⟨a, x0, x1, x2, x3, x4, rfl, hT, h0, h1, h2, h3, h4⟩ := ht.tup5
    cases h0.strE; cases h1.intE; cases h2.intE; cases h4.intE
    obtain ⟨pa, pxs, rfl, hTp, htp⟩ := h3.tupE
    obtain ⟨_, _, lp, wps, _⟩ : k < 8 ∧ cs[f]? = some ps.length ∧ ps.length ≤ 3 ∧ (∀ e ∈ ps, e.Wf ∧ e.dep ≤ 5) ∧ 0 ≤ mm ∧ mm < 1000 := wf
    have lpx : pxs.length = ps.length := by rw [htp.length, List.length_map]
    have hl : R.length + (exsLen ps + 2) ≤ 100000 := hz
    refine rd_ixT (j := 0) rfl hT rfl (r_ifT (pb_is (pb_eqS rfl) rfl) (rd_ixT (j := 3) rfl hT rfl ⟨pa, rfl, ⟨_, hTp⟩, for_tup (K := K) (a := pa) (xs := pxs) (fun i σ H' => ∃ (r : List Ex) (pre : List Rw) (v3 : Option V), σ = [some (.ref c), some (.ref a), some (.str "call"), v3] ∧ CoSt K C dx H' c m t ts w (R ++ pre) ∧ Kp (fun x => x = m) H H' ∧ TpAll K H (pxs.drop i) (r.map Ex.d) ∧ (∀ e ∈ r, e.dep ≤ 5) ∧ pre.length + exsLen r = exsLen ps ∧ pre ++ exsCode r = exsCode ps)
      ⟨ps, [], none, rfl, st.lst (by simp), Kp.refl _ _, by rw [List.drop_zero]; exact htp, fun e he => (wps e he).2, by simp, by simp⟩ (fun i σ H' _ ⟨_, _, _, _, _, k', _⟩ => (st.tk1 k').sqT hTp) ?_ ?_⟩))
    · rintro i x σ H1 hx ⟨r, pre, v3, rfl, s1, k1, tr, dr, lr, er⟩
      obtain ⟨e, r', rfl, tx, tr'⟩ := exs_at tr hx
      have lr2 : pre.length + (e.len + exsLen r') = exsLen ps := lr
      refine rMeth rfl s1.ins rfl ⟨_, rfl, pPart s1 (tx.mono (st.tk1 k1)) (by have := dr e List.mem_cons_self; omega) (by simp; omega) fun H2 s2 k2 => ?_⟩
      exact ⟨r', pre ++ e.code, _, rfl, s2.lst (by simp), k1.trans k2, tr', fun y hy => dr y (List.mem_cons_of_mem _ hy), by simp [Ex.code_len]; omega, by rw [← er]; simp [exsCode]⟩
    · rintro σ H1 ⟨r, pre, v3, rfl, s1, k1, tr, dr, lr, er⟩
      cases exs_end tr
      obtain rfl : pre = exsCode ps := by simpa [exsCode] using er
      have tk1 := st.tk1 k1
      refine rMeth rfl s1.ins rfl (rd_ixT (j := 2) rfl (tk1.sqT hT) rfl (rd_ixT (j := 3) rfl (tk1.sqT hT) rfl ⟨pa, pxs, rfl, .inr (tk1.sqT hTp), rd_ixT (j := 4) rfl (tk1.sqT hT) rfl ⟨(by show 4 ≤ sizeLine; decide), fun p hp => ?_⟩⟩))
      rw [lpx]
      refine pPut (r := .call f ps.length mm) (s1.same (Same.new hp)) (Tp.mk hp (.cons (.str _) (.cons (.int _) (.cons (.int _) (.cons (.int _) .nil))))) (by simp [exsCode_len]; omega) fun H2 s2 k2 => ?_
      have k12 := k1.trans ((Kp.new hp).trans k2)
      refine rMeth rfl s2.ins rfl (rd_ixT (j := 1) rfl ((st.tk1 k12).sqT hT) rfl ⟨(by show 2 ≤ sizeLine; decide), fun p2 hp2 => pPut (r := .set k) (s2.same (Same.new hp2)) (Tp.mk hp2 (.cons (.str _) (.cons (.int _) .nil))) (by simp [exsCode_len]; omega) fun H3 s3 k3 => ?_⟩)
      exact q H3 (s3.lst (by simp [Sm.code])) (k12.trans ((Kp.new hp2).trans k3))
  | brk => exact absurd rfl nb
  | cnt => exact absurd rfl nc
  | _ => cases hp
end
end Lp

/-! L4d: the program's coding: statements with others in them. -/
namespace Lp
open PySem PySem.Spec PyProof.Rows L2
def t_Coder_choice (K : PySem.W.Frag) (C_Coder : Addr) (sp_Coder_part : Sp) (sp_Coder_put : Sp) (sp_Coder_lay : Sp) : TS :=
  tSeq (tDrop (tMeth C_Coder "part" sp_Coder_part [] E0 (tVar 0) (tCons (tOp (rIxT K) (tVar 1) (tC (.int 1))) (tNil)))) (tSeq (tAsg (tMeth C_Coder "put" sp_Coder_put [] E0 (tVar 0) (tCons (tTup (tCons (tC (.str "unless")) (tCons (tC (.int 0)) (tNil)))) (tNil))) (gName 3)) (tSeq (tDrop (tMeth C_Coder "lay" sp_Coder_lay [] E0 (tVar 0) (tCons (tOp (rIxT K) (tVar 1) (tC (.int 2))) (tCons (tVar 2) (tNil))))) (tSeq (tAsg (tMeth C_Coder "put" sp_Coder_put [] E0 (tVar 0) (tCons (tTup (tCons (tC (.str "go")) (tCons (tC (.int 0)) (tNil)))) (tNil))) (gName 4)) (tSeq (tAsg (tTup (tCons (tC (.str "unless")) (tCons (tCB (rLenQ K) (tCons (tFld K (tVar 0) "made") (tNil))) (tNil)))) (gSub (tFld K (tVar 0) "made") (tVar 3) rSetL)) (tSeq (tDrop (tMeth C_Coder "lay" sp_Coder_lay [] E0 (tVar 0) (tCons (tOp (rIxT K) (tVar 1) (tC (.int 3))) (tCons (tVar 2) (tNil))))) (tAsg (tTup (tCons (tC (.str "go")) (tCons (tCB (rLenQ K) (tCons (tFld K (tVar 0) "made") (tNil))) (tNil)))) (gSub (tFld K (tVar 0) "made") (tVar 4) rSetL)))))))

def t_Coder_cleaned (K : PySem.W.Frag) (C_Coder : Addr) (sp_Coder_lay : Sp) (sp_Coder_put : Sp) : TS :=
  tSeq (tAsg (tCB (rLenQ K) (tCons (tFld K (tVar 0) "made") (tNil))) (gName 3)) (tSeq (tDrop (tMeth C_Coder "lay" sp_Coder_lay [] E0 (tVar 0) (tCons (tOp (rIxT K) (tVar 1) (tC (.int 1))) (tCons (tVar 2) (tNil))))) (tSeq (tDrop (tMeth C_Coder "put" sp_Coder_put [] E0 (tVar 0) (tCons (tTup (tCons (tC (.str "mend")) (tNil))) (tNil)))) (tSeq (tAsg (tCB (rLenQ K) (tCons (tFld K (tVar 0) "made") (tNil))) (gName 4)) (tSeq (tDrop (tMeth C_Coder "put" sp_Coder_put [] E0 (tVar 0) (tCons (tTup (tCons (tC (.str "cleanup")) (tCons (tVar 3) (tCons (tVar 4) (tCons (tVar 2) (tNil)))))) (tNil)))) (tSeq (tDrop (tMeth C_Coder "lay" sp_Coder_lay [] E0 (tVar 0) (tCons (tOp (rIxT K) (tVar 1) (tC (.int 2))) (tCons (tOp rAdI (tVar 2) (tC (.int 1))) (tNil))))) (tDrop (tMeth C_Coder "put" sp_Coder_put [] E0 (tVar 0) (tCons (tTup (tCons (tC (.str "resume")) (tNil))) (tNil)))))))))

def PIf (s : Sm) : Prop := ∃ e a b, s = .ife e a b
def PWhl (s : Sm) : Prop := ∃ e a, s = .whl e a
def PTri (s : Sm) : Prop := ∃ a h, s = .tri a h
def PCln (s : Sm) : Prop := ∃ a b, s = .cln a b
def PAny (_ : Sm) : Prop := True
section
variable {K : PySem.W.Frag} {C : Addr}
abbrev N_choice : List Str := ["self", "one", "depth", "here", "leave"]
theorem rd_choice (T : CoTxt K C) {n : Nat} (vs : List V) (H : Hp) (Q : VK) (E : XK) (h : spLay K C PIf (n + 1) vs H Q E) : t_Coder_choice K C (spPartC K C 6) (spPut C) (spLay K C PAny n) { nx := fun _ H' => Q .non H', rt := Q } (start N_choice vs) H := by
  obtain ⟨c, dx, m, t, ts, w, R, v, s, D, cs, nk, hand, rfl, st, ht, wf, hd, hts, hz, ⟨e, s1, s2, rfl⟩, q⟩ := h.ex
  obtain ⟨a, x0, x1, x2, x3, rfl, hT, h0, h1, h2, h3⟩ := ht.tup4
  obtain ⟨⟨_, de⟩, wa, wb⟩ : (e.Wf ∧ e.dep ≤ 5) ∧ s1.Wf cs nk w.isSome hand ∧ s2.Wf cs nk w.isSome hand := wf
  have hl : R.length + (e.len + 1 + s1.len + 1 + s2.len) ≤ 100000 := hz
  have hd' : max s1.dep s2.dep + 1 ≤ n + 1 := hd
  refine rMeth rfl st.ins rfl (rd_ixT (j := 1) rfl hT rfl (pPart st h1 (by omega) (by omega) fun H1 st1 k1 => ?_))
  have l1 : (R ++ e.code).length = R.length + e.len := by simp [Ex.code_len]
  refine rMeth rfl st1.ins rfl ⟨(by show 2 ≤ sizeLine; decide), fun p1 hp1 => pPut (r := .unless 0) (st1.same (Same.new hp1)) (Tp.mk hp1 (.cons (.str _) (.cons (.int _) .nil))) (by omega) fun H2 st2 k2 => ?_⟩
  have k12 := k1.trans ((Kp.new hp1).trans k2)
  have tk2 := st.tk1 k12
  refine rMeth rfl st2.ins rfl (rd_ixT (j := 2) rfl (tk2.sqT hT) rfl ⟨_, rfl, pLay (B := (R.length : Int) + e.len + 1) st2 (h2.mono tk2) wa (by omega) (by omega) (by simp [Ex.code_len]; omega) trivial (by simp [Ex.code_len]; omega) fun H3 st3 k3 => ?_⟩)
  have k13 : Kp (BW m t w) H H3 := (KpW k12).trans k3
  have l3 : (R ++ e.code ++ [Rw.unless 0] ++ s1.code ((R.length : Int) + e.len + 1) D (tnW w)).length = R.length + e.len + 1 + s1.len := by simp [Ex.code_len, Sm.code_len]; omega
  refine rMeth rfl st3.ins rfl ⟨(by show 2 ≤ sizeLine; decide), fun p2 hp2 => pPut (r := .go 0) (st3.same (Same.new hp2)) (Tp.mk hp2 (.cons (.str _) (.cons (.int _) .nil))) (by omega) fun H4 st4 k4 => ?_⟩
  have k14 : Kp (BW m t w) H H4 := k13.trans (KpW ((Kp.new hp2).trans k4))
  -- the first place
  obtain ⟨us, hm4, lu4⟩ := st4.ln
  refine ⟨_, rfl, c, C, dx, _, _, rfl, st4.ins, T.cl, T.made, cfs_made, m, us, rfl, .inl (SqL.of hm4), (by show 2 ≤ sizeLine; decide), fun p3 hp3 => ?_⟩
  rw [lu4]
  have st4' := st4.same (Same.new (o := .tup [.str "unless", .int (((R ++ e.code ++ [Rw.unless 0] ++ s1.code ((R.length : Int) + e.len + 1) D (tnW w) ++ [Rw.go 0]).length : Nat) : Int)]) hp3)
  obtain ⟨us2, hm5, ix5, z5⟩ := st4'.pset (k := (((R ++ e.code).length : Nat) : Int)) (by omega) (by simp; omega)
  refine ⟨_, rfl, c, C, dx, _, _, rfl, st4'.ins, T.cl, T.made, cfs_made, _, rfl, m, us2, _, _, rfl, rfl, hm5, ix5, ?_⟩
  have st5 := z5 (.ref p3) (.unless ((R.length : Int) + e.len + 1 + s1.len + 1)) (by
    rw [List.length_append, l3]
    rw [show ((R.length : Int) + e.len + 1 + s1.len + 1) = ((R.length + e.len + 1 + s1.len + [Rw.go 0].length : Nat) : Int) by simp]
    exact Tp.mk hp3 (.cons (.str _) (.cons (.int _) .nil)))
  have st5 := st5.lst (R' := R ++ e.code ++ [Rw.unless ((R.length : Int) + e.len + 1 + s1.len + 1)] ++ s1.code ((R.length : Int) + e.len + 1) D (tnW w) ++ [.go 0]) (by
    rw [show R ++ e.code ++ [Rw.unless 0] ++ s1.code ((R.length : Int) + e.len + 1) D (tnW w) ++ [.go 0] = (R ++ e.code) ++ Rw.unless 0 :: (s1.code ((R.length : Int) + e.len + 1) D (tnW w) ++ [.go 0]) by simp]
    rw [set_mid (Int.toNat_natCast _).symm]
    simp)
  generalize hH5 : L2.upd (L2.upd H4 p3 _) m (.lst (us2.set _ (.ref p3))) = H5 at st5 ⊢
  have k15 : Kp (BW m t w) H H5 := by
    rw [← hH5]
    exact k14.trans ((Kp.new hp3).trans (Kp.upd (.inl rfl)))
  have tk5 := st.tk k15
  refine rMeth rfl st5.ins rfl (rd_ixT (j := 3) rfl (tk5.sqT hT) rfl ⟨_, rfl, pLay (B := (R.length : Int) + e.len + 1 + s1.len + 1) st5 (h3.mono tk5) (by rw [addW_some]; exact wb) (by omega) (by omega) (by simp [Ex.code_len, Sm.code_len]; omega) trivial (by simp [Ex.code_len, Sm.code_len]; omega) fun H6 st6 k6 => ?_⟩)
  rw [BW_add] at k6
  rw [tnW_add, addW_app] at st6
  have k16 := k15.trans k6
  obtain ⟨us6, hm6, lu6⟩ := st6.ln
  refine ⟨_, rfl, c, C, dx, _, _, rfl, st6.ins, T.cl, T.made, cfs_made, m, us6, rfl, .inl (SqL.of hm6), (by show 2 ≤ sizeLine; decide), fun p7 hp7 => ?_⟩
  rw [lu6]
  have l6 : ((R ++ e.code ++ [Rw.unless ((R.length : Int) + e.len + 1 + s1.len + 1)] ++ s1.code ((R.length : Int) + e.len + 1) D (tnW w) ++ [Rw.go 0] ++ s2.code ((R.length : Int) + e.len + 1 + s1.len + 1) D (tnW w)).length : Nat) = R.length + e.len + 1 + s1.len + 1 + s2.len := by simp [Ex.code_len, Sm.code_len]; omega
  rw [l6]
  have st6' := st6.same (Same.new (o := .tup [.str "go", .int ((R.length + e.len + 1 + s1.len + 1 + s2.len : Nat) : Int)]) hp7)
  obtain ⟨us7, hm7, ix7, z7⟩ := st6'.pset (k := (((R ++ e.code ++ [Rw.unless 0] ++ s1.code ((R.length : Int) + e.len + 1) D (tnW w)).length : Nat) : Int)) (by omega) (by rw [l6, l3]; omega)
  refine ⟨_, rfl, c, C, dx, _, _, rfl, st6'.ins, T.cl, T.made, cfs_made, _, rfl, m, us7, _, _, rfl, rfl, hm7, ix7, ?_⟩
  have st7 := z7 (.ref p7) (.go ((R.length : Int) + e.len + 1 + s1.len + 1 + s2.len)) (by
    rw [show ((R.length : Int) + e.len + 1 + s1.len + 1 + s2.len) = ((R.length + e.len + 1 + s1.len + 1 + s2.len : Nat) : Int) by simp]
    exact Tp.mk hp7 (.cons (.str _) (.cons (.int _) .nil)))
  refine q _ (st7.lst ?_) (k16.trans ((Kp.new hp7).trans (Kp.upd (.inl rfl))))
  rw [show R ++ e.code ++ [Rw.unless ((R.length : Int) + e.len + 1 + s1.len + 1)] ++ s1.code ((R.length : Int) + e.len + 1) D (tnW w) ++ [.go 0] ++ s2.code ((R.length : Int) + e.len + 1 + s1.len + 1) D (tnW w) = (R ++ e.code ++ [Rw.unless ((R.length : Int) + e.len + 1 + s1.len + 1)] ++ s1.code ((R.length : Int) + e.len + 1) D (tnW w)) ++ Rw.go 0 :: s2.code ((R.length : Int) + e.len + 1 + s1.len + 1) D (tnW w) by simp]
  rw [set_mid (by rw [Int.toNat_natCast]; simp)]
  simp [Sm.code]
abbrev N_cleaned : List Str := ["self", "one", "depth", "begin", "end"]
theorem rd_cleaned (T : CoTxt K C) {n : Nat} (vs : List V) (H : Hp) (Q : VK) (E : XK) (h : spLay K C PCln (n + 1) vs H Q E) : t_Coder_cleaned K C (spLay K C PAny n) (spPut C) { nx := fun _ H' => Q .non H', rt := Q } (start N_cleaned vs) H := by
  obtain ⟨c, dx, m, t, ts, w, R, v, s, D, cs, nk, hand, rfl, st, ht, wf, hd, hts, hz, ⟨s1, s2, rfl⟩, q⟩ := h.ex
  obtain ⟨a, x0, x1, x2, rfl, hT, h0, h1, h2⟩ := ht.tup3
  obtain ⟨wa, wb⟩ : s1.Wf cs nk w.isSome hand ∧ s2.Wf cs nk w.isSome hand := wf
  have hl : R.length + (s1.len + 2 + s2.len + 1) ≤ 100000 := hz
  have hd' : max s1.dep s2.dep + 1 ≤ n + 1 := hd
  obtain ⟨us, hm0, lu0⟩ := st.ln
  refine ⟨_, rfl, c, C, dx, _, _, rfl, st.ins, T.cl, T.made, cfs_made, m, us, rfl, .inl (SqL.of hm0), ?_⟩
  rw [lu0]
  refine rMeth rfl st.ins rfl (rd_ixT (j := 1) rfl hT rfl ⟨_, rfl, pLay (B := (R.length : Int)) st h1 wa (by omega) (by omega) (by omega) trivial rfl fun H1 st1 k1 => ?_⟩)
  have l1 : (R ++ s1.code (R.length : Int) D (tnW w)).length = R.length + s1.len := by simp [Sm.code_len]
  refine rMeth rfl st1.ins rfl ⟨(by show 1 ≤ sizeLine; decide), fun p1 hp1 => pPut (r := .mend) (st1.same (Same.new hp1)) (Tp.mk hp1 (.cons (.str _) .nil)) (by omega) fun H2 st2 k2 => ?_⟩
  have k12 : Kp (BW m t w) H H2 := k1.trans (KpW ((Kp.new hp1).trans k2))
  obtain ⟨us2, hm2, lu2⟩ := st2.ln
  refine ⟨_, rfl, c, C, dx, _, _, rfl, st2.ins, T.cl, T.made, cfs_made, m, us2, rfl, .inl (SqL.of hm2), ?_⟩
  have e2 : (us2.length : Int) = (R.length : Int) + s1.len + 1 := by rw [lu2]; simp [Sm.code_len]; omega
  rw [e2]
  refine rMeth rfl st2.ins rfl ⟨_, rfl, _, rfl, _, rfl, (by show 4 ≤ sizeLine; decide), fun p2 hp2 => pPut (r := .cup R.length ((R.length : Int) + s1.len + 1) D) (st2.same (Same.new hp2)) (Tp.mk hp2 (.cons (.str _) (.cons (.int _) (.cons (.int _) (.cons (.int _) .nil))))) (by simp [Sm.code_len]; omega) fun H3 st3 k3 => ?_⟩
  have k13 : Kp (BW m t w) H H3 := k12.trans (KpW ((Kp.new hp2).trans k3))
  have tk3 := st.tk k13
  refine rMeth rfl st3.ins rfl (rd_ixT (j := 2) rfl (tk3.sqT hT) rfl ⟨_, rfl, _, _, rfl, rfl, pLay (B := (R.length : Int) + s1.len + 2) st3 (h2.mono tk3) (by rw [addW_some]; exact wb) (by omega) (by omega) (by simp [Sm.code_len]; omega) trivial (by simp [Sm.code_len]; omega) fun H4 st4 k4 => ?_⟩)
  rw [BW_add] at k4
  rw [tnW_add, addW_app] at st4
  have k14 := k13.trans k4
  refine rMeth rfl st4.ins rfl ⟨(by show 1 ≤ sizeLine; decide), fun p5 hp5 => pPut (r := .resume) (st4.same (Same.new hp5)) (Tp.mk hp5 (.cons (.str _) .nil)) (by simp [Sm.code_len]; omega) fun H5 st5 k5 => ?_⟩
  exact q H5 (st5.lst (by simp [Sm.code])) (k14.trans (KpW ((Kp.new hp5).trans k5)))
end
end Lp

/-! L4e: the program's coding: loop, tried, lay. -/
namespace Lp
open PySem PySem.Spec PyProof.Rows L2
def t_Coder_loop (K : PySem.W.Frag) (C_Coder : Addr) (sp_Coder_part : Sp) (sp_Coder_put : Sp) (sp_Coder_lay : Sp) : TS :=
  tSeq (tAsg (tCB (rLenQ K) (tCons (tFld K (tVar 0) "made") (tNil))) (gName 3)) (tSeq (tDrop (tMeth C_Coder "part" sp_Coder_part [] E0 (tVar 0) (tCons (tOp (rIxT K) (tVar 1) (tC (.int 1))) (tNil)))) (tSeq (tAsg (tMeth C_Coder "put" sp_Coder_put [] E0 (tVar 0) (tCons (tTup (tCons (tC (.str "unless")) (tCons (tC (.int 0)) (tNil)))) (tNil))) (gName 4)) (tSeq (tDrop (tMeth C_Coder "put" sp_Coder_put [] E0 (tVar 0) (tCons (tTup (tCons (tC (.str "turn")) (tNil))) (tNil)))) (tSeq (tDrop (tBM K "list" rAppend (tFld K (tVar 0) "turns") (tCons (tLst (tCons (tVar 3) (tCons (tVar 2) (tCons (tLst (tNil)) (tNil))))) (tNil)))) (tSeq (tDrop (tMeth C_Coder "lay" sp_Coder_lay [] E0 (tVar 0) (tCons (tOp (rIxT K) (tVar 1) (tC (.int 2))) (tCons (tVar 2) (tNil))))) (tSeq (tDrop (tMeth C_Coder "put" sp_Coder_put [] E0 (tVar 0) (tCons (tTup (tCons (tC (.str "go")) (tCons (tVar 3) (tNil)))) (tNil)))) (tSeq (tAsg (tTup (tCons (tC (.str "unless")) (tCons (tCB (rLenQ K) (tCons (tFld K (tVar 0) "made") (tNil))) (tNil)))) (gSub (tFld K (tVar 0) "made") (tVar 4) rSetL)) (tFor (iList K (tOp (rIxL K) (tBM0 K "list" rPop (tFld K (tVar 0) "turns")) (tC (.int 2)))) (gName 5) (tAsg (tTup (tCons (tC (.str "leap")) (tCons (tCB (rLenQ K) (tCons (tFld K (tVar 0) "made") (tNil))) (tCons (tVar 2) (tNil))))) (gSub (tFld K (tVar 0) "made") (tVar 5) rSetL))))))))))

def t_Coder_tried (K : PySem.W.Frag) (C_Coder : Addr) (sp_Coder_lay : Sp) (sp_Coder_put : Sp) : TS :=
  tSeq (tAsg (tCB (rLenQ K) (tCons (tFld K (tVar 0) "made") (tNil))) (gName 3)) (tSeq (tDrop (tMeth C_Coder "lay" sp_Coder_lay [] E0 (tVar 0) (tCons (tOp (rIxT K) (tVar 1) (tC (.int 1))) (tCons (tVar 2) (tNil))))) (tSeq (tAsg (tCB (rLenQ K) (tCons (tFld K (tVar 0) "made") (tNil))) (gName 4)) (tSeq (tAsg (tLst (tCons (tMeth C_Coder "put" sp_Coder_put [] E0 (tVar 0) (tCons (tTup (tCons (tC (.str "go")) (tCons (tC (.int 0)) (tNil)))) (tNil))) (tNil))) (gName 5)) (tSeq (tFor (iTup K (tOp (rIxT K) (tVar 1) (tC (.int 2)))) (gName 6) (tSeq (tDrop (tMeth C_Coder "put" sp_Coder_put [] E0 (tVar 0) (tCons (tTup (tCons (tC (.str "handler")) (tCons (tVar 3) (tCons (tVar 4) (tCons (tOp (rIxT K) (tVar 6) (tC (.int 0))) (tCons (tVar 2) (tNil))))))) (tNil)))) (tSeq (tDrop (tMeth C_Coder "put" sp_Coder_put [] E0 (tVar 0) (tCons (tTup (tCons (tC (.str "set")) (tCons (tOp (rIxT K) (tVar 6) (tC (.int 1))) (tNil)))) (tNil)))) (tSeq (tDrop (tMeth C_Coder "lay" sp_Coder_lay [] E0 (tVar 0) (tCons (tOp (rIxT K) (tVar 6) (tC (.int 2))) (tCons (tOp rAdI (tVar 2) (tC (.int 1))) (tNil))))) (tSeq (tDrop (tMeth C_Coder "put" sp_Coder_put [] E0 (tVar 0) (tCons (tTup (tCons (tC (.str "settled")) (tNil))) (tNil)))) (tDrop (tBM K "list" rAppend (tVar 5) (tCons (tMeth C_Coder "put" sp_Coder_put [] E0 (tVar 0) (tCons (tTup (tCons (tC (.str "go")) (tCons (tC (.int 0)) (tNil)))) (tNil))) (tNil))))))))) (tFor (iList K (tVar 5)) (gName 7) (tAsg (tTup (tCons (tC (.str "go")) (tCons (tCB (rLenQ K) (tCons (tFld K (tVar 0) "made") (tNil))) (tNil)))) (gSub (tFld K (tVar 0) "made") (tVar 7) rSetL)))))))

section
variable {K : PySem.W.Frag} {C : Addr}
abbrev N_loop : List Str := ["self", "one", "depth", "top", "here", "place"]
theorem rd_loop (T : CoTxt K C) {n : Nat} (vs : List V) (H : Hp) (Q : VK) (E : XK) (h : spLay K C PWhl (n + 1) vs H Q E) : t_Coder_loop K C (spPartC K C 6) (spPut C) (spLay K C PAny n) { nx := fun _ H' => Q .non H', rt := Q } (start N_loop vs) H := by
  obtain ⟨c, dx, m, t, ts, w, R, v, s, D, cs, nk, hand, rfl, st, ht, wf, hd, hts, hz, ⟨e, s1, rfl⟩, q⟩ := h.ex
  obtain ⟨a, x0, x1, x2, rfl, hT, h0, h1, h2⟩ := ht.tup3
  obtain ⟨⟨_, de⟩, wa⟩ : (e.Wf ∧ e.dep ≤ 5) ∧ s1.Wf cs nk true hand := wf
  have hl : R.length + (e.len + 2 + s1.len + 1) ≤ 100000 := hz
  have hd' : s1.dep + 1 ≤ n + 1 := hd
  obtain ⟨us, hm0, lu0⟩ := st.ln
  refine ⟨_, rfl, c, C, dx, _, _, rfl, st.ins, T.cl, T.made, cfs_made, m, us, rfl, .inl (SqL.of hm0), ?_⟩
  rw [lu0]
  refine rMeth rfl st.ins rfl (rd_ixT (j := 1) rfl hT rfl (pPart st h1 (by omega) (by omega) fun H1 st1 k1 => ?_))
  refine rMeth rfl st1.ins rfl ⟨(by show 2 ≤ sizeLine; decide), fun p1 hp1 => pPut (r := .unless 0) (st1.same (Same.new hp1)) (Tp.mk hp1 (.cons (.str _) (.cons (.int _) .nil))) (by simp [Ex.code_len]; omega) fun H2 st2 k2 => ?_⟩
  refine rMeth rfl st2.ins rfl ⟨(by show 1 ≤ sizeLine; decide), fun p2 hp2 => pPut (r := .turn) (st2.same (Same.new hp2)) (Tp.mk hp2 (.cons (.str _) .nil)) (by simp [Ex.code_len]; omega) fun H3 st3 k3 => ?_⟩
  have k13 : Kp (fun x => x = m) H H3 := (k1.trans ((Kp.new hp1).trans k2)).trans ((Kp.new hp2).trans k3)
  refine ⟨_, rfl, c, C, dx, _, _, rfl, st3.ins, T.cl, T.turns, cfs_turns, .inl ⟨rfl, _, SqL.of st3.trn.turns⟩, _, rfl, _, rfl, (by show 0 ≤ sizeLine; decide), fun pl hpl => ⟨(by show 3 ≤ sizeLine; decide), fun u hu => ⟨t, ts, _, rfl, rfl, ((st3.same (Same.new hpl)).same (Same.new hu)).trn.turns, sz_lt1 (by omega), ?_⟩⟩⟩
  have A := st3.apart hpl
  have B := (st3.same (Same.new (o := .lst []) hpl)).apart hu
  have plu : pl ≠ u := ne_of_none (upd_same (H := H3) (o := .lst [])) hu
  have turns3 := ((st3.same (Same.new (o := .lst []) hpl)).same (Same.new (o := .lst [.int (R.length : Int), .int D, .ref pl]) hu)).trn.turns
  generalize hH4 : L2.upd (L2.upd (L2.upd H3 pl (.lst [])) u (.lst [.int (R.length : Int), .int D, .ref pl])) t (.lst (ts ++ [.ref u])) = H4
  have k34 : Kp (fun x => x = t) H3 H4 := by rw [← hH4]; exact ((Kp.new hpl).trans (Kp.new hu)).trans (Kp.upd rfl)
  have tk34 : Tk H3 H4 := by rw [← hH4]; exact ((Tk.new hpl).trans (Tk.new hu)).trans (Tk.lst turns3)
  have st4 : CoSt K C dx H4 c m t (ts ++ [.ref u]) (some ⟨u, pl, R.length, D, []⟩) (R ++ e.code ++ [Rw.unless 0] ++ [Rw.turn]) := by
    obtain ⟨us3, hm3, tus3⟩ := st3.made
    refine ⟨k34 _ _ st3.ins st3.ct, ⟨us3, k34 _ _ hm3 st3.trn.tm.symm, tus3.mono tk34⟩, ⟨by rw [← hH4]; exact upd_same, st3.trn.tm, fun x hx => ?_⟩, fun x hx => by cases hx; exact Nat.zero_le _⟩
    cases hx
    refine ⟨⟨ts, rfl⟩, ?_, ?_, B.nm.symm, B.nt.symm, A.nm.symm, A.nt.symm, plu⟩
    · rw [← hH4, upd_ne B.nt.symm, upd_same]
    · rw [← hH4, upd_ne A.nt.symm, upd_ne plu, upd_same]; rfl
  have tk4 : Tk H H4 := (st.tk1 k13).trans tk34
  refine rMeth rfl st4.ins rfl (rd_ixT (j := 2) rfl (tk4.sqT hT) rfl ⟨_, rfl, pLay (B := (R.length : Int) + e.len + 2) st4 (h2.mono tk4) wa (by omega) (by simp; omega) (by simp [Ex.code_len]; omega) trivial (by simp [Ex.code_len]; omega) fun H5 st5 k5 => ?_⟩)
  generalize hB : (R.length : Int) + e.len + 2 = bs at st5
  replace st5 : CoSt K C dx H5 c m t (ts ++ [.ref u]) (some ⟨u, pl, R.length, D, s1.bks bs⟩) (R ++ e.code ++ [Rw.unless 0] ++ [Rw.turn] ++ s1.code bs D ((R.length : Int), 0, D)) := st5
  have l5 : (R ++ e.code ++ [Rw.unless 0] ++ [Rw.turn] ++ s1.code bs D ((R.length : Int), 0, D)).length = R.length + e.len + 2 + s1.len := by simp [Ex.code_len, Sm.code_len]; omega
  refine rMeth rfl st5.ins rfl ⟨_, rfl, (by show 2 ≤ sizeLine; decide), fun p6 hp6 => pPut (r := .go R.length) (st5.same (Same.new hp6)) (Tp.mk hp6 (.cons (.str _) (.cons (.int _) .nil))) (by omega) fun H6 st6 k6 => ?_⟩
  have k56 : Kp (fun x => x = m) H5 H6 := (Kp.new hp6).trans k6
  obtain ⟨us6, hm6, lu6⟩ := st6.ln
  refine ⟨_, rfl, c, C, dx, _, _, rfl, st6.ins, T.cl, T.made, cfs_made, m, us6, rfl, .inl (SqL.of hm6), (by show 2 ≤ sizeLine; decide), fun p7 hp7 => ?_⟩
  have z6 : us6.length = R.length + e.len + 2 + s1.len + 1 := by rw [lu6, List.length_append, l5]; rfl
  rw [z6]
  have st6' := st6.same (Same.new (o := .tup [.str "unless", .int ((R.length + e.len + 2 + s1.len + 1 : Nat) : Int)]) hp7)
  obtain ⟨us7, hm7, ix7, y7⟩ := st6'.pset (k := (((R ++ e.code).length : Nat) : Int)) (by omega) (by simp; omega)
  refine ⟨_, rfl, c, C, dx, _, _, rfl, st6'.ins, T.cl, T.made, cfs_made, _, rfl, m, us7, _, _, rfl, rfl, hm7, ix7, ?_⟩
  have st7 := y7 (.ref p7) (.unless ((R.length + e.len + 2 + s1.len + 1 : Nat) : Int)) (Tp.mk hp7 (.cons (.str _) (.cons (.int _) .nil)))
  replace st7 := st7.lst (R' := (R ++ e.code ++ [Rw.unless ((R.length + e.len + 2 + s1.len + 1 : Nat) : Int), .turn]) ++ s1.code bs D ((R.length : Int), 0, D) ++ [.go R.length]) (by
    rw [show R ++ e.code ++ [Rw.unless 0] ++ [Rw.turn] ++ s1.code bs D ((R.length : Int), 0, D) ++ [Rw.go R.length] = (R ++ e.code) ++ Rw.unless 0 :: ([Rw.turn] ++ s1.code bs D ((R.length : Int), 0, D) ++ [.go R.length]) by simp]
    rw [set_mid (Int.toNat_natCast _).symm]
    simp)
  generalize hH7 : L2.upd (L2.upd H6 p7 _) m (.lst (us7.set _ (.ref p7))) = H7 at st7 ⊢
  have k57 : Kp (fun x => x = m) H5 H7 := by rw [← hH7]; exact k56.trans ((Kp.new hp7).trans (Kp.upd rfl))
  generalize hL7 : (R ++ e.code ++ [Rw.unless ((R.length + e.len + 2 + s1.len + 1 : Nat) : Int), .turn]) ++ s1.code bs D ((R.length : Int), 0, D) ++ [.go R.length] = L7 at st7
  have l7 : L7.length = R.length + e.len + 2 + s1.len + 1 := by rw [← hL7]; simp [Ex.code_len, Sm.code_len]; omega
  obtain ⟨_, hu7, hpl7, um, ut, plm, plt, _⟩ := st7.trn.wh _ rfl
  have hu8 : L2.upd H7 t (.lst (ts ++ [V.ref u]).dropLast) u = some (.lst [.int (R.length : Int), .int D, .ref pl]) := by rw [upd_ne ut]; exact hu7
  have hpl8 : L2.upd H7 t (.lst (ts ++ [V.ref u]).dropLast) pl = some (.lst ((s1.bks bs).map V.int)) := by rw [upd_ne plt]; exact hpl7
  have k38 : Kp (fun x => (x = m ∨ x = t) ∨ x = pl) H3 (L2.upd H7 t (.lst (ts ++ [V.ref u]).dropLast)) :=
    (((k34.mono fun _ z => .inl (.inr z)).trans (k5.mono fun _ z => by
      rcases z with z | z | ⟨x, z, z2⟩
      · exact .inl (.inl z)
      · exact .inl (.inr z)
      · cases z; exact .inr z2)).trans (k57.mono fun _ z => .inl (.inl z))).trans (Kp.upd (.inl (.inr rfl)))
  refine ⟨_, rfl, c, C, dx, _, _, rfl, st7.ins, T.cl, T.turns, cfs_turns, .inl ⟨rfl, _, SqL.of st7.trn.turns⟩, t, ts ++ [.ref u], .ref u, rfl, rfl, st7.trn.turns, by simp, u, _, _, _, rfl, rfl, SqL.of hu8, atI_nat (j := 2) rfl, pl, rfl, ⟨_, SqL.of hpl8⟩,
    for_list (K := K) (a := pl) (xs := (s1.bks bs).map V.int) (fun i σ H' => ∃ (us : List V) (v5 : Option V), σ = [some (.ref c), some (.ref a), some (.int D), some (.int (R.length : Int)), some (.int (((R ++ e.code).length : Nat) : Int)), v5] ∧ H' m = some (.lst us) ∧ us.length = L7.length ∧ TpAll K H' us ((fillAt (.leap L7.length D) ((s1.bks bs).take i) L7).map Rw.d) ∧ Kp (fun a => a = m) (L2.upd H7 t (.lst (ts ++ [V.ref u]).dropLast)) H') ?_ (fun i σ H' _ ⟨_, _, _, _, _, _, k'⟩ => SqL.of (k' _ _ hpl8 plm)) ?_ ?_⟩
  · obtain ⟨us9, hm9, tus9⟩ := st7.made
    refine ⟨us9, none, rfl, by rw [upd_ne st7.trn.tm.symm]; exact hm9, by rw [tus9.length, List.length_map], tus9.mono (Tk.lst st7.trn.turns), Kp.refl _ _⟩
  · rintro i x σ H9 hx ⟨us9, v5, rfl, hm9, lu9, tus9, k9⟩
    rw [List.getElem?_map] at hx
    cases hpi : (s1.bks bs)[i]? with
    | none => rw [hpi] at hx; cases hx
    | some p =>
      rw [hpi] at hx
      obtain rfl : V.int p = x := Option.some.inj hx
      obtain ⟨pb1, pb2⟩ := s1.bks_in bs p (List.mem_of_getElem? hpi)
      have cins : H9 c = some (.ins C dx (cfs m t)) := k9 _ _ (by rw [upd_ne st7.ct]; exact st7.ins) st7.cm
      refine ⟨_, rfl, c, C, dx, _, _, rfl, cins, T.cl, T.made, cfs_made, m, us9, rfl, .inl (SqL.of hm9), _, rfl, (by show 3 ≤ sizeLine; decide), fun p9 hp9 => ?_⟩
      have hm10 : L2.upd H9 p9 (.tup [.str "leap", .int (us9.length : Int), .int D]) m = some (.lst us9) := by rw [upd_ne (ne_of_none hm9 hp9)]; exact hm9
      have ix : ixN us9.length p = some p.toNat := by
        have := ixN_n (n := us9.length) (j := p.toNat) (by omega)
        rwa [Int.toNat_of_nonneg (by omega)] at this
      refine ⟨_, rfl, c, C, dx, _, _, rfl, by rw [upd_ne (ne_of_none cins hp9)]; exact cins, T.cl, T.made, cfs_made, _, rfl, m, us9, _, _, rfl, rfl, hm10, ix, us9.set p.toNat (.ref p9), _, rfl, upd_same, by simp [lu9], ?_, k9.trans ((Kp.new hp9).trans (Kp.upd rfl))⟩
      rw [fillAt_take _ hpi, List.map_set]
      refine (TpAll.set (tus9.mono (Tk.new hp9)) ?_).mono (Tk.lst hm10)
      rw [lu9]
      exact Tp.mk hp9 (.cons (.str _) (.cons (.int _) (.cons (.int _) .nil)))
  · rintro σ H9 ⟨us9, v5, rfl, hm9, lu9, tus9, k9⟩
    rw [List.length_map, List.take_length] at tus9
    have kZ : Kp (fun x => x = m ∨ x = t) H H9 := Kp.narrow (k13.mono fun _ => .inl) hpl (k38.trans (k9.mono fun _ z => .inl (.inl z)))
    have ht9 : H9 t = some (.lst ts) := by
      have z : H9 t = some (.lst (ts ++ [V.ref u]).dropLast) := k9 _ _ upd_same st7.trn.tm
      rw [z]; simp
    have efill : fillAt (.leap L7.length D) (s1.bks bs) L7 = R ++ (Sm.whl e s1).code R.length D (tnW w) := by
      have := Sm.fill (p := (R.length : Int)) (z := (L7.length : Int)) (D0 := D) s1 bs D (R ++ e.code ++ [Rw.unless ((R.length + e.len + 2 + s1.len + 1 : Nat) : Int), .turn]) [.go R.length] (by simp [Ex.code_len]; omega)
      rw [hL7] at this
      rw [this, l7]
      simp [Sm.code, hB]
    rw [efill] at tus9
    refine q H9 ?_ (kZ.mono fun _ z => z.elim .inl fun z => .inr (.inl z))
    rw [show (Sm.whl e s1).bks (R.length : Int) = [] from rfl, addW_nil]
    exact st.back kZ hm9 ht9 tus9 (by simp)
abbrev N_tried : List Str := ["self", "one", "depth", "begin", "end", "leaves", "handler", "place"]
theorem Apart.of {c m t p : Addr} {l : List Int} {w : Option Wh} (a : Apart p c m t (addW l w)) : Apart p c m t w := by
  refine ⟨a.nc, a.nm, a.nt, fun x hx => ?_⟩
  subst hx
  exact a.nw { x with ps := x.ps ++ l } rfl
theorem Apart.nb {c m t p : Addr} {w : Option Wh} (a : Apart p c m t w) : ¬ BW m t w p := by
  rintro (z | z | ⟨x, hx, z⟩)
  · exact a.nm z.symm
  · exact a.nt z.symm
  · exact (a.nw x hx).2 z.symm
theorem rd_tried (T : CoTxt K C) {n : Nat} (vs : List V) (H : Hp) (Q : VK) (E : XK) (h : spLay K C PTri (n + 1) vs H Q E) : t_Coder_tried K C (spLay K C PAny n) (spPut C) { nx := fun _ H' => Q .non H', rt := Q } (start N_tried vs) H := by
  obtain ⟨c, dx, m, t, ts, w, R, v, s, D, cs, nk, hand, rfl, st, ht, wf, hd, hts, hz, ⟨s1, hs, rfl⟩, q⟩ := h.ex
  obtain ⟨a, x0, x1, x2, rfl, hT, h0, h1, h2⟩ := ht.tup3
  obtain ⟨pa, pxs, rfl, hTp, htp⟩ := h2.tupE
  obtain ⟨wa, wh⟩ : s1.Wf cs nk w.isSome hand ∧ hs.Wf cs nk w.isSome := wf
  have hl : R.length + (s1.len + 1 + hs.len) ≤ 100000 := hz
  have hd' : max s1.dep hs.dep + 1 ≤ n + 1 := hd
  obtain ⟨us, hm0, lu0⟩ := st.ln
  refine ⟨_, rfl, c, C, dx, _, _, rfl, st.ins, T.cl, T.made, cfs_made, m, us, rfl, .inl (SqL.of hm0), ?_⟩
  rw [lu0]
  refine rMeth rfl st.ins rfl (rd_ixT (j := 1) rfl hT rfl ⟨_, rfl, pLay (B := (R.length : Int)) st h1 wa (by omega) (by omega) (by omega) trivial rfl fun H1 st1 k1 => ?_⟩)
  have l1 : (R ++ s1.code (R.length : Int) D (tnW w)).length = R.length + s1.len := by simp [Sm.code_len]
  obtain ⟨us1, hm1, lu1⟩ := st1.ln
  refine ⟨_, rfl, c, C, dx, _, _, rfl, st1.ins, T.cl, T.made, cfs_made, m, us1, rfl, .inl (SqL.of hm1), ?_⟩
  have z1 : us1.length = R.length + s1.len := by rw [lu1, l1]
  rw [z1]
  refine rMeth rfl st1.ins rfl ⟨(by show 2 ≤ sizeLine; decide), fun p1 hp1 => pPut (r := .go 0) (st1.same (Same.new hp1)) (Tp.mk hp1 (.cons (.str _) (.cons (.int _) .nil))) (by omega) fun H2 st2 k2 => ⟨(by show 1 ≤ sizeLine; decide), fun p hp => ?_⟩⟩
  have k12 : Kp (BW m t w) H H2 := k1.trans (KpW ((Kp.new hp1).trans k2))
  have ap : Apart p c m t w := (st2.apart hp).of
  have hpH : H p = none := k12.free hp ap.nb
  have st2' := st2.same (Same.new (o := .lst [.int (((R ++ s1.code (R.length : Int) D (tnW w)).length : Nat) : Int)]) hp)
  generalize hH3 : L2.upd H2 p (.lst [.int (((R ++ s1.code (R.length : Int) D (tnW w)).length : Nat) : Int)]) = H3 at st2' ⊢
  have hp3 : H3 p = some (.lst [.int (((R ++ s1.code (R.length : Int) D (tnW w)).length : Nat) : Int)]) := by rw [← hH3]; exact upd_same
  have k13 : Kp (BW m t w) H H3 := by rw [← hH3]; exact k12.trans (Kp.new hp)
  rw [l1] at hp3
  clear hH3
  generalize hL0 : R ++ s1.code (R.length : Int) D (tnW w) ++ [Rw.go 0] = L0 at st2'
  have l0 : L0.length = R.length + s1.len + 1 := by rw [← hL0, List.length_append, l1]; rfl
  -- the invariant
  generalize hG : ((R.length + s1.len : Nat) : Int) = g0 at hp3 ⊢
  have tkH : ∀ {H'}, Kp (BW m t w) H H' → Tk H H' := fun k => st.tk k
  refine rd_ixT (j := 2) rfl ((tkH k13).sqT hT) rfl ⟨pa, rfl, ⟨_, (tkH k13).sqT hTp⟩, for_tup (K := K) (a := pa) (xs := pxs) (fun i σ H' => ∃ (r : Hds) (pre : List Rw) (bk lv : List Int) (v6 : Option V),
      σ = [some (.ref c), some (.ref a), some (.int D), some (.int (R.length : Int)), some (.int g0), some (.ref p), v6, none] ∧ CoSt K C dx H' c m t ts (addW bk w) (L0 ++ pre) ∧ Kp (BW m t w) H H' ∧ H' p = some (.lst (lv.map V.int)) ∧ lv.length ≤ L0.length + pre.length ∧
      TpAll K H (pxs.drop i) r.ds ∧ r.Wf cs nk w.isSome ∧ r.dep ≤ n ∧ pre.length + r.len = hs.len ∧ pre ++ r.code R.length g0 0 (g0 + 1 + pre.length) D (tnW w) = hs.code R.length g0 0 (g0 + 1) D (tnW w) ∧ bk ++ r.bks (g0 + 1 + pre.length) = s1.bks R.length ++ hs.bks (g0 + 1) ∧ lv ++ r.gos (g0 + 1 + pre.length) = g0 :: hs.gos (g0 + 1))
    ⟨hs, [], s1.bks R.length, [g0], none, rfl, st2'.lst (by simp), k13, hp3, by rw [l0]; simp, by rw [List.drop_zero]; exact htp, wh, by omega, by simp, by simp, by simp, by simp⟩ (fun i σ H' _ ⟨_, _, _, _, _, _, _, k', _⟩ => (tkH k').sqT hTp) ?_ ?_⟩
  · rintro i x σ H4 hx ⟨r, pre, bk, lv, v6, rfl, st4, k4, hp4, ll, tr, wr, dr, lr, er, eb, eg⟩
    obtain ⟨k, sl, tt, r', rfl, tx, tr'⟩ := hds_at tr hx
    obtain ⟨y, y0, y1, y2, rfl, hTx, u0, u1, u2⟩ := tx.tup3
    cases u1.intE
    obtain ⟨_, _, wt, wr'⟩ : (∀ j, k = some j → j < nk) ∧ sl < 8 ∧ tt.Wf cs nk w.isSome true ∧ r'.Wf cs nk w.isSome := wr
    have dr2 : max tt.dep r'.dep ≤ n := dr
    have lr2 : pre.length + (2 + tt.len + 2 + r'.len) = hs.len := lr
    refine rMeth rfl st4.ins rfl ⟨_, rfl, _, rfl, rd_ixT (j := 0) rfl ((tkH k4).sqT hTx) rfl ⟨_, rfl, (by show 5 ≤ sizeLine; decide), fun p5 hp5 => pPut (r := .hand R.length g0 k D) (st4.same (Same.new hp5)) (Tp.mk hp5 (.cons (.str _) (.cons (.int _) (.cons (.int _) (.cons (u0.mono (tkH k4)) (.cons (.int _) .nil)))))) (by simp; omega) fun H5 st5 k5 => ?_⟩⟩
    have k05 : Kp (BW m t w) H H5 := k4.trans (KpW ((Kp.new hp5).trans k5))
    refine rMeth rfl st5.ins rfl (rd_ixT (j := 1) rfl ((tkH k05).sqT hTx) rfl ⟨(by show 2 ≤ sizeLine; decide), fun p6 hp6 => pPut (r := .set sl) (st5.same (Same.new hp6)) (Tp.mk hp6 (.cons (.str _) (.cons (.int _) .nil))) (by simp; omega) fun H6 st6 k6 => ?_⟩)
    have k06 : Kp (BW m t w) H H6 := k05.trans (KpW ((Kp.new hp6).trans k6))
    refine rMeth rfl st6.ins rfl (rd_ixT (j := 2) rfl ((tkH k06).sqT hTx) rfl ⟨_, rfl, _, _, rfl, rfl, pLay (B := g0 + 1 + pre.length + 2) st6 (u2.mono (tkH k06)) (by rw [addW_some]; exact wt) (by omega) (by omega) (by simp; omega) trivial (by simp; omega) fun H7 st7 k7 => ?_⟩)
    rw [BW_add] at k7
    rw [tnW_add, addW_app] at st7
    have k07 := k06.trans k7
    refine rMeth rfl st7.ins rfl ⟨(by show 1 ≤ sizeLine; decide), fun p8 hp8 => pPut (r := .settled) (st7.same (Same.new hp8)) (Tp.mk hp8 (.cons (.str _) .nil)) (by simp [Sm.code_len]; omega) fun H8 st8 k8 => ?_⟩
    have k48 : Kp (BW m t w) H4 H8 := (((KpW ((Kp.new hp5).trans k5)).trans (KpW ((Kp.new hp6).trans k6))).trans k7).trans (KpW ((Kp.new hp8).trans k8))
    have hp8' := k48 _ _ hp4 ap.nb
    refine ⟨_, rfl, .inl ⟨rfl, _, SqL.of hp8'⟩, rMeth rfl st8.ins rfl ⟨(by show 2 ≤ sizeLine; decide), fun p9 hp9 => pPut (r := .go 0) (st8.same (Same.new hp9)) (Tp.mk hp9 (.cons (.str _) (.cons (.int _) .nil))) (by simp [Sm.code_len]; omega) fun H9 st9 k9 => ?_⟩⟩
    have k89 : Kp (BW m t w) H8 H9 := KpW ((Kp.new hp9).trans k9)
    have hp9' := k89 _ _ hp8' ap.nb
    refine ⟨p, _, _, rfl, rfl, hp9', sz_lt1 (by simp; omega), r', pre ++ ([.hand R.length g0 k D, .set sl] ++ tt.code (g0 + 1 + pre.length + 2) (D + 1) (tnW w) ++ [.settled, .go 0]), bk ++ tt.bks (g0 + 1 + pre.length + 2), lv ++ [g0 + 1 + pre.length + 2 + tt.len + 1], _, rfl, ?_, ?_, ?_, ?_, tr', wr', by omega, ?_, ?_, ?_, ?_⟩
    · exact (st9.other hp9' ap.add).lst (by simp)
    · exact ((k4.trans k48).trans k89).late hpH
    · rw [upd_same, List.map_append]
      have : ((((L0 ++ pre ++ [Rw.hand R.length g0 k D] ++ [Rw.set sl] ++ tt.code (g0 + 1 + pre.length + 2) (D + 1) (tnW w) ++ [Rw.settled]).length : Nat)) : Int) = g0 + 1 + pre.length + 2 + tt.len + 1 := by simp [Sm.code_len]; omega
      rw [this]; rfl
    · simp [Sm.code_len]; omega
    · simp [Sm.code_len]; omega
    · have e9 : g0 + 1 + ((pre ++ ([Rw.hand R.length g0 k D, .set sl] ++ tt.code (g0 + 1 + pre.length + 2) (D + 1) (tnW w) ++ [Rw.settled, Rw.go 0])).length : Int) = g0 + 1 + pre.length + 2 + tt.len + 2 := by simp [Sm.code_len]; omega
      rw [e9, ← er]
      simp [Hds.code]
    · have e9 : g0 + 1 + ((pre ++ ([Rw.hand R.length g0 k D, .set sl] ++ tt.code (g0 + 1 + pre.length + 2) (D + 1) (tnW w) ++ [Rw.settled, Rw.go 0])).length : Int) = g0 + 1 + pre.length + 2 + tt.len + 2 := by simp [Sm.code_len]; omega
      rw [e9, ← eb]
      simp [Hds.bks]
    · have e9 : g0 + 1 + ((pre ++ ([Rw.hand R.length g0 k D, .set sl] ++ tt.code (g0 + 1 + pre.length + 2) (D + 1) (tnW w) ++ [Rw.settled, Rw.go 0])).length : Int) = g0 + 1 + pre.length + 2 + tt.len + 2 := by simp [Sm.code_len]; omega
      rw [e9, ← eg]
      simp [Hds.gos]
  · rintro σ H4 ⟨r, pre, bk, lv, v6, rfl, st4, k4, hp4, ll, tr, wr, dr, lr, er, eb, eg⟩
    cases hds_end tr
    obtain rfl : pre = hs.code R.length g0 0 (g0 + 1) D (tnW w) := by simpa [Hds.code] using er
    obtain rfl : bk = s1.bks R.length ++ hs.bks (g0 + 1) := by simpa [Hds.bks] using eb
    obtain rfl : lv = g0 :: hs.gos (g0 + 1) := by simpa [Hds.gos] using eg
    generalize hL7 : L0 ++ hs.code R.length g0 0 (g0 + 1) D (tnW w) = L7 at st4
    have l7 : L7.length = R.length + s1.len + 1 + hs.len := by rw [← hL7, List.length_append, l0, Hds.code_len]
    refine ⟨_, rfl, p, rfl, ⟨_, SqL.of hp4⟩, for_list (K := K) (a := p) (xs := (g0 :: hs.gos (g0 + 1)).map V.int) (fun i σ H' => ∃ (v7 : Option V), σ = [some (.ref c), some (.ref a), some (.int D), some (.int (R.length : Int)), some (.int g0), some (.ref p), v6, v7] ∧ CoSt K C dx H' c m t ts (addW (s1.bks R.length ++ hs.bks (g0 + 1)) w) (fillAt (.go L7.length) ((g0 :: hs.gos (g0 + 1)).take i) L7) ∧ Kp (BW m t w) H H' ∧ H' p = some (.lst ((g0 :: hs.gos (g0 + 1)).map V.int)))
      ⟨none, rfl, st4, k4, hp4⟩ (fun i σ H' _ ⟨_, _, _, _, h'⟩ => SqL.of h') ?_ ?_⟩
    · rintro i x σ H9 hx ⟨v7, rfl, st9, k9, hp9⟩
      rw [List.getElem?_map] at hx
      cases hpi : (g0 :: hs.gos (g0 + 1))[i]? with
      | none => rw [hpi] at hx; cases hx
      | some q0 =>
        rw [hpi] at hx
        obtain rfl : V.int q0 = x := Option.some.inj hx
        have pb : 0 ≤ q0 ∧ q0 < L7.length := by
          rcases List.mem_cons.mp (List.mem_of_getElem? hpi) with z | z
          · omega
          · have := hs.gos_in (g0 + 1) q0 z
            omega
        obtain ⟨us9, hm9, lu9⟩ := st9.ln
        refine ⟨_, rfl, c, C, dx, _, _, rfl, st9.ins, T.cl, T.made, cfs_made, m, us9, rfl, .inl (SqL.of hm9), (by show 2 ≤ sizeLine; decide), fun p10 hp10 => ?_⟩
        rw [lu9, fillAt_length]
        have st10 := st9.same (Same.new (o := .tup [.str "go", .int (L7.length : Int)]) hp10)
        obtain ⟨us10, hm10, ix10, y10⟩ := st10.pset (k := q0) pb.1 (by rw [fillAt_length]; exact pb.2)
        refine ⟨_, rfl, c, C, dx, _, _, rfl, st10.ins, T.cl, T.made, cfs_made, _, rfl, m, us10, _, _, rfl, rfl, hm10, ix10, _, rfl, ?_, k9.trans ((Kp.new hp10).trans (Kp.upd (.inl rfl))), ?_⟩
        · rw [fillAt_take _ hpi]
          exact y10 _ _ (Tp.mk hp10 (.cons (.str _) (.cons (.int _) .nil)))
        · rw [upd_ne ap.nm.symm, upd_ne (ne_of_none hp9 hp10)]; exact hp9
    · rintro σ H9 ⟨v7, rfl, st9, k9, hp9⟩
      rw [List.length_map, List.take_length] at st9
      have efill : fillAt (.go L7.length) (g0 :: hs.gos (g0 + 1)) L7 = R ++ (Sm.tri s1 hs).code R.length D (tnW w) := by
        have e1 : L7 = (R ++ s1.code (R.length : Int) D (tnW w)) ++ Rw.go 0 :: hs.code R.length g0 0 (g0 + 1) D (tnW w) := by rw [← hL7, ← hL0]; simp
        have e2 : L7.set g0.toNat (.go L7.length) = (R ++ s1.code (R.length : Int) D (tnW w) ++ [Rw.go L7.length]) ++ hs.code R.length g0 0 (g0 + 1) D (tnW w) ++ [] := by
          generalize (L7.length : Int) = z
          rw [e1, set_mid (by rw [l1]; omega)]; simp
        show fillAt (.go L7.length) (hs.gos (g0 + 1)) (L7.set g0.toNat (.go L7.length)) = _
        rw [e2, Hds.fillG hs (g0 + 1) _ [] (by simp [Sm.code_len]; omega)]
        rw [l7, ← hG]
        simp [Sm.code]
      rw [efill] at st9
      refine q H9 ?_ k9
      rw [← hG] at st9
      exact st9
end
end Lp

/-! L4f: the program's coding: lay, table_of, coded. -/
namespace Lp
open PySem PySem.Spec PyProof.Rows L2
def t_Coder_lay (K : PySem.W.Frag) (C_Coder : Addr) (sp_Coder_lay : Sp) (sp_Coder_choice : Sp) (sp_Coder_loop : Sp) (sp_Coder_tried : Sp) (sp_Coder_cleaned : Sp) (sp_Coder_put : Sp) (sp_Coder_plain : Sp) : TS :=
  tSeq (tAsg (tOp (rIxT K) (tVar 1) (tC (.int 0))) (gName 3)) (tIfS (tTest (tOp rEq (tVar 3) (tC (.str "row")))) (tFor (iTup K (tOp (rIxT K) (tVar 1) (tC (.int 1)))) (gName 4) (tDrop (tMeth C_Coder "lay" sp_Coder_lay [] E0 (tVar 0) (tCons (tVar 4) (tCons (tVar 2) (tNil)))))) (tIfS (tTest (tOp rEq (tVar 3) (tC (.str "if")))) (tDrop (tMeth C_Coder "choice" sp_Coder_choice [] E0 (tVar 0) (tCons (tVar 1) (tCons (tVar 2) (tNil))))) (tIfS (tTest (tOp rEq (tVar 3) (tC (.str "while")))) (tDrop (tMeth C_Coder "loop" sp_Coder_loop [] E0 (tVar 0) (tCons (tVar 1) (tCons (tVar 2) (tNil))))) (tIfS (tTest (tOp rEq (tVar 3) (tC (.str "try")))) (tDrop (tMeth C_Coder "tried" sp_Coder_tried [] E0 (tVar 0) (tCons (tVar 1) (tCons (tVar 2) (tNil))))) (tIfS (tTest (tOp rEq (tVar 3) (tC (.str "clean")))) (tDrop (tMeth C_Coder "cleaned" sp_Coder_cleaned [] E0 (tVar 0) (tCons (tVar 1) (tCons (tVar 2) (tNil))))) (tIfS (tTest (tOp rEq (tVar 3) (tC (.str "break")))) (tDrop (tBM K "list" rAppend (tOp (rIxL K) (tOp (rIxL K) (tFld K (tVar 0) "turns") (tUn rNeg (tC (.int 1)))) (tC (.int 2))) (tCons (tMeth C_Coder "put" sp_Coder_put [] E0 (tVar 0) (tCons (tTup (tCons (tC (.str "leap")) (tCons (tC (.int 0)) (tCons (tOp (rIxL K) (tOp (rIxL K) (tFld K (tVar 0) "turns") (tUn rNeg (tC (.int 1)))) (tC (.int 1))) (tNil))))) (tNil))) (tNil)))) (tIfS (tTest (tOp rEq (tVar 3) (tC (.str "continue")))) (tDrop (tMeth C_Coder "put" sp_Coder_put [] E0 (tVar 0) (tCons (tTup (tCons (tC (.str "leap")) (tCons (tOp (rIxL K) (tOp (rIxL K) (tFld K (tVar 0) "turns") (tUn rNeg (tC (.int 1)))) (tC (.int 0))) (tCons (tOp (rIxL K) (tOp (rIxL K) (tFld K (tVar 0) "turns") (tUn rNeg (tC (.int 1)))) (tC (.int 1))) (tNil))))) (tNil)))) (tDrop (tMeth C_Coder "plain" sp_Coder_plain [] E0 (tVar 0) (tCons (tVar 1) (tNil)))))))))))

def t_table_of (K : PySem.W.Frag) : TS :=
  tSeq (tAsg (tLst (tNil)) (gName 1)) (tSeq (tFor (iEnT K (tCons (tVar 0) (tNil))) (gTup K 2 (gCons (gName 2) (gCons (gName 3) gNil))) (tSeq (tIfS (tTest (tOp rEq (tOp (rIxT K) (tVar 3) (tC (.int 0))) (tC (.str "handler")))) (tDrop (tBM K "list" rAppend (tVar 1) (tCons (tTup (tCons (tOp (rIxT K) (tVar 3) (tC (.int 1))) (tCons (tOp (rIxT K) (tVar 3) (tC (.int 2))) (tCons (tC (.str "handler")) (tCons (tOp (rIxT K) (tVar 3) (tC (.int 3))) (tCons (tVar 2) (tCons (tOp (rIxT K) (tVar 3) (tC (.int 4))) (tNil)))))))) (tNil)))) (tNext)) (tIfS (tTest (tOp rEq (tOp (rIxT K) (tVar 3) (tC (.int 0))) (tC (.str "cleanup")))) (tDrop (tBM K "list" rAppend (tVar 1) (tCons (tTup (tCons (tOp (rIxT K) (tVar 3) (tC (.int 1))) (tCons (tOp (rIxT K) (tVar 3) (tC (.int 2))) (tCons (tC (.str "cleanup")) (tCons (tC .non) (tCons (tVar 2) (tCons (tOp (rIxT K) (tVar 3) (tC (.int 3))) (tNil)))))))) (tNil)))) (tNext)))) (tRet (tCB (rTupOf K) (tCons (tVar 1) (tNil)))))

def t_coded (K : PySem.W.Frag) (C_Coder : Addr) (sp_Coder_init : Sp) (sp_Coder_lay : Sp) (sp_Coder_put : Sp) (sp_table_of : Sp) : TS :=
  tSeq (tAsg (tLst (tNil)) (gName 1)) (tSeq (tFor (iTup K (tOp (rIxT K) (tVar 0) (tC (.int 1)))) (gName 2) (tSeq (tAsg (tMake C_Coder sp_Coder_init [] E0 tNil) (gName 3)) (tSeq (tDrop (tMeth C_Coder "lay" sp_Coder_lay [] E0 (tVar 3) (tCons (tOp (rIxT K) (tVar 2) (tC (.int 1))) (tCons (tC (.int 0)) (tNil))))) (tSeq (tDrop (tMeth C_Coder "put" sp_Coder_put [] E0 (tVar 3) (tCons (tTup (tCons (tC (.str "num")) (tCons (tC (.int 0)) (tNil)))) (tNil)))) (tSeq (tDrop (tMeth C_Coder "put" sp_Coder_put [] E0 (tVar 3) (tCons (tTup (tCons (tC (.str "return")) (tNil))) (tNil)))) (tSeq (tAsg (tCB (rTupOf K) (tCons (tFld K (tVar 3) "made") (tNil))) (gName 4)) (tDrop (tBM K "list" rAppend (tVar 1) (tCons (tTup (tCons (tOp (rIxT K) (tVar 2) (tC (.int 0))) (tCons (tVar 4) (tCons (tCall sp_table_of [] E0 (tCons (tVar 4) (tNil))) (tNil))))) (tNil)))))))))) (tRet (tCB (rTupOf K) (tCons (tVar 1) (tNil)))))

section
variable {K : PySem.W.Frag} {C : Addr}
abbrev N_lay : List Str := ["self", "one", "depth", "word", "part"]
theorem rd_lay (T : CoTxt K C) {n : Nat} (vs : List V) (H : Hp) (Q : VK) (E : XK) (h : spLay K C PAny (n + 1) vs H Q E) : t_Coder_lay K C (spLay K C PAny n) (spLay K C PIf (n + 1)) (spLay K C PWhl (n + 1)) (spLay K C PTri (n + 1)) (spLay K C PCln (n + 1)) (spPut C) (spPlain K C) { nx := fun _ H' => Q .non H', rt := Q } (start N_lay vs) H := by
  obtain ⟨c, dx, m, t, ts, w, R, v, s, D, cs, nk, hand, rfl, st, ht, wf, hd, hts, hz, _, q⟩ := h.ex
  have word : ∀ (a : Addr) (xs : List V) (z : Str), v = .ref a → SqT K H a xs → xs[0]? = some (.str z) → (V.str z ≠ .str "row" ∧ V.str z ≠ .str "if" ∧ V.str z ≠ .str "while" ∧ V.str z ≠ .str "try" ∧ V.str z ≠ .str "clean" ∧ V.str z ≠ .str "break" ∧ V.str z ≠ .str "continue") → s.plain = true → s ≠ .brk → s ≠ .cnt → s.bks R.length = [] → s.code R.length D (tnW w) = s.code 0 0 (0, 0, 0) →
      t_Coder_lay K C (spLay K C PAny n) (spLay K C PIf (n + 1)) (spLay K C PWhl (n + 1)) (spLay K C PTri (n + 1)) (spLay K C PCln (n + 1)) (spPut C) (spPlain K C) { nx := fun _ H' => Q .non H', rt := Q } (start N_lay [.ref c, v, .int D]) H := by
    rintro a xs z rfl hT hw ⟨n1, n2, n3, n4, n5, n6, n7⟩ pl nb nc eb ec
    refine rd_ixT (j := 0) rfl hT hw (r_ifF (pb_is (pb_eqS rfl) (dF n1)) (r_ifF (pb_is (pb_eqS rfl) (dF n2)) (r_ifF (pb_is (pb_eqS rfl) (dF n3)) (r_ifF (pb_is (pb_eqS rfl) (dF n4)) (r_ifF (pb_is (pb_eqS rfl) (dF n5)) (r_ifF (pb_is (pb_eqS rfl) (dF n6)) (r_ifF (pb_is (pb_eqS rfl) (dF n7)) ?_)))))))
    refine rMeth rfl st.ins rfl ⟨_, rfl, ⟨⟨c, dx, m, t, ts, w, R, _, s, cs, nk, w.isSome, hand, rfl, st, ht, wf, pl, nb, nc, hz, fun H' st' k' => ?_⟩⟩⟩
    refine q H' ?_ (KpW k')
    rw [eb, addW_nil, ec]
    exact st'
  cases s with
  | say e =>
    obtain ⟨a, x0, x1, rfl, hT, h0, h1⟩ := id ht.tup2
    cases h0.strE
    exact word a _ "say" rfl hT rfl (by decide) rfl (by simp) (by simp) rfl rfl
  | set k e =>
    obtain ⟨a, x0, x1, x2, rfl, hT, h0, h1, h2⟩ := id ht.tup3
    cases h0.strE
    exact word a _ "set" rfl hT rfl (by decide) rfl (by simp) (by simp) rfl rfl
  | again =>
    obtain ⟨a, x0, rfl, hT, h0⟩ := id ht.tup1
    cases h0.strE
    exact word a _ "again" rfl hT rfl (by decide) rfl (by simp) (by simp) rfl rfl
  | ret e =>
    obtain ⟨a, x0, x1, rfl, hT, h0, h1⟩ := id ht.tup2
    cases h0.strE
    exact word a _ "return" rfl hT rfl (by decide) rfl (by simp) (by simp) rfl rfl
  | call k f ps m =>
    obtain ⟨a, x0, x1, x2, x3, x4, rfl, hT, h0, h1, h2, h3, h4⟩ := id ht.tup5
    cases h0.strE
    exact word a _ "call" rfl hT rfl (by decide) rfl (by simp) (by simp) rfl rfl
  | rais kd e m =>
    obtain ⟨a, x0, x1, x2, x3, rfl, hT, h0, h1, h2, h3⟩ := id ht.tup4
    cases h0.strE
    exact word a _ "raise" rfl hT rfl (by decide) rfl (by simp) (by simp) rfl rfl
  | brk =>
    obtain ⟨a, x0, rfl, hT, h0⟩ := id ht.tup1
    cases h0.strE
    have wt : w.isSome = true := wf
    have hl : R.length + 1 ≤ 100000 := hz
    cases w with
    | none => cases wt
    | some x =>
      obtain ⟨_, _, hpl, _, _, plm, plt, _⟩ := st.trn.wh x rfl
      refine rd_ixT (j := 0) rfl hT rfl (r_ifF (pb_is (pb_eqS rfl) rfl) (r_ifF (pb_is (pb_eqS rfl) rfl) (r_ifF (pb_is (pb_eqS rfl) rfl) (r_ifF (pb_is (pb_eqS rfl) rfl) (r_ifF (pb_is (pb_eqS rfl) rfl) (r_ifT (pb_is (pb_eqS rfl) rfl) ?_))))))
      refine pTurn (j := 2) T st rfl rfl ⟨.inl ⟨rfl, _, SqL.of hpl⟩, rMeth rfl st.ins rfl (pTurn (j := 1) T st rfl rfl ⟨(by show 3 ≤ sizeLine; decide), fun p1 hp1 => pPut (r := .leap 0 x.D) (st.same (Same.new hp1)) (Tp.mk hp1 (.cons (.str _) (.cons (.int _) (.cons (.int _) .nil)))) (by omega) fun H2 st2 k2 => ?_⟩)⟩
      have lps := st.psl x rfl
      obtain ⟨hr, hu2, hpl2, um, ut, _, _, plu⟩ := st2.trn.wh x rfl
      refine ⟨x.pl, _, _, rfl, rfl, hpl2, sz_lt1 (by simp; omega), ?_⟩
      obtain ⟨us2, hm2, tus2⟩ := st2.made
      refine q _ ⟨by rw [upd_ne (ne_of st2.ins hpl2 (by intro z; cases z))]; exact st2.ins, ⟨us2, by rw [upd_ne plm.symm]; exact hm2, tus2.mono (Tk.lst hpl2)⟩, ⟨by rw [upd_ne plt.symm]; exact st2.trn.turns, st2.trn.tm, fun y hy => ?_⟩, fun y hy => ?_⟩ ((KpW ((Kp.new hp1).trans k2)).trans (Kp.upd (.inr (.inr ⟨x, rfl, rfl⟩))))
      · cases hy
        refine ⟨hr, by rw [upd_ne plu.symm]; exact hu2, ?_, um, ut, plm, plt, plu⟩
        rw [upd_same, List.map_append]; rfl
      · cases hy
        simp [Sm.bks, Sm.code]; omega
  | cnt =>
    obtain ⟨a, x0, rfl, hT, h0⟩ := id ht.tup1
    cases h0.strE
    have wt : w.isSome = true := wf
    have hl : R.length + 1 ≤ 100000 := hz
    cases w with
    | none => cases wt
    | some x =>
      refine rd_ixT (j := 0) rfl hT rfl (r_ifF (pb_is (pb_eqS rfl) rfl) (r_ifF (pb_is (pb_eqS rfl) rfl) (r_ifF (pb_is (pb_eqS rfl) rfl) (r_ifF (pb_is (pb_eqS rfl) rfl) (r_ifF (pb_is (pb_eqS rfl) rfl) (r_ifF (pb_is (pb_eqS rfl) rfl) (r_ifT (pb_is (pb_eqS rfl) rfl) ?_)))))))
      refine rMeth rfl st.ins rfl (pTurn (j := 0) T st rfl rfl (pTurn (j := 1) T st rfl rfl ⟨(by show 3 ≤ sizeLine; decide), fun p1 hp1 => pPut (r := .leap x.top x.D) (st.same (Same.new hp1)) (Tp.mk hp1 (.cons (.str _) (.cons (.int _) (.cons (.int _) .nil)))) (by omega) fun H2 st2 k2 => ?_⟩))
      refine q H2 ?_ (KpW ((Kp.new hp1).trans k2))
      rw [show (Sm.cnt).bks (R.length : Int) = [] from rfl, addW_nil]
      exact st2
  | ife e s1 s2 =>
    obtain ⟨a, x0, x1, x2, x3, rfl, hT, h0, h1, h2, h3⟩ := id ht.tup4
    cases h0.strE
    refine rd_ixT (j := 0) rfl hT rfl (r_ifF (pb_is (pb_eqS rfl) rfl) (r_ifT (pb_is (pb_eqS rfl) rfl) ?_))
    exact rMeth rfl st.ins rfl ⟨_, rfl, _, rfl, pLay st ht wf hd hts hz ⟨_, _, _, rfl⟩ rfl q⟩
  | whl e s1 =>
    obtain ⟨a, x0, x1, x2, rfl, hT, h0, h1, h2⟩ := id ht.tup3
    cases h0.strE
    refine rd_ixT (j := 0) rfl hT rfl (r_ifF (pb_is (pb_eqS rfl) rfl) (r_ifF (pb_is (pb_eqS rfl) rfl) (r_ifT (pb_is (pb_eqS rfl) rfl) ?_)))
    exact rMeth rfl st.ins rfl ⟨_, rfl, _, rfl, pLay st ht wf hd hts hz ⟨_, _, rfl⟩ rfl q⟩
  | tri s1 hs =>
    obtain ⟨a, x0, x1, x2, rfl, hT, h0, h1, h2⟩ := id ht.tup3
    cases h0.strE
    refine rd_ixT (j := 0) rfl hT rfl (r_ifF (pb_is (pb_eqS rfl) rfl) (r_ifF (pb_is (pb_eqS rfl) rfl) (r_ifF (pb_is (pb_eqS rfl) rfl) (r_ifT (pb_is (pb_eqS rfl) rfl) ?_))))
    exact rMeth rfl st.ins rfl ⟨_, rfl, _, rfl, pLay st ht wf hd hts hz ⟨_, _, rfl⟩ rfl q⟩
  | cln s1 s2 =>
    obtain ⟨a, x0, x1, x2, rfl, hT, h0, h1, h2⟩ := id ht.tup3
    cases h0.strE
    refine rd_ixT (j := 0) rfl hT rfl (r_ifF (pb_is (pb_eqS rfl) rfl) (r_ifF (pb_is (pb_eqS rfl) rfl) (r_ifF (pb_is (pb_eqS rfl) rfl) (r_ifF (pb_is (pb_eqS rfl) rfl) (r_ifT (pb_is (pb_eqS rfl) rfl) ?_)))))
    exact rMeth rfl st.ins rfl ⟨_, rfl, _, rfl, pLay st ht wf hd hts hz ⟨_, _, rfl⟩ rfl q⟩
  | row ps =>
    obtain ⟨a, x0, x1, rfl, hT, h0, h1⟩ := id ht.tup2
    cases h0.strE
    obtain ⟨pa, pxs, rfl, hTp, htp⟩ := h1.tupE
    have ws : ps.Wf cs nk w.isSome hand := wf
    have hd' : ps.dep + 1 ≤ n + 1 := hd
    have hl : R.length + ps.len ≤ 100000 := hz
    refine rd_ixT (j := 0) rfl hT rfl (r_ifT (pb_is (pb_eqS rfl) rfl) ?_)
    refine rd_ixT (j := 1) rfl hT rfl ⟨pa, rfl, ⟨_, hTp⟩, for_tup (K := K) (a := pa) (xs := pxs) (fun i σ H' => ∃ (r : Sms) (pre : List Rw) (bk : List Int) (v4 : Option V),
        σ = [some (.ref c), some (.ref a), some (.int D), some (.str "row"), v4] ∧ CoSt K C dx H' c m t ts (addW bk w) (R ++ pre) ∧ Kp (BW m t w) H H' ∧ TpAll K H (pxs.drop i) r.ds ∧ r.Wf cs nk w.isSome hand ∧ r.dep ≤ n ∧ pre.length + r.len = ps.len ∧ pre ++ r.code ((R.length : Int) + pre.length) D (tnW w) = ps.code R.length D (tnW w) ∧ bk ++ r.bks ((R.length : Int) + pre.length) = ps.bks R.length)
      ⟨ps, [], [], none, rfl, by rw [addW_nil]; exact st.lst (by simp), Kp.refl _ _, by rw [List.drop_zero]; exact htp, ws, by omega, by simp, by simp, by simp⟩ (fun i σ H' _ ⟨_, _, _, _, _, _, k', _⟩ => (st.tk k').sqT hTp) ?_ ?_⟩
    · rintro i x σ H4 hx ⟨r, pre, bk, v4, rfl, st4, k4, tr, wr, dr, lr, er, eb⟩
      obtain ⟨s1, r', rfl, tx, tr'⟩ := sms_at tr hx
      obtain ⟨w1, w2⟩ : s1.Wf cs nk w.isSome hand ∧ r'.Wf cs nk w.isSome hand := wr
      have dr2 : max s1.dep r'.dep ≤ n := dr
      have lr2 : pre.length + (s1.len + r'.len) = ps.len := lr
      refine rMeth rfl st4.ins rfl ⟨_, rfl, _, rfl, pLay (B := (R.length : Int) + pre.length) st4 (tx.mono (st.tk k4)) (by rw [addW_some]; exact w1) (by omega) (by omega) (by simp; omega) trivial (by simp) fun H5 st5 k5 => ?_⟩
      rw [BW_add] at k5
      rw [tnW_add, addW_app] at st5
      have e9 : (R.length : Int) + ((pre ++ s1.code ((R.length : Int) + pre.length) D (tnW w)).length : Int) = (R.length : Int) + pre.length + s1.len := by simp [Sm.code_len]; omega
      refine ⟨r', pre ++ s1.code ((R.length : Int) + pre.length) D (tnW w), bk ++ s1.bks ((R.length : Int) + pre.length), _, rfl, st5.lst (by simp), k4.trans k5, tr', w2, by omega, by simp [Sm.code_len]; omega, ?_, ?_⟩
      · rw [e9, ← er]; simp [Sms.code]
      · rw [e9, ← eb]; simp [Sms.bks]
    · rintro σ H4 ⟨r, pre, bk, v4, rfl, st4, k4, tr, wr, dr, lr, er, eb⟩
      cases sms_end tr
      obtain rfl : pre = ps.code R.length D (tnW w) := by simpa [Sms.code] using er
      obtain rfl : bk = ps.bks R.length := by simpa [Sms.bks] using eb
      exact q H4 st4 k4
abbrev N_table_of : List Str := ["rows", "found", "place", "row"]
theorem rd_table_of (vs : List V) (H : Hp) (Q : VK) (E : XK) (h : spTable (K := K) vs H Q E) : t_table_of K { nx := fun _ H' => Q .non H', rt := Q } (start N_table_of vs) H := by
  obtain ⟨v, rows, rfl, ht, hz, q⟩ := h
  obtain ⟨a, xs, rfl, hT, hts⟩ := ht.tupE
  have lx : xs.length = rows.length := by rw [hts.length, List.length_map]
  refine ⟨(by show 0 ≤ sizeLine; decide), fun p hp => ?_⟩
  have s0 : Same H (L2.upd H p (.lst [])) := Same.new hp
  refine ⟨_, rfl, a, xs, rfl, s0.sqT hT, for_enT (K := K) (a := a) (xs := xs) (fun i σ H' => ∃ (tv : List V) (v2 v3 : Option V), σ = [some (.ref a), some (.ref p), v2, v3] ∧ Same H H' ∧ H' p = some (.lst tv) ∧ TpAll K H' tv ((tabAt 0 (rows.take i)).map Tb.d))
    ⟨[], none, none, rfl, s0, upd_same, by simp [tabAt]; exact .nil⟩ (fun i σ H' _ ⟨_, _, _, _, s', _⟩ => s'.sqT hT) ?_ ?_⟩
  · rintro i x σ H0 T hx ⟨tv, v2, v3, rfl, s00, hp0, tt0⟩ hTn
    have hi1 : i < xs.length := (List.getElem?_eq_some_iff.mp hx).1
    have hi2 : i < rows.length := by omega
    have er : rows[i]? = some rows[i] := List.getElem?_eq_getElem hi2
    have ed : (rows.map Rw.d)[i]? = some (rows[i]).d := by rw [List.getElem?_map, er]; rfl
    obtain ⟨x', hx', tx⟩ := hts.get' ed
    obtain rfl : x' = x := by rw [hx] at hx'; exact (Option.some.inj hx').symm
    refine ⟨T, _, rfl, SqT.of upd_same, rfl, _, _, rfl, _, _, rfl, rfl, ?_⟩
    have sT : Same H0 (L2.upd H0 T (.tup [.int (i : Int), x'])) := Same.new hTn
    generalize L2.upd H0 T (.tup [.int (i : Int), x']) = H1 at sT ⊢
    have s1 := s00.trans sT
    have hp1 := sT _ _ hp0
    have tt := tt0.mono (Tk.same sT)
    have tx1 := tx.mono (Tk.same s1)
    have etk := tab_take er
    have ltv : tv.length < 1000000 := by
      have h1 := tt.length
      rw [List.length_map] at h1
      have h2 := tabAt_len (rows.take i) 0
      rw [List.length_take] at h2
      omega
    have fin : ∀ (t : Tb) (ws : List V) (ds : List PyData), tbOf (i : Int) rows[i] = [t] → t.d = .tuple ds → ∀ (H2 : Hp), Same H1 H2 → TpAll K H2 ws ds → ∀ p2, H2 p2 = none → H2 p = some (.lst tv) → ∃ (tv' : List V) (v2 v3 : Option V), [some (V.ref a), some (.ref p), some (.int (i : Int)), some x'] = [some (.ref a), some (.ref p), v2, v3] ∧ Same H (L2.upd (L2.upd H2 p2 (.tup ws)) p (.lst (tv ++ [.ref p2]))) ∧
        (L2.upd (L2.upd H2 p2 (.tup ws)) p (.lst (tv ++ [.ref p2]))) p = some (.lst tv') ∧ TpAll K (L2.upd (L2.upd H2 p2 (.tup ws)) p (.lst (tv ++ [.ref p2]))) tv' ((tabAt 0 (rows.take (i + 1))).map Tb.d) := by
      intro t ws ds et ed2 H2 s2 tw p2 hp2 hpp
      have s3 : Same H1 (L2.upd H2 p2 (.tup ws)) := s2.trans (Same.new hp2)
      refine ⟨tv ++ [.ref p2], _, _, rfl, fun b u e => by rw [upd_ne (ne_of_none e hp)]; exact s3 b u (s1 b u e), upd_same, ?_⟩
      rw [etk, et, List.map_append]
      have : Tp K (L2.upd H2 p2 (.tup ws)) (.ref p2) t.d := by rw [ed2]; exact Tp.mk hp2 tw
      exact ((tt.mono (Tk.same s3)).snoc this).mono (Tk.lst (by rw [upd_ne (ne_of_none hpp hp2)]; exact hpp))
    rcases row_word rows[i] with ⟨b, y, k, D, e⟩ | ⟨b, y, D, e⟩ | ⟨enil, w, ds, e, n1, n2⟩
    · rw [e] at tx1
      obtain ⟨ax, y0, y1, y2, y3, y4, rfl, hTx, k0, k1, k2, k3, k4⟩ := tx1.tup5
      cases k0.strE; cases k1.intE; cases k2.intE; cases k4.intE
      refine rd_ixT (j := 0) rfl hTx rfl ⟨rfl, _, rfl, ifT rfl ?_⟩
      refine ⟨_, rfl, .inl ⟨rfl, _, SqL.of hp1⟩, rd_ixT (j := 1) rfl hTx rfl (rd_ixT (j := 2) rfl hTx rfl (rd_ixT (j := 3) rfl hTx rfl ⟨_, rfl, rd_ixT (j := 4) rfl hTx rfl ⟨(by show 6 ≤ sizeLine; decide), fun p2 hp2 => ?_⟩⟩))⟩
      have pp : L2.upd H1 p2 (.tup [.int b, .int y, .str "handler", y3, .int (i : Int), .int D]) p = some (.lst tv) := by rw [upd_ne (ne_of_none hp1 hp2)]; exact hp1
      refine ⟨p, tv, _, rfl, rfl, pp, sz_lt1 ltv, ?_⟩
      obtain ⟨tv', w2, w3, z1, z2, z3, z4⟩ := fin ⟨b, y, some k, i, D⟩ [.int b, .int y, .str "handler", y3, .int (i : Int), .int D] _ (by rw [e]; rfl) rfl H1 (Same.refl _) (.cons (.int _) (.cons (.int _) (.cons (.str _) (.cons k3 (.cons (.int _) (.cons (.int _) .nil)))))) p2 hp2 hp1
      -- the second look: not a cleanup
      refine rd_ixT (j := 0) rfl (Tk.sqT (Tk.trans (Tk.new hp2) (Tk.lst pp)) hTx) rfl ⟨rfl, _, rfl, ifF rfl ?_⟩
      exact ⟨tv', w2, w3, z1, z2, z3, z4⟩
    · rw [e] at tx1
      obtain ⟨ax, y0, y1, y2, y3, rfl, hTx, k0, k1, k2, k3⟩ := tx1.tup4
      cases k0.strE; cases k1.intE; cases k2.intE; cases k3.intE
      refine rd_ixT (j := 0) rfl hTx rfl ⟨rfl, _, rfl, ifF rfl ?_⟩
      refine rd_ixT (j := 0) rfl hTx rfl ⟨rfl, _, rfl, ifT rfl ?_⟩
      refine ⟨_, rfl, .inl ⟨rfl, _, SqL.of hp1⟩, rd_ixT (j := 1) rfl hTx rfl (rd_ixT (j := 2) rfl hTx rfl ⟨_, rfl, rd_ixT (j := 3) rfl hTx rfl ⟨(by show 6 ≤ sizeLine; decide), fun p2 hp2 => ?_⟩⟩)⟩
      have pp : L2.upd H1 p2 (.tup [.int b, .int y, .str "cleanup", .non, .int (i : Int), .int D]) p = some (.lst tv) := by rw [upd_ne (ne_of_none hp1 hp2)]; exact hp1
      refine ⟨p, tv, _, rfl, rfl, pp, sz_lt1 ltv, ?_⟩
      exact fin ⟨b, y, none, i, D⟩ [.int b, .int y, .str "cleanup", .non, .int (i : Int), .int D] _ (by rw [e]; rfl) rfl H1 (Same.refl _) (.cons (.int _) (.cons (.int _) (.cons (.str _) (.cons .non (.cons (.int _) (.cons (.int _) .nil)))))) p2 hp2 hp1
    · rw [e] at tx1
      obtain ⟨ax, ys, rfl, hTx, tys⟩ := tx1.tupE
      obtain ⟨y0, yr, rfl, k0, _⟩ := tys.consE
      cases k0.strE
      refine rd_ixT (j := 0) rfl hTx rfl ⟨rfl, _, rfl, ifF (dF n1) ?_⟩
      refine rd_ixT (j := 0) rfl hTx rfl ⟨rfl, _, rfl, ifF (dF n2) ?_⟩
      exact ⟨tv, _, _, rfl, s1, hp1, by rw [etk, enil, List.append_nil]; exact tt⟩
  · rintro σ H1 ⟨tv, v2, v3, rfl, s1, hp1, tt⟩
    rw [List.take_of_length_le (by omega)] at tt
    refine ⟨_, rfl, p, tv, rfl, .inl ⟨SqL.of hp1, fun p2 hp2 => ?_⟩⟩
    exact q (.ref p2) _ (Tp.mk hp2 tt) (s1.trans (Same.new hp2))
/-- what a program's coding needs -/
structure PgK (p : Pg) (n : Nat) : Prop where
  body : ∀ f ∈ p.funs, (∃ cs nk, f.2.Wf cs nk false false) ∧ f.2.dep ≤ n ∧ f.2.len ≤ 90000
  few : p.funs.length ≤ 1000
  n900 : n ≤ 900
def spCoded (n : Nat) : Sp := fun vs H Q _ => ∃ (v : V) (p : Pg), vs = [v] ∧ Tp K H v p.d ∧ PgK p n ∧ NewT K H Q (codeD p.code)
abbrev N_coded : List Str := ["program", "found", "function", "coder", "rows"]
theorem rd_coded (T : CoTxt K C) {n : Nat} (vs : List V) (H : Hp) (Q : VK) (E : XK) (h : spCoded (K := K) n vs H Q E) : t_coded K C (spCoInit C) (spLay K C PAny n) (spPut C) (spTable (K := K)) { nx := fun _ H' => Q .non H', rt := Q } (start N_coded vs) H := by
  obtain ⟨v, p, rfl, ht, ok, q⟩ := h
  obtain ⟨a, x0, x1, rfl, hT, h0, h1⟩ := ht.tup2
  obtain ⟨fa, fxs, rfl, hTf, htf⟩ := h1.tupE
  have lx : fxs.length = p.funs.length := by rw [htf.length, List.length_map]
  refine ⟨(by show 0 ≤ sizeLine; decide), fun l hl => ?_⟩
  have s0 : Same H (L2.upd H l (.lst [])) := Same.new hl
  refine rd_ixT (j := 1) rfl (s0.sqT hT) rfl ⟨fa, rfl, ⟨_, s0.sqT hTf⟩, for_tup (K := K) (a := fa) (xs := fxs) (fun i σ H' => ∃ (cv : List V) (v2 v3 v4 : Option V), σ = [some (.ref a), some (.ref l), v2, v3, v4] ∧ Same H H' ∧ H' l = some (.lst cv) ∧ TpAll K H' cv ((p.code.take i).map Fc.d))
    ⟨[], none, none, none, rfl, s0, upd_same, .nil⟩ (fun i σ H' _ ⟨_, _, _, _, _, s', _⟩ => s'.sqT hTf) ?_ ?_⟩
  · rintro i x σ H1 hx ⟨cv, v2, v3, v4, rfl, s1, hc1, tc⟩
    obtain ⟨d, hd, td⟩ := htf.get hx
    rw [List.getElem?_map] at hd
    cases ef : p.funs[i]? with
    | none => rw [ef] at hd; cases hd
    | some f =>
      rw [ef] at hd
      obtain rfl : funD f = d := Option.some.inj hd
      obtain ⟨ax, y0, y1, rfl, hTx, k0, k1⟩ := td.tup2
      cases k0.intE
      obtain ⟨⟨cs, nk, okw⟩, okd, okl⟩ := ok.body f (List.mem_of_getElem? ef)
      have ilt : i < 1000 := by
        have := (List.getElem?_eq_some_iff.mp ef).1
        have := ok.few
        omega
      refine fun c dx hc hdx dxc => ⟨c, dx, rfl, upd_same, fun m t H2 hm ht tm hc2 hm2 ht2 k2 => ⟨rfl, ?_⟩⟩
      -- nothing of what stood has changed
      have s12 : Same H1 H2 := fun b o e => by
        have bc := ne_of_none e hc
        refine k2 _ _ ?_ bc
        rw [upd_ne bc, upd_ne (ne_of_none e hdx)]; exact e
      have free1 : ∀ z, L2.upd (L2.upd H1 dx (.own c)) c (.ins C dx []) z = none → H1 z = none := fun z e => by
        cases q : H1 z with
        | none => rfl
        | some o =>
          rw [upd_ne (ne_of_none q hc), upd_ne (ne_of_none q hdx), q] at e
          cases e
      have hm1 := free1 m hm
      have ht1 := free1 t ht
      have st2 : CoSt K C dx H2 c m t [] none [] := ⟨hc2, ⟨[], hm2, .nil⟩, ⟨ht2, tm, fun x hx => by cases hx⟩, fun x hx => by cases hx⟩
      have k1' := (k1.mono (Tk.same s1)).mono (Tk.same s12)
      refine rMeth rfl st2.ins rfl (rd_ixT (j := 1) rfl (s12.sqT (s1.sqT hTx)) rfl (pLay (B := 0) st2 k1' okw okd (by have := ok.n900; simp; omega) (by simp; omega) trivial rfl fun H3 st3 k3 => ?_))
      have st3 : CoSt K C dx H3 c m t [] none (f.2.code 0 0 (0, 0, 0)) := st3.lst (by simp [tnW])
      refine rMeth rfl st3.ins rfl ⟨(by show 2 ≤ sizeLine; decide), fun p1 hp1 => pPut (r := .num 0) (st3.same (Same.new hp1)) (Tp.mk hp1 (.cons (.str _) (.cons (.int _) .nil))) (by simp [Sm.code_len]; omega) fun H4 st4 k4 => ?_⟩
      refine rMeth rfl st4.ins rfl ⟨(by show 1 ≤ sizeLine; decide), fun p2 hp2 => pPut (r := .ret) (st4.same (Same.new hp2)) (Tp.mk hp2 (.cons (.str _) .nil)) (by simp [Sm.code_len]; omega) fun H5 st5 k5 => ?_⟩
      have st5 : CoSt K C dx H5 c m t [] none (bodyRows f.2) := st5.lst (by simp [bodyRows])
      have k25 : Kp (BW m t none) H2 H5 := (k3.trans (KpW ((Kp.new hp1).trans k4))).trans (KpW ((Kp.new hp2).trans k5))
      have s15 : Same H1 H5 := fun b o e => k25 _ _ (s12 _ _ e) (by
        rintro (z | z | ⟨x, z, _⟩)
        · exact ne_of_none e hm1 z
        · exact ne_of_none e ht1 z
        · cases z)
      obtain ⟨us5, hm5, tus5⟩ := st5.made
      refine ⟨_, rfl, c, C, dx, _, _, rfl, st5.ins, T.cl, T.made, cfs_made, m, us5, rfl, .inl ⟨SqL.of hm5, fun p5 hp5 => ?_⟩⟩
      have s5 : Same H1 (L2.upd H5 p5 (.tup us5)) := s15.trans (Same.new hp5)
      have tR : Tp K (L2.upd H5 p5 (.tup us5)) (.ref p5) (.tuple ((bodyRows f.2).map Rw.d)) := Tp.mk hp5 tus5
      refine ⟨_, rfl, .inl ⟨rfl, _, SqL.of (s5 _ _ hc1)⟩, rd_ixT (j := 0) rfl ((s1.trans s5).sqT hTx) rfl ⟨_, rfl, _, rfl, .ref p5, bodyRows f.2, rfl, tR, by simp [bodyRows, Sm.code_len]; omega, fun w H6 t6 s6 => ⟨(by show 3 ≤ sizeLine; decide), fun p7 hp7 => ?_⟩⟩⟩
      have hc6 := s6 _ _ (s5 _ _ hc1)
      have hc7 : L2.upd H6 p7 (.tup [.int (f.1 : Int), .ref p5, w]) l = some (.lst cv) := by rw [upd_ne (ne_of_none hc6 hp7)]; exact hc6
      have lcv : cv.length < 1000000 := by
        have := tc.length
        rw [List.length_map, List.length_take] at this
        omega
      have sZ : Same H1 (L2.upd H6 p7 (.tup [.int (f.1 : Int), .ref p5, w])) := (s5.trans s6).trans (Same.new hp7)
      refine ⟨l, cv, _, rfl, rfl, hc7, sz_lt1 lcv, cv ++ [.ref p7], _, _, _, rfl, fun b u e => by rw [upd_ne (ne_of_none e hl)]; exact sZ b u (s1 b u e), upd_same, ?_⟩
      have ec : p.code[i]? = some ⟨f.1, bodyRows f.2⟩ := by unfold Pg.code; rw [List.getElem?_map, ef]; rfl
      rw [List.take_succ, ec, List.map_append]
      exact ((tc.mono (Tk.same sZ)).snoc (Tp.mk hp7 (.cons (.int _) (.cons (tR.mono (Tk.same s6)) (.cons t6 .nil))))).mono (Tk.lst hc7)
  · rintro σ H1 ⟨cv, v2, v3, v4, rfl, s1, hc1, tc⟩
    rw [List.take_of_length_le (by unfold Pg.code; rw [List.length_map]; omega)] at tc
    refine ⟨_, rfl, l, cv, rfl, .inl ⟨SqL.of hc1, fun p2 hp2 => ?_⟩⟩
    exact q (.ref p2) _ (Tp.mk hp2 tc) (s1.trans (Same.new hp2))
end
end Lp

/-! L4z: the code of a drawn program, as data, is small. -/
namespace Lp
open PySem PySem.Spec PyProof.Rows L2
theorem widAll_le {n : Nat} : ∀ {ds : List PyData}, (∀ d ∈ ds, wid d ≤ n) → widAll ds ≤ n
  | [], _ => Nat.zero_le _
  | d :: r, h => Nat.max_le.mpr ⟨h d List.mem_cons_self, widAll_le fun x hx => h x (List.mem_cons_of_mem _ hx)⟩
theorem depthAll_le {n : Nat} : ∀ {ds : List PyData}, (∀ d ∈ ds, d.depth ≤ n) → PyData.depthAll ds ≤ n
  | [], _ => Nat.zero_le _
  | d :: r, h => Nat.max_le.mpr ⟨h d List.mem_cons_self, depthAll_le fun x hx => h x (List.mem_cons_of_mem _ hx)⟩
theorem kindD_flat (k : Option Nat) : (kindD k).depth = 0 ∧ wid (kindD k) = 0 := by cases k <;> exact ⟨rfl, rfl⟩
theorem Rw.small (r : Rw) : r.d.depth ≤ 1 ∧ wid r.d ≤ 6 := by
  cases r <;> simp [Rw.d, PyData.depth, PyData.depthAll, wid, widAll, kindD_flat]
theorem Tb.small (t : Tb) : t.d.depth ≤ 1 ∧ wid t.d ≤ 6 := by
  obtain ⟨b, x, kd, p, D⟩ := t
  cases kd <;> simp [Tb.d, PyData.depth, PyData.depthAll, wid, widAll, kindD_flat]
theorem rows_small (rs : List Rw) : (PyData.tuple (rs.map Rw.d)).depth ≤ 2 ∧ wid (.tuple (rs.map Rw.d)) ≤ max rs.length 6 := by
  have h1 : PyData.depthAll (rs.map Rw.d) ≤ 1 := depthAll_le fun d hd => by obtain ⟨r, _, rfl⟩ := List.mem_map.mp hd; exact r.small.1
  have h2 : widAll (rs.map Rw.d) ≤ 6 := widAll_le fun d hd => by obtain ⟨r, _, rfl⟩ := List.mem_map.mp hd; exact r.small.2
  simp only [PyData.depth, wid, List.length_map]
  omega
theorem tab_small (rs : List Tb) : (PyData.tuple (rs.map Tb.d)).depth ≤ 2 ∧ wid (.tuple (rs.map Tb.d)) ≤ max rs.length 6 := by
  have h1 : PyData.depthAll (rs.map Tb.d) ≤ 1 := depthAll_le fun d hd => by obtain ⟨r, _, rfl⟩ := List.mem_map.mp hd; exact r.small.1
  have h2 : widAll (rs.map Tb.d) ≤ 6 := widAll_le fun d hd => by obtain ⟨r, _, rfl⟩ := List.mem_map.mp hd; exact r.small.2
  simp only [PyData.depth, wid, List.length_map]
  omega
theorem Fc.small (f : Fc) (h : f.rows.length ≤ 900000) : f.d.depth ≤ 3 ∧ wid f.d ≤ 900000 := by
  have h1 := rows_small f.rows
  have h2 := tab_small f.tab
  have h3 : f.tab.length ≤ f.rows.length := tabAt_len _ _
  unfold Fc.d
  simp only [PyData.depth, PyData.depthAll, wid, widAll, List.length_cons, List.length_nil] at h1 h2 ⊢
  omega
theorem codeD_small (c : List Fc) (h : ∀ f ∈ c, f.rows.length ≤ 900000) (hl : c.length ≤ 900000) : (codeD c).depth < 5 ∧ wid (codeD c) ≤ 1000000 := by
  have h1 : PyData.depthAll (c.map Fc.d) ≤ 3 := depthAll_le fun d hd => by obtain ⟨r, hr, rfl⟩ := List.mem_map.mp hd; exact (r.small (h r hr)).1
  have h2 : widAll (c.map Fc.d) ≤ 900000 := widAll_le fun d hd => by obtain ⟨r, hr, rfl⟩ := List.mem_map.mp hd; exact (r.small (h r hr)).2
  unfold codeD
  simp only [PyData.depth, wid, List.length_map]
  omega
theorem PgOk.code_small {p : Pg} (ok : PgOk p) : (codeD p.code).depth < 5 ∧ wid (codeD p.code) ≤ 1000000 := by
  refine codeD_small _ (fun f hf => ?_) ?_
  · obtain ⟨g, hg, rfl⟩ := List.mem_map.mp hf
    have := ok.small.len g hg
    simp [bodyRows, Sm.code_len]; omega
  · have := ok.f4
    simp [Pg.code]; omega
theorem PgOk.pgK {p : Pg} (ok : PgOk p) : PgK p 5 :=
  ⟨fun f hf => ⟨⟨_, _, ok.wf.body f hf⟩, ok.small.dep f hf, by have := ok.small.len f hf; omega⟩, by have := ok.f4; omega, by decide⟩
theorem PgOk.pgC {p : Pg} (ok : PgOk p) : PgC p 5 :=
  ⟨fun f hf => ⟨⟨_, _, _, ok.wf.body f hf⟩, ok.small.dep f hf, by have := ok.small.len f hf; omega, Int.le_refl 0, fun _ h => by cases h⟩, by have := ok.f4; omega⟩
end Lp

/-! Lt: texts: str, join, split. -/
namespace Lp
open PySem PySem.Spec PyProof.Rows L2
/-- str(x), x a number or a text -/
def rStr1 : List V → Hp → VK → Prop := fun xs H Q => (∃ i, xs = [.int i] ∧ i.natAbs.log2 < 1920 ∧ Q (.str (toString i)) H) ∨ ∃ a, xs = [.str a] ∧ Q (.str a) H
def rAddS : R2 := fun x y H Q => ∃ i j, x = .str i ∧ y = .str j ∧ i.length + j.length ≤ sizeLine ∧ Q (.str (i ++ j)) H
def rJoin (K : PySem.W.Frag) : V → List V → Hp → VK → Prop := fun x xs H Q => ∃ a p, ∃ ys : List Str, x = .str a ∧ xs = [.ref p] ∧ (SqL K H p (ys.map V.str) ∨ SqT K H p (ys.map V.str)) ∧ (ys.map (·.length)).sum + ys.length * a.length ≤ 16777216 ∧ Q (.str (Txt.join a ys)) H
def rSplit : V → List V → Hp → VK → Prop := fun x xs H Q => ∃ a b, x = .str a ∧ xs = [.str b] ∧ (b.length == 0) = false ∧ a.length + 2 ≤ sizeLine ∧ ∀ p, H p = none → Q (.ref p) (L2.upd H p (.lst ((Txt.split a b).map V.str)))
section
variable {X : Cx}
theorem call_str1 : CallR X (.type "str") rStr1 := fun pins s σ H xs us Q I r h => h.elim (call_str_int pins s σ H xs us Q I r) (SkE.call_str_str pins s σ H xs us Q I r)
theorem op_addS : OpR X (binaryOp .Add) rAddS := op_add_str
theorem pe_joinR {o e : Expr} {to te : TE} {apos pos : Pos} (ho : PE X o to) (he : PE X e te) (hs : starEach [e] X.env = [(false, eval e X.env)] := by rfl) (hb : attributeBase o "join" X.env (eval o X.env) = eval o X.env := by rfl) (hl : (apos.endLine == pos.line) = true := by rfl) :
    PE X (.Call (.Attribute o "join" apos) [e] [] pos) (tM1 (rJoin X.K) to te) := pe_join ho he hs hb hl
theorem pe_splitR {o e : Expr} {to te : TE} {apos pos : Pos} (ho : PE X o to) (he : PE X e te) (hs : starEach [e] X.env = [(false, eval e X.env)] := by rfl) (hb : attributeBase o "split" X.env (eval o X.env) = eval o X.env := by rfl) (hl : (apos.endLine == pos.line) = true := by rfl) :
    PE X (.Call (.Attribute o "split" apos) [e] [] pos) (tM1 rSplit to te) := pe_split ho he hs hb hl
end
/-! ### words, lines -/
def word : PyData → Str
  | .none => "-"
  | .int i => toString i
  | .str s => s
  | _ => ""
/-- a part of a row that is written as a short word -/
def Wd (d : PyData) : Prop := d = .none ∨ (∃ i, d = .int i ∧ 0 ≤ i ∧ i < 10 ^ 9) ∨ ∃ s, d = .str s ∧ s.length ≤ 12
def rowL (ds : List PyData) : Str := Txt.join " " (ds.map word)
structure Fd where
  many : Int
  rows : List (List PyData)
  tab : List (List PyData)
def Fd.d (f : Fd) : PyData := .tuple [.int f.many, .tuple (f.rows.map .tuple), .tuple (f.tab.map .tuple)]
def fnL (m : Int) : Str := ("function " : Str) ++ (toString m : Str)
def tabL (ds : List PyData) : Str := ("table " : Str) ++ rowL ds
def Fd.lines (f : Fd) : List Str := fnL f.many :: (f.rows.map rowL ++ f.tab.map tabL)
def listingD (c : List Fd) : Str := Txt.join "\n" (c.flatMap Fd.lines)
structure RowOk (ds : List PyData) : Prop where
  few : ds.length ≤ 8
  wd : ∀ d ∈ ds, Wd d
structure FdOk (f : Fd) : Prop where
  many : 0 ≤ f.many ∧ f.many < 10 ^ 9
  rows : ∀ r ∈ f.rows, RowOk r
  tab : ∀ r ∈ f.tab, RowOk r
  few : f.rows.length ≤ 2100
  fewT : f.tab.length ≤ 2100
theorem num_len {i : Int} (h0 : 0 ≤ i) (h1 : i < 10 ^ 9) : (toString i : Str).length ≤ 9 := by
  obtain ⟨m, rfl⟩ := Int.eq_ofNat_of_zero_le h0
  show (Str.ofString (toString (Int.ofNat m))).length ≤ 9
  rw [text_ofNat]
  show (((Nat.toDigits 10 m).map Char.toNat).toArray).size ≤ 9
  rw [List.size_toArray, List.length_map]
  exact digits10_le (by decide) (by omega)
theorem log_small {i : Int} (h0 : 0 ≤ i) (h1 : i < 10 ^ 9) : i.natAbs.log2 < 1920 := by
  have h : i.natAbs < 2 ^ 30 := by omega
  by_cases z : i.natAbs = 0
  · rw [z]; decide
  · have := (Nat.log2_lt z).mpr h
    omega
theorem wd_len {d : PyData} (h : Wd d) : (word d).length ≤ 12 := by
  rcases h with rfl | ⟨i, rfl, h0, h1⟩ | ⟨s, rfl, h⟩
  · decide
  · have := num_len h0 h1
    show (toString i : Str).length ≤ 12
    omega
  · exact h
theorem sum_le {n : Nat} : ∀ {ys : List Str}, (∀ y ∈ ys, y.length ≤ n) → (ys.map (·.length)).sum ≤ ys.length * n
  | [], _ => Nat.zero_le _
  | y :: ys, h => by
    have h1 := h y List.mem_cons_self
    have h2 := sum_le (ys := ys) fun z hz => h z (List.mem_cons_of_mem _ hz)
    rw [List.map_cons, List.sum_cons, List.length_cons, Nat.succ_mul]
    omega
theorem join_len {sep : Str} {ys : List Str} {n : Nat} (h : ∀ y ∈ ys, y.length ≤ n) : (Txt.join sep ys).length ≤ ys.length * n + ys.length * sep.length := by
  have h1 := StrLaws.join_length_le sep ys
  have h2 := sum_le h
  have e : Txt.join sep ys = Str.join sep ys := StrLaws.glued_eq_join ..
  rw [e]
  omega
theorem row_len {ds : List PyData} (h : RowOk ds) : (rowL ds).length ≤ 104 := by
  have h1 := join_len (sep := " ") (ys := ds.map word) (n := 12) fun y hy => by
    obtain ⟨d, hd, rfl⟩ := List.mem_map.mp hy
    exact wd_len (h.wd d hd)
  have h2 := h.few
  rw [List.length_map] at h1
  have : (" " : Str).length = 1 := by decide
  unfold rowL
  rw [this] at h1
  omega
end Lp

/-! LxL: listings. -/
namespace Lp
open PySem PySem.Spec PyProof.Rows L2
def t_word_of (K : PySem.W.Frag) : TS :=
  tSeq (tIfS (tTest (tOp rIsN (tVar 0) (tC .non))) (tRet (tC (.str "-"))) (tNext)) (tRet (tCB rStr1 (tCons (tVar 0) (tNil))))

def t_line_of (K : PySem.W.Frag) (sp_word_of : Sp) : TS :=
  tRet (tM1 (rJoin K) (tC (.str " ")) (tLc (iTup K (tVar 0)) (gName 1) (tYes) (tCall sp_word_of [] E0 (tCons (tVar 1) (tNil))) [1]))

def t_listing (K : PySem.W.Frag) (sp_line_of : Sp) : TS :=
  tSeq (tAsg (tLst (tNil)) (gName 1)) (tSeq (tFor (iTup K (tVar 0)) (gName 2) (tSeq (tDrop (tBM K "list" rAppend (tVar 1) (tCons (tOp rAddS (tC (.str "function ")) (tCB rStr1 (tCons (tOp (rIxT K) (tVar 2) (tC (.int 0))) (tNil)))) (tNil)))) (tSeq (tFor (iTup K (tOp (rIxT K) (tVar 2) (tC (.int 1)))) (gName 3) (tDrop (tBM K "list" rAppend (tVar 1) (tCons (tCall sp_line_of [] E0 (tCons (tVar 3) (tNil))) (tNil))))) (tFor (iTup K (tOp (rIxT K) (tVar 2) (tC (.int 2)))) (gName 3) (tDrop (tBM K "list" rAppend (tVar 1) (tCons (tOp rAddS (tC (.str "table ")) (tCall sp_line_of [] E0 (tCons (tVar 3) (tNil)))) (tNil)))))))) (tRet (tM1 (rJoin K) (tC (.str "\n")) (tVar 1))))

def t_law_word (K : PySem.W.Frag) : TS :=
  tSeq (tIfS (tTest (tOp rIsN (tVar 0) (tC .non))) (tRet (tC (.str "-"))) (tNext)) (tRet (tCB rStr1 (tCons (tVar 0) (tNil))))

def t_law_listed (K : PySem.W.Frag) (sp_law_word : Sp) : TS :=
  tSeq (tAsg (tLst (tNil)) (gName 1)) (tSeq (tFor (iTup K (tVar 0)) (gName 2) (tSeq (tDrop (tBM K "list" rAppend (tVar 1) (tCons (tOp rAddS (tC (.str "function ")) (tCB rStr1 (tCons (tOp (rIxT K) (tVar 2) (tC (.int 0))) (tNil)))) (tNil)))) (tSeq (tFor (iTup K (tOp (rIxT K) (tVar 2) (tC (.int 1)))) (gName 3) (tDrop (tBM K "list" rAppend (tVar 1) (tCons (tM1 (rJoin K) (tC (.str " ")) (tLc (iTup K (tVar 3)) (gName 4) (tYes) (tCall sp_law_word [] E0 (tCons (tVar 4) (tNil))) [4])) (tNil))))) (tFor (iTup K (tOp (rIxT K) (tVar 2) (tC (.int 2)))) (gName 3) (tDrop (tBM K "list" rAppend (tVar 1) (tCons (tOp rAddS (tC (.str "table ")) (tM1 (rJoin K) (tC (.str " ")) (tLc (iTup K (tVar 3)) (gName 4) (tYes) (tCall sp_law_word [] E0 (tCons (tVar 4) (tNil))) [4]))) (tNil)))))))) (tRet (tM1 (rJoin K) (tC (.str "\n")) (tVar 1))))

namespace KL
theorem gn {k : Nat} {v : V} {σ : L2.St} {H : Hp} {Q : L2.St → Hp → Prop} (h : Q (σ.set k (some v)) H) : gName k v σ H Q := h
theorem seq {s t : TS} {D : Ends} {σ : L2.St} {H : Hp} (h : s { D with nx := t D } σ H) : tSeq s t D σ H := h
theorem seq_inv {s t : TS} {D : Ends} {σ : L2.St} {H : Hp} (I : L2.St → Hp → Prop) (h : ∀ nx : L2.St → Hp → Prop, (∀ σ' H', I σ' H' → nx σ' H') → s { D with nx := nx } σ H) (k : ∀ σ' H', I σ' H' → t D σ' H') : tSeq s t D σ H := h (t D) k
/-! ### words -/
structure WordP (K : PySem.W.Frag) (vs : List V) (H : Hp) (Q : VK) : Prop where
  ex : ∃ (v : V) (d : PyData), vs = [v] ∧ Tp K H v d ∧ Wd d ∧ Q (.str (word d)) H
def spWord (K : PySem.W.Frag) : Sp := fun vs H Q _ => WordP K vs H Q
theorem rd_word {K : PySem.W.Frag} (vs : List V) (H : Hp) (Q : VK) (E : XK) (hh : spWord K vs H Q E) : t_word_of K { nx := fun _ H' => Q .non H', rt := Q } (start ["part"] vs) H := by
  obtain ⟨v, d, rfl, tv, wd, q⟩ := hh.ex
  have c : PB (tTest (tOp rIsN (tVar 0) (tC .non))) [some v] H (decide (v = .non)) := fun _ q => ⟨_, rfl, rfl, _, rfl, q⟩
  rcases wd with rfl | ⟨i, rfl, h0, h1⟩ | ⟨s, rfl, hs⟩
  · have e := tv.nonE
    subst e
    exact seq (r_ifT c q)
  · have e := tv.intE
    subst e
    exact seq (r_ifF c ⟨_, rfl, .inl ⟨i, rfl, log_small h0 h1, q⟩⟩)
  · have e := tv.strE
    subst e
    exact seq (r_ifF c ⟨_, rfl, .inr ⟨s, rfl, q⟩⟩)
theorem rd_law_word {K : PySem.W.Frag} (vs : List V) (H : Hp) (Q : VK) (E : XK) (hh : spWord K vs H Q E) : t_law_word K { nx := fun _ H' => Q .non H', rt := Q } (start ["_law_part_here"] vs) H := rd_word vs H Q E hh
/-- te gives the text s, and the heap only grows -/
def SE (te : TE) (σ : L2.St) (H0 : Hp) (s : Str) : Prop := ∀ H, Same H0 H → ∀ Q : VK, (∀ H', Same H H' → Q (.str s) H') → te σ H Q
/-- the words of a row, joined -/
theorem row_join {K : PySem.W.Frag} {σ : L2.St} {H0 : Hp} {i k : Nat} {r : V} {ds : List PyData} (hs : σ[i]? = some (some r)) (t : Tp K H0 r (.tuple ds)) (ok : RowOk ds) (lk : k < (wipe σ [k]).length) (hw : ∀ x, wipe ((wipe σ [k]).set k x) [k] = wipe σ [k]) :
    SE (tM1 (rJoin K) (tC (.str " ")) (tLc (iTup K (tVar i)) (gName k) (tYes) (tCall (spWord K) [] E0 (tCons (tVar k) (tNil))) [k])) σ H0 (rowL ds) := fun H s Q q => by
  obtain ⟨a, xs, rfl, hT, tx⟩ := (t.mono (Tk.same s)).tupE
  have lx := tx.length
  have hf := ok.few
  refine ⟨⟨_, rfl⟩, _, hs, a, rfl, ⟨_, hT⟩, fun D hD => lc_tup (K := K) (a := a) (xs := xs) (fun j H' => H' D = some (.lst ((((ds.take j).map word)).map V.str)) ∧ Same H H') ⟨upd_same, Same.new hD⟩ (fun j H' _ ⟨_, s'⟩ => s'.sqT hT) ?_ ?_⟩
  · rintro j x H1 hx ⟨hv, s1⟩
    obtain ⟨d, hd, td⟩ := tx.get hx
    have hj := (List.getElem?_eq_some_iff.mp hd).1
    refine ⟨hw _, ?_⟩
    have hx' : ((wipe σ [k]).set k (some x))[k]? = some (some x) := List.getElem?_set_self lk
    refine ⟨_, hx', ⟨⟨x, d, rfl, td.mono (Tk.same s1), ok.wd d (List.mem_of_getElem? hd), _, hv, by rw [List.length_map, List.length_map, List.length_take]; exact sz_lt1 (by omega), ?_, fun y o e => by rw [upd_ne (ne_of_none e hD)]; exact s1 _ _ e⟩⟩⟩
    rw [upd_same, List.take_succ, hd, List.map_append, List.map_append]; rfl
  · rintro H1 ⟨hv, s1⟩
    rw [List.take_of_length_le (by omega)] at hv
    refine ⟨_, D, ds.map word, rfl, rfl, .inl (SqL.of hv), ?_, q _ s1⟩
    have := sum_le (n := 12) (ys := ds.map word) fun y hy => by
      obtain ⟨d, hd, rfl⟩ := List.mem_map.mp hy
      exact wd_len (ok.wd d hd)
    rw [List.length_map] at this ⊢
    have : (" " : Str).length = 1 := by decide
    rw [this]
    omega
structure LineP (K : PySem.W.Frag) (vs : List V) (H : Hp) (Q : VK) : Prop where
  ex : ∃ (v : V) (ds : List PyData), vs = [v] ∧ Tp K H v (.tuple ds) ∧ RowOk ds ∧ ∀ H', Same H H' → Q (.str (rowL ds)) H'
def spLine (K : PySem.W.Frag) : Sp := fun vs H Q _ => LineP K vs H Q
theorem rd_line {K : PySem.W.Frag} (vs : List V) (H : Hp) (Q : VK) (E : XK) (hh : spLine K vs H Q E) : t_line_of K (spWord K) { nx := fun _ H' => Q .non H', rt := Q } (start ["row", "part"] vs) H := by
  obtain ⟨v, ds, rfl, tv, ok, q⟩ := hh.ex
  exact row_join (K := K) (i := 0) (k := 1) rfl tv ok (by show 1 < 2; decide) (fun _ => rfl) H (Same.refl _) Q q
/-! ### all lines -/
/-- the loops of both, le: a row's line -/
def tListing (K : PySem.W.Frag) (le : TE) : TS :=
  tSeq (tAsg (tLst (tNil)) (gName 1)) (tSeq (tFor (iTup K (tVar 0)) (gName 2) (tSeq (tDrop (tBM K "list" rAppend (tVar 1) (tCons (tOp rAddS (tC (.str "function ")) (tCB rStr1 (tCons (tOp (rIxT K) (tVar 2) (tC (.int 0))) (tNil)))) (tNil)))) (tSeq (tFor (iTup K (tOp (rIxT K) (tVar 2) (tC (.int 1)))) (gName 3) (tDrop (tBM K "list" rAppend (tVar 1) (tCons le (tNil))))) (tFor (iTup K (tOp (rIxT K) (tVar 2) (tC (.int 2)))) (gName 3) (tDrop (tBM K "list" rAppend (tVar 1) (tCons (tOp rAddS (tC (.str "table ")) le) (tNil)))))))) (tRet (tM1 (rJoin K) (tC (.str "\n")) (tVar 1))))
theorem fn_len {m : Int} (h : 0 ≤ m ∧ m < 10 ^ 9) : (fnL m).length ≤ 120 ∧ (toString m : Str).length ≤ 9 := by
  have := num_len h.1 h.2
  have e : ("function " : Str).length = 9 := by decide
  refine ⟨?_, this⟩
  unfold fnL
  rw [Str.length_append, e]
  omega
theorem tab_len {ds : List PyData} (h : RowOk ds) : (tabL ds).length ≤ 120 := by
  have := row_len h
  have e : ("table " : Str).length = 6 := by decide
  unfold tabL
  rw [Str.length_append, e]
  omega
theorem lines_short {fs : List Fd} (h : ∀ f ∈ fs, FdOk f) : ∀ y ∈ fs.flatMap Fd.lines, y.length ≤ 120 := fun y hy => by
  obtain ⟨f, hf, hy⟩ := List.mem_flatMap.mp hy
  have ok := h f hf
  rcases List.mem_cons.mp hy with rfl | hy
  · exact (fn_len ok.many).1
  · rcases List.mem_append.mp hy with hy | hy
    · obtain ⟨r, hr, rfl⟩ := List.mem_map.mp hy
      have := row_len (ok.rows r hr)
      omega
    · obtain ⟨r, hr, rfl⟩ := List.mem_map.mp hy
      exact tab_len (ok.tab r hr)
theorem lines_few {fs : List Fd} (h : ∀ f ∈ fs, FdOk f) : (fs.flatMap Fd.lines).length ≤ 4300 * fs.length := by
  induction fs with
  | nil => simp
  | cons f fs ih =>
    have ih := ih fun g hg => h g (List.mem_cons_of_mem _ hg)
    have ok := h f List.mem_cons_self
    have := ok.few; have := ok.fewT
    rw [List.flatMap_cons, List.length_append, List.length_cons]
    have : f.lines.length = 1 + (f.rows.length + f.tab.length) := by simp [Fd.lines]; omega
    omega
theorem app_str {K : PySem.W.Frag} {σ : L2.St} {H : Hp} {p : Addr} {ls : List Str} {s : Str} {te : TE} {D : Ends} (hs : σ[1]? = some (some (.ref p))) (h : H p = some (.lst (ls.map V.str))) (hl : ls.length < 1000000) (a : SE te σ H s) (q : ∀ H', H' p = some (.lst ((ls ++ [s]).map V.str)) → (∀ b o, b ≠ p → H b = some o → H' b = some o) → Tk H H' → D.nx σ H') :
    tDrop (tBM K "list" rAppend (tVar 1) (tCons te (tNil))) D σ H := by
  refine ⟨_, hs, .inl ⟨rfl, _, SqL.of h⟩, a H (Same.refl _) _ fun G sG => ⟨p, _, .str s, rfl, rfl, sG _ _ h, by rw [List.length_map]; exact sz_lt1 (by omega), ?_⟩⟩
  refine q _ ?_ (fun b o n e => by rw [upd_ne n]; exact sG b o e) ((Tk.same sG).trans (Tk.lst (sG _ _ h)))
  rw [upd_same, List.map_append]; rfl
structure ListP (K : PySem.W.Frag) (vs : List V) (H : Hp) (Q : VK) : Prop where
  ex : ∃ (v : V) (fs : List Fd), vs = [v] ∧ Tp K H v (.tuple (fs.map Fd.d)) ∧ (∀ f ∈ fs, FdOk f) ∧ fs.length ≤ 10 ∧ ∀ H', Same H H' → Q (.str (listingD fs)) H'
def spList (K : PySem.W.Frag) : Sp := fun vs H Q _ => ListP K vs H Q
theorem rd_all {K : PySem.W.Frag} {le : TE} {rest : List (Option V)} (hle : ∀ (v1 v2 v3 : Option V) (r : V) (ds : List PyData) (H : Hp), Tp K H r (.tuple ds) → RowOk ds → SE le (v1 :: v2 :: v3 :: some r :: rest) H (rowL ds)) {v : V} {fs : List Fd} {H : Hp} {Q : VK}
    (tv : Tp K H v (.tuple (fs.map Fd.d))) (ok : ∀ f ∈ fs, FdOk f) (few : fs.length ≤ 10) (q : ∀ H', Same H H' → Q (.str (listingD fs)) H') : tListing K le { nx := fun _ H' => Q .non H', rt := Q } (some v :: none :: none :: none :: rest) H := by
  obtain ⟨a, xs, rfl, hT, tx⟩ := tv.tupE
  have lx : xs.length = fs.length := by rw [tx.length, List.length_map]
  refine ⟨(by show 0 ≤ sizeLine; decide), fun p hp => gn ?_⟩
  simp only [List.set_cons_succ, List.set_cons_zero]
  have s1 : Same H (L2.upd H p (.lst [])) := Same.new hp
  have hp1 : L2.upd H p (.lst []) p = some (.lst (([] : List Str).map V.str)) := upd_same
  generalize L2.upd H p (.lst []) = H1 at s1 hp1 ⊢
  -- what stood stands
  refine seq_inv (fun σ' H' => ∃ v2 v3, σ' = some (.ref a) :: some (.ref p) :: v2 :: v3 :: rest ∧ H' p = some (.lst ((fs.flatMap Fd.lines).map V.str)) ∧ Same H H') (fun nx hnx => ?_) ?_
  · refine ⟨_, rfl, a, rfl, ⟨_, s1.sqT hT⟩, for_tup (K := K) (a := a) (xs := xs) (fun i σ' H' => ∃ v2 v3, σ' = some (.ref a) :: some (.ref p) :: v2 :: v3 :: rest ∧ H' p = some (.lst (((fs.take i).flatMap Fd.lines).map V.str)) ∧ Same H H') ⟨_, _, rfl, by simpa using hp1, s1⟩ (fun i σ' H' _ ⟨_, _, _, _, s'⟩ => s'.sqT hT) ?_ ?_⟩
    · rintro i x σ' H2 hx ⟨v2, v3, rfl, hp2, s2⟩
      refine gn ?_
      simp only [List.set_cons_succ, List.set_cons_zero]
      have hi : i < fs.length := by have := (List.getElem?_eq_some_iff.mp hx).1; omega
      have ef : fs[i]? = some fs[i] := List.getElem?_eq_getElem hi
      obtain ⟨x', hx', txx⟩ := tx.get' (i := i) (d := fs[i].d) (by rw [List.getElem?_map, ef]; rfl)
      obtain rfl : x' = x := by rw [hx] at hx'; exact (Option.some.inj hx').symm
      have okf := ok _ (List.getElem_mem hi)
      have etake : fs.take (i + 1) = fs.take i ++ [fs[i]] := by rw [List.take_succ, ef]; rfl
      generalize fs[i] = f at txx okf etake
      have lpre := lines_few (fs := fs.take i) fun g hg => ok g (List.mem_of_mem_take hg)
      rw [List.length_take] at lpre
      obtain ⟨fa, y0, y1, y2, rfl, hF, t0, t1, t2⟩ := (show Tp K H x' (.tuple [.int f.many, .tuple (f.rows.map .tuple), .tuple (f.tab.map .tuple)]) from txx).tup3
      cases t0.intE
      obtain ⟨ra, rxs, rfl, hR, trs⟩ := t1.tupE
      obtain ⟨ta, txs, rfl, hTb, tts⟩ := t2.tupE
      have lr : rxs.length = f.rows.length := by rw [trs.length, List.length_map]
      have lt : txs.length = f.tab.length := by rw [tts.length, List.length_map]
      have fl := fn_len okf.many
      have stay : ∀ {G G' : Hp}, Same H G → (∀ b o, b ≠ p → G b = some o → G' b = some o) → Same H G' := fun s k b o e => k b o (ne_of_none e hp) (s b o e)
      have len9 : ("function " : Str).length = 9 := by decide
      have len6 : ("table " : Str).length = 6 := by decide
      refine seq (app_str (K := K) (s := fnL f.many) rfl hp2 (by omega) (te := tOp rAddS (tC (.str "function ")) (tCB rStr1 (tCons (tOp (rIxT K) (tVar 2) (tC (.int 0))) (tNil)))) (fun G sG Q' q' => rd_ixT (i := 2) (j := 0) rfl ((s2.trans sG).sqT hF) rfl (.inl ⟨f.many, rfl, log_small okf.many.1 okf.many.2, _, _, rfl, rfl, by rw [len9]; exact sz_le1 (by omega), q' G (Same.refl _)⟩)) fun H3 hp3 k3 tk3 => ?_)
      have s3 := stay s2 k3
      dsimp only
      refine seq_inv (fun σ' H' => ∃ v3, σ' = some (.ref a) :: some (.ref p) :: some (.ref fa) :: v3 :: rest ∧ H' p = some (.lst (((fs.take i).flatMap Fd.lines ++ [fnL f.many] ++ f.rows.map rowL).map V.str)) ∧ Same H H') (fun nx2 hnx2 => ?_) ?_
      · refine ⟨_, rfl, fa, _, ((1 : Nat) : Int), _, rfl, rfl, s3.sqT hF, atI_nat rfl, ra, rfl, ⟨_, s3.sqT hR⟩, for_tup (K := K) (a := ra) (xs := rxs) (fun j σ' H' => ∃ v3, σ' = some (.ref a) :: some (.ref p) :: some (.ref fa) :: v3 :: rest ∧ H' p = some (.lst (((fs.take i).flatMap Fd.lines ++ [fnL f.many] ++ (f.rows.take j).map rowL).map V.str)) ∧ Same H H') ⟨_, rfl, by simpa using hp3, s3⟩ (fun j σ' H' _ ⟨_, _, _, s'⟩ => s'.sqT hR) ?_ ?_⟩
        · rintro j y σ' H4 hy ⟨v3, rfl, hp4, s4⟩
          refine gn ?_
          simp only [List.set_cons_succ, List.set_cons_zero]
          obtain ⟨d, hd, td⟩ := trs.get hy
          rw [List.getElem?_map] at hd
          cases er : f.rows[j]? with
          | none => rw [er] at hd; cases hd
          | some r =>
            rw [er] at hd
            obtain rfl : PyData.tuple r = d := Option.some.inj hd
            have hj := (List.getElem?_eq_some_iff.mp er).1
            refine app_str (K := K) (s := rowL r) rfl hp4 ?_ (hle _ _ _ y r H4 (td.mono (Tk.same s4)) (okf.rows r (List.mem_of_getElem? er))) fun H5 hp5 k5 tk5 => ⟨_, rfl, ?_, stay s4 k5⟩
            · have := okf.few
              simp only [List.length_append, List.length_map, List.length_take, List.length_cons, List.length_nil]
              omega
            · rw [hp5, List.take_succ, er, List.map_append (f := rowL), ← List.append_assoc]; rfl
        · rintro σ' H4 ⟨v3, rfl, hp4, s4⟩
          rw [List.take_of_length_le (l := f.rows) (by omega)] at hp4
          exact hnx2 _ _ ⟨v3, rfl, hp4, s4⟩
      rintro _ H4 ⟨v3, rfl, hp4, s4⟩
      refine ⟨_, rfl, fa, _, ((2 : Nat) : Int), _, rfl, rfl, s4.sqT hF, atI_nat rfl, ta, rfl, ⟨_, s4.sqT hTb⟩, for_tup (K := K) (a := ta) (xs := txs) (fun j σ' H' => ∃ v3, σ' = some (.ref a) :: some (.ref p) :: some (.ref fa) :: v3 :: rest ∧ H' p = some (.lst (((fs.take i).flatMap Fd.lines ++ [fnL f.many] ++ f.rows.map rowL ++ (f.tab.take j).map tabL).map V.str)) ∧ Same H H') ⟨_, rfl, by simpa using hp4, s4⟩ (fun j σ' H' _ ⟨_, _, _, s'⟩ => s'.sqT hTb) ?_ ?_⟩
      · rintro j y σ' H5 hy ⟨v3, rfl, hp5, s5⟩
        refine gn ?_
        simp only [List.set_cons_succ, List.set_cons_zero]
        obtain ⟨d, hd, td⟩ := tts.get hy
        rw [List.getElem?_map] at hd
        cases er : f.tab[j]? with
        | none => rw [er] at hd; cases hd
        | some r =>
          rw [er] at hd
          obtain rfl : PyData.tuple r = d := Option.some.inj hd
          have okr := okf.tab r (List.mem_of_getElem? er)
          have lr := row_len okr
          have hj := (List.getElem?_eq_some_iff.mp er).1
          refine app_str (K := K) (s := tabL r) (te := tOp rAddS (tC (.str "table ")) le) rfl hp5 ?_ (fun G sG Q' q' => hle _ _ _ y r H5 (td.mono (Tk.same s5)) okr G sG _ fun G2 s2' => ⟨_, _, rfl, rfl, by rw [len6]; exact sz_le1 (by omega), q' G2 s2'⟩) fun H6 hp6 k6 tk6 => ⟨_, rfl, ?_, stay s5 k6⟩
          · have := okf.few
            have := okf.fewT
            simp only [List.length_append, List.length_map, List.length_take, List.length_cons, List.length_nil]
            omega
          · rw [hp6, List.take_succ, er, List.map_append (f := tabL), ← List.append_assoc]; rfl
      · rintro σ' H5 ⟨v3, rfl, hp5, s5⟩
        rw [List.take_of_length_le (l := f.tab) (by omega)] at hp5
        refine ⟨_, _, rfl, ?_, s5⟩
        rw [hp5, etake, List.flatMap_append]
        simp [Fd.lines]
    · rintro σ' H2 ⟨v2, v3, rfl, hp2, s2⟩
      rw [List.take_of_length_le (by omega)] at hp2
      exact hnx _ _ ⟨v2, v3, rfl, hp2, s2⟩
  rintro _ H2 ⟨v2, v3, rfl, hp2, s2⟩
  refine ⟨⟨_, rfl⟩, _, rfl, _, p, _, rfl, rfl, .inl (SqL.of hp2), ?_, q H2 s2⟩
  have h1 := sum_le (n := 120) (lines_short ok)
  have h2 := lines_few ok
  have : ("\n" : Str).length = 1 := by decide
  rw [this]
  omega
theorem rd_listing {K : PySem.W.Frag} (vs : List V) (H : Hp) (Q : VK) (E : XK) (hh : spList K vs H Q E) : t_listing K (spLine K) { nx := fun _ H' => Q .non H', rt := Q } (start ["code", "lines", "function", "row"] vs) H := by
  obtain ⟨v, fs, rfl, tv, ok, few, q⟩ := hh.ex
  exact rd_all (K := K) (rest := []) (le := tCall (spLine K) [] E0 (tCons (tVar 3) (tNil))) (fun v1 v2 v3 r ds H t okr G sG Q' q' => ⟨_, rfl, ⟨⟨r, ds, rfl, t.mono (Tk.same sG), okr, q'⟩⟩⟩) tv ok few q
theorem rd_law_listed {K : PySem.W.Frag} (vs : List V) (H : Hp) (Q : VK) (E : XK) (hh : spList K vs H Q E) : t_law_listed K (spWord K) { nx := fun _ H' => Q .non H', rt := Q } (start ["_law_code_here", "_law_lines", "_law_function", "_law_row", "_law_part_here"] vs) H := by
  obtain ⟨v, fs, rfl, tv, ok, few, q⟩ := hh.ex
  exact rd_all (K := K) (rest := [none]) (le := tM1 (rJoin K) (tC (.str " ")) (tLc (iTup K (tVar 3)) (gName 4) (tYes) (tCall (spWord K) [] E0 (tCons (tVar 4) (tNil))) [4])) (fun v1 v2 v3 r ds H t okr => row_join (K := K) (i := 3) (k := 4) rfl t okr (by show 4 < 5; decide) (fun _ => rfl)) tv ok few q
end KL
end Lp

/-! Ln: the numbers in a program's rows. -/
namespace Lp
open PySem PySem.Spec PyProof.Rows L2
def In0 (N i : Int) : Prop := 0 ≤ i ∧ i ≤ N
/-- all its numbers are from nought to N -/
def Rw.Nm (N : Int) : Rw → Prop
  | .num n => In0 N n
  | .var k => In0 N (k : Int)
  | .set k => In0 N (k : Int)
  | .unless q => In0 N q
  | .go z => In0 N z
  | .leap q D => In0 N q ∧ In0 N D
  | .rais kd m => In0 N (kd : Int) ∧ In0 N m
  | .call f n m => In0 N (f : Int) ∧ In0 N (n : Int) ∧ In0 N m
  | .hand b x k D => In0 N b ∧ In0 N x ∧ (∀ j, k = some j → In0 N (j : Int)) ∧ In0 N D
  | .cup b x D => In0 N b ∧ In0 N x ∧ In0 N D
  | _ => True
def TnIn (N : Int) (tn : Tn) : Prop := In0 N tn.1 ∧ In0 N tn.2.1 ∧ In0 N tn.2.2
section
variable {cs : List Nat} {nk : Nat} {N : Int}
theorem Ex.nm (hN : 1000 ≤ N) : ∀ (e : Ex), e.Wf → ∀ r ∈ e.code, r.Nm N
  | .num n, w, r, h => by
    rw [List.mem_singleton.mp h]
    have w : 0 ≤ n ∧ n < 1000 := w
    exact ⟨w.1, by omega⟩
  | .var k, w, r, h => by
    rw [List.mem_singleton.mp h]
    have w : k < 8 := w
    exact ⟨by omega, by omega⟩
  | .bin o a b, w, r, h => by
    rcases List.mem_append.mp h with h | h
    · rcases List.mem_append.mp h with h | h
      · exact Ex.nm hN a w.1 r h
      · exact Ex.nm hN b w.2 r h
    · rw [List.mem_singleton.mp h]; trivial
theorem exs_nm (hN : 1000 ≤ N) : ∀ (ps : List Ex), (∀ e ∈ ps, e.Wf ∧ e.dep ≤ 5) → ∀ r ∈ exsCode ps, r.Nm N
  | [], _, r, h => by cases h
  | e :: ps, w, r, h => by
    rcases List.mem_append.mp h with h | h
    · exact Ex.nm hN e (w e List.mem_cons_self).1 r h
    · exact exs_nm hN ps (fun x hx => w x (List.mem_cons_of_mem _ hx)) r h
mutual
theorem Sm.nm (hN : 1000 ≤ N) (hc : (cs.length : Int) ≤ N) (hk : (nk : Int) ≤ N) : ∀ (s : Sm) (base D : Int) (tn : Tn) (turn hand : Bool), s.Wf cs nk turn hand → 0 ≤ base → base + s.len ≤ N → 0 ≤ D → D + s.dep ≤ N → (turn = true → TnIn N tn) → ∀ r ∈ s.code base D tn, r.Nm N
  | .say e, base, D, tn, turn, hand, w, b0, b1, d0, d1, ht, r, h => by
    rcases List.mem_append.mp h with h | h
    · exact Ex.nm hN e w.1 r h
    · rw [List.mem_singleton.mp h]; trivial
  | .set k e, base, D, tn, turn, hand, w, b0, b1, d0, d1, ht, r, h => by
    rcases List.mem_append.mp h with h | h
    · exact Ex.nm hN e w.2.1 r h
    · rw [List.mem_singleton.mp h]
      have := w.1
      exact ⟨by omega, by omega⟩
  | .row ps, base, D, tn, turn, hand, w, b0, b1, d0, d1, ht, r, h => Sms.nm hN hc hk ps base D tn turn hand w b0 b1 d0 (by have d1 : D + ((ps.dep + 1 : Nat) : Int) ≤ N := d1; omega) ht r h
  | .ife e s t, base, D, tn, turn, hand, w, b0, b1, d0, d1, ht, r, h => by
    have b1 : base + ((e.len + 1 + s.len + 1 + t.len : Nat) : Int) ≤ N := b1
    have d1 : D + ((max s.dep t.dep + 1 : Nat) : Int) ≤ N := d1
    rcases List.mem_append.mp h with h | h
    · rcases List.mem_append.mp h with h | h
      · rcases List.mem_append.mp h with h | h
        · rcases List.mem_append.mp h with h | h
          · exact Ex.nm hN e w.1.1 r h
          · rw [List.mem_singleton.mp h]
            exact ⟨by omega, by omega⟩
        · exact Sm.nm hN hc hk s _ D tn turn hand w.2.1 (by omega) (by omega) d0 (by omega) ht r h
      · rw [List.mem_singleton.mp h]
        exact ⟨by omega, by omega⟩
    · exact Sm.nm hN hc hk t _ D tn turn hand w.2.2 (by omega) (by omega) d0 (by omega) ht r h
  | .whl e s, base, D, tn, turn, hand, w, b0, b1, d0, d1, ht, r, h => by
    have b1 : base + ((e.len + 2 + s.len + 1 : Nat) : Int) ≤ N := b1
    have d1 : D + ((s.dep + 1 : Nat) : Int) ≤ N := d1
    rcases List.mem_append.mp h with h | h
    · rcases List.mem_append.mp h with h | h
      · rcases List.mem_append.mp h with h | h
        · exact Ex.nm hN e w.1.1 r h
        · rcases List.mem_cons.mp h with h | h
          · rw [h]
            exact ⟨by omega, by omega⟩
          · rw [List.mem_singleton.mp h]; trivial
      · exact Sm.nm hN hc hk s _ D _ true hand w.2 (by omega) (by omega) d0 (by omega) (fun _ => ⟨⟨b0, by omega⟩, ⟨by show 0 ≤ base + e.len + 2 + s.len + 1; omega, by show base + e.len + 2 + s.len + 1 ≤ N; omega⟩, ⟨d0, by show D ≤ N; omega⟩⟩) r h
    · rw [List.mem_singleton.mp h]
      exact ⟨by omega, by omega⟩
  | .brk, base, D, tn, turn, hand, w, b0, b1, d0, d1, ht, r, h => by
    rw [List.mem_singleton.mp h]
    have t := ht w
    exact ⟨t.2.1, t.2.2⟩
  | .cnt, base, D, tn, turn, hand, w, b0, b1, d0, d1, ht, r, h => by
    rw [List.mem_singleton.mp h]
    have t := ht w
    exact ⟨t.1, t.2.2⟩
  | .ret e, base, D, tn, turn, hand, w, b0, b1, d0, d1, ht, r, h => by
    rcases List.mem_append.mp h with h | h
    · exact Ex.nm hN e w.1 r h
    · rw [List.mem_singleton.mp h]; trivial
  | .call k f ps m, base, D, tn, turn, hand, w, b0, b1, d0, d1, ht, r, h => by
    obtain ⟨w1, w2, w3, w4, w5, w6⟩ := w
    have hf := (List.getElem?_eq_some_iff.mp w2).1
    rcases List.mem_append.mp h with h | h
    · exact exs_nm hN ps w4 r h
    · rcases List.mem_cons.mp h with h | h
      · rw [h]
        exact ⟨⟨by omega, by omega⟩, ⟨by omega, by omega⟩, ⟨w5, by omega⟩⟩
      · rw [List.mem_singleton.mp h]
        exact ⟨by omega, by omega⟩
  | .rais kd e m, base, D, tn, turn, hand, w, b0, b1, d0, d1, ht, r, h => by
    obtain ⟨w1, w2, w5, w6⟩ := w
    rcases List.mem_append.mp h with h | h
    · exact Ex.nm hN e w2.1 r h
    · rw [List.mem_singleton.mp h]
      exact ⟨⟨by omega, by omega⟩, ⟨w5, by omega⟩⟩
  | .again, base, D, tn, turn, hand, w, b0, b1, d0, d1, ht, r, h => by
    rw [List.mem_singleton.mp h]; trivial
  | .tri s hs, base, D, tn, turn, hand, w, b0, b1, d0, d1, ht, r, h => by
    have b1 : base + ((s.len + 1 + hs.len : Nat) : Int) ≤ N := b1
    have d1 : D + ((max s.dep hs.dep + 1 : Nat) : Int) ≤ N := d1
    rcases List.mem_append.mp h with h | h
    · rcases List.mem_append.mp h with h | h
      · exact Sm.nm hN hc hk s base D tn turn hand w.1 b0 (by omega) d0 (by omega) ht r h
      · rw [List.mem_singleton.mp h]
        exact ⟨by omega, by omega⟩
    · exact Hds.nm hN hc hk hs base (base + s.len) (base + s.len + 1 + hs.len) (base + s.len + 1) D tn turn w.2 ⟨b0, by omega⟩ ⟨by omega, by omega⟩ ⟨by omega, by omega⟩ (by omega) (by omega) d0 (by omega) ht r h
  | .cln s c, base, D, tn, turn, hand, w, b0, b1, d0, d1, ht, r, h => by
    have b1 : base + ((s.len + 2 + c.len + 1 : Nat) : Int) ≤ N := b1
    have d1 : D + ((max s.dep c.dep + 1 : Nat) : Int) ≤ N := d1
    rcases List.mem_append.mp h with h | h
    · rcases List.mem_append.mp h with h | h
      · rcases List.mem_append.mp h with h | h
        · exact Sm.nm hN hc hk s base D tn turn hand w.1 b0 (by omega) d0 (by omega) ht r h
        · rcases List.mem_cons.mp h with h | h
          · rw [h]; trivial
          · rw [List.mem_singleton.mp h]
            exact ⟨⟨b0, by omega⟩, ⟨by omega, by omega⟩, ⟨d0, by omega⟩⟩
      · exact Sm.nm hN hc hk c _ (D + 1) tn turn hand w.2 (by omega) (by omega) (by omega) (by omega) ht r h
    · rw [List.mem_singleton.mp h]; trivial
theorem Sms.nm (hN : 1000 ≤ N) (hc : (cs.length : Int) ≤ N) (hk : (nk : Int) ≤ N) : ∀ (s : Sms) (base D : Int) (tn : Tn) (turn hand : Bool), s.Wf cs nk turn hand → 0 ≤ base → base + s.len ≤ N → 0 ≤ D → D + s.dep ≤ N → (turn = true → TnIn N tn) → ∀ r ∈ s.code base D tn, r.Nm N
  | .nil, base, D, tn, turn, hand, w, b0, b1, d0, d1, ht, r, h => by cases h
  | .cons s q, base, D, tn, turn, hand, w, b0, b1, d0, d1, ht, r, h => by
    have b1 : base + ((s.len + q.len : Nat) : Int) ≤ N := b1
    have d1 : D + ((max s.dep q.dep : Nat) : Int) ≤ N := d1
    rcases List.mem_append.mp h with h | h
    · exact Sm.nm hN hc hk s base D tn turn hand w.1 b0 (by omega) d0 (by omega) ht r h
    · exact Sms.nm hN hc hk q _ D tn turn hand w.2 (by omega) (by omega) d0 (by omega) ht r h
theorem Hds.nm (hN : 1000 ≤ N) (hc : (cs.length : Int) ≤ N) (hk : (nk : Int) ≤ N) : ∀ (hs : Hds) (b x z at_ D : Int) (tn : Tn) (turn : Bool), hs.Wf cs nk turn → In0 N b → In0 N x → In0 N z → 0 ≤ at_ → at_ + hs.len ≤ N → 0 ≤ D → D + hs.dep + 1 ≤ N → (turn = true → TnIn N tn) → ∀ r ∈ hs.code b x z at_ D tn, r.Nm N
  | .nil, b, x, z, at_, D, tn, turn, w, hb, hx, hz, b0, b1, d0, d1, ht, r, h => by cases h
  | .cons k sl t q, b, x, z, at_, D, tn, turn, w, hb, hx, hz, b0, b1, d0, d1, ht, r, h => by
    have b1 : at_ + ((2 + t.len + 2 + q.len : Nat) : Int) ≤ N := b1
    have d1 : D + ((max t.dep q.dep : Nat) : Int) + 1 ≤ N := d1
    obtain ⟨w1, w2, w3, w4⟩ := w
    rcases List.mem_append.mp h with h | h
    · rcases List.mem_append.mp h with h | h
      · rcases List.mem_append.mp h with h | h
        · rcases List.mem_cons.mp h with h | h
          · rw [h]
            exact ⟨hb, hx, fun j e => ⟨by omega, by have := w1 j e; omega⟩, ⟨d0, by omega⟩⟩
          · rw [List.mem_singleton.mp h]
            exact ⟨by omega, by omega⟩
        · exact Sm.nm hN hc hk t _ (D + 1) tn turn true w3 (by omega) (by omega) (by omega) (by omega) ht r h
      · rcases List.mem_cons.mp h with h | h
        · rw [h]; trivial
        · rw [List.mem_singleton.mp h]
          exact hz
    · exact Hds.nm hN hc hk q b x z _ D tn turn w4 hb hx hz (by omega) (by omega) d0 (by omega) ht r h
end
end
theorem PgOk.nm {p : Pg} (ok : PgOk p) : ∀ f ∈ p.code, f.many ≤ 3 ∧ f.rows.length ≤ 1892 ∧ ∀ r ∈ f.rows, r.Nm 2000 := fun f hf => by
  obtain ⟨g, hg, rfl⟩ := List.mem_map.mp hf
  have h1 := ok.small.len g hg
  have h2 := ok.small.dep g hg
  have h3 : p.cs.length ≤ 4 := by unfold Pg.cs; rw [List.length_map]; exact ok.f4
  have h4 := ok.k4
  refine ⟨ok.wf.many g hg, by show (bodyRows g.2).length ≤ 1892; simp [bodyRows, Sm.code_len]; omega, fun r hr => ?_⟩
  have hr : r ∈ g.2.code 0 0 (0, 0, 0) ++ [.num 0, .ret] := hr
  rcases List.mem_append.mp hr with hr | hr
  · exact Sm.nm (N := 2000) (by omega) (by omega) (by omega) g.2 0 0 _ false false (ok.wf.body g hg) (Int.le_refl 0) (by omega) (Int.le_refl 0) (by omega) (by intro z; cases z) r hr
  · rcases List.mem_cons.mp hr with hr | hr
    · rw [hr]; exact ⟨by omega, by omega⟩
    · rw [List.mem_singleton.mp hr]; trivial
end Lp

/-! LxM: a program's code, as rows of parts. -/
namespace Lp
open PySem PySem.Spec PyProof.Rows L2
def tupL : PyData → List PyData
  | .tuple ds => ds
  | _ => []
def Rw.ds (r : Rw) : List PyData := tupL r.d
def Tb.ds (t : Tb) : List PyData := tupL t.d
theorem Rw.d_ds (r : Rw) : PyData.tuple r.ds = r.d := by cases r <;> rfl
theorem Tb.d_ds (t : Tb) : PyData.tuple t.ds = t.d := rfl
def Fc.fd (f : Fc) : Fd := ⟨(f.many : Int), f.rows.map Rw.ds, f.tab.map Tb.ds⟩
theorem Fc.fd_d (f : Fc) : f.fd.d = f.d := by
  unfold Fc.fd Fd.d Fc.d
  have e1 : f.rows.map (PyData.tuple ∘ Rw.ds) = f.rows.map Rw.d := List.map_congr_left fun r _ => Rw.d_ds r
  have e2 : f.tab.map (PyData.tuple ∘ Tb.ds) = f.tab.map Tb.d := List.map_congr_left fun t _ => Tb.d_ds t
  rw [List.map_map, List.map_map, e1, e2]
theorem code_fd (c : List Fc) : codeD c = .tuple ((c.map Fc.fd).map Fd.d) := by
  unfold codeD
  rw [List.map_map]
  congr 1
  exact List.map_congr_left fun f _ => (Fc.fd_d f).symm
theorem wd_int {N i : Int} (hN : N < 10 ^ 9) (h : In0 N i) : Wd (.int i) := .inr (.inl ⟨i, rfl, h.1, by have := h.2; omega⟩)
theorem wd_kind {N : Int} (hN : N < 10 ^ 9) {k : Option Nat} (h : ∀ j, k = some j → In0 N (j : Int)) : Wd (kindD k) := by
  cases k with
  | none => exact .inl rfl
  | some j => exact wd_int hN (h j rfl)
theorem wd_str {s : Str} (h : s.length ≤ 12) : Wd (.str s) := .inr (.inr ⟨s, rfl, h⟩)
theorem rowOk1 {a : PyData} (ha : Wd a) : RowOk [a] := ⟨by simp, fun d hd => by rw [List.mem_singleton.mp hd]; exact ha⟩
theorem rowOkC {a : PyData} {ds : List PyData} (ha : Wd a) (h : RowOk ds) (l : ds.length ≤ 7) : RowOk (a :: ds) := ⟨by simp; omega, fun d hd => (List.mem_cons.mp hd).elim (fun e => e ▸ ha) (h.wd d)⟩
theorem rowOk0 : RowOk [] := ⟨by simp, fun d hd => by cases hd⟩
theorem Rw.rowOk {N : Int} (hN : N < 10 ^ 9) (r : Rw) (h : r.Nm N) : RowOk r.ds := by
  have i := fun {i : Int} (h : In0 N i) => wd_int hN h
  cases r with
  | num n => exact rowOkC (wd_str (by decide)) (rowOkC (i h) rowOk0 (by simp)) (by simp)
  | var k => exact rowOkC (wd_str (by decide)) (rowOkC (i h) rowOk0 (by simp)) (by simp)
  | op o => exact rowOkC (wd_str (by cases o <;> decide)) rowOk0 (by simp)
  | say => exact rowOkC (wd_str (by decide)) rowOk0 (by simp)
  | set k => exact rowOkC (wd_str (by decide)) (rowOkC (i h) rowOk0 (by simp)) (by simp)
  | «unless» q => exact rowOkC (wd_str (by decide)) (rowOkC (i h) rowOk0 (by simp)) (by simp)
  | go z => exact rowOkC (wd_str (by decide)) (rowOkC (i h) rowOk0 (by simp)) (by simp)
  | turn => exact rowOkC (wd_str (by decide)) rowOk0 (by simp)
  | leap q D => exact rowOkC (wd_str (by decide)) (rowOkC (i h.1) (rowOkC (i h.2) rowOk0 (by simp)) (by simp)) (by simp)
  | ret => exact rowOkC (wd_str (by decide)) rowOk0 (by simp)
  | rais kd m => exact rowOkC (wd_str (by decide)) (rowOkC (i h.1) (rowOkC (i h.2) rowOk0 (by simp)) (by simp)) (by simp)
  | again => exact rowOkC (wd_str (by decide)) rowOk0 (by simp)
  | call f n m => exact rowOkC (wd_str (by decide)) (rowOkC (i h.1) (rowOkC (i h.2.1) (rowOkC (i h.2.2) rowOk0 (by simp)) (by simp)) (by simp)) (by simp)
  | hand b x k D => exact rowOkC (wd_str (by decide)) (rowOkC (i h.1) (rowOkC (i h.2.1) (rowOkC (wd_kind hN h.2.2.1) (rowOkC (i h.2.2.2) rowOk0 (by simp)) (by simp)) (by simp)) (by simp)) (by simp)
  | settled => exact rowOkC (wd_str (by decide)) rowOk0 (by simp)
  | mend => exact rowOkC (wd_str (by decide)) rowOk0 (by simp)
  | cup b x D => exact rowOkC (wd_str (by decide)) (rowOkC (i h.1) (rowOkC (i h.2.1) (rowOkC (i h.2.2) rowOk0 (by simp)) (by simp)) (by simp)) (by simp)
  | resume => exact rowOkC (wd_str (by decide)) rowOk0 (by simp)
/-- a table's row with its numbers from nought to N -/
structure Tb.Nm (N : Int) (t : Tb) : Prop where
  b : In0 N t.b
  x : In0 N t.x
  kd : ∀ k, t.kd = some k → ∀ j, k = some j → In0 N (j : Int)
  p : In0 N t.p
  D : In0 N t.D
theorem tab_nm {N : Int} : ∀ (rows : List Rw) (p : Int), 0 ≤ p → p + rows.length ≤ N → (∀ r ∈ rows, r.Nm N) → ∀ t ∈ tabAt p rows, t.Nm N
  | [], p, _, _, _, t, h => by cases h
  | r :: rows, p, h0, h1, hr, t, h => by
    have h1 : p + ((rows.length + 1 : Nat) : Int) ≤ N := h1
    rcases List.mem_append.mp h with h | h
    · have hrr := hr r List.mem_cons_self
      cases r with
      | hand b x k D =>
        rw [List.mem_singleton.mp h]
        exact ⟨hrr.1, hrr.2.1, (fun k' e j ej => hrr.2.2.1 j (by cases e; exact ej)), ⟨h0, by show p ≤ N; omega⟩, hrr.2.2.2⟩
      | cup b x D =>
        rw [List.mem_singleton.mp h]
        exact ⟨hrr.1, hrr.2.1, (fun k' e => by cases e), ⟨h0, by show p ≤ N; omega⟩, hrr.2.2⟩
      | _ => cases h
    · exact tab_nm rows (p + 1) (by omega) (by omega) (fun r hr' => hr r (List.mem_cons_of_mem _ hr')) t h
theorem Tb.rowOk {N : Int} (hN : N < 10 ^ 9) (t : Tb) (h : t.Nm N) : RowOk t.ds := by
  have i := fun {i : Int} (h : In0 N i) => wd_int hN h
  obtain ⟨b, x, kd, p, D⟩ := t
  cases kd with
  | none => exact rowOkC (i h.b) (rowOkC (i h.x) (rowOkC (wd_str (by show (Str.ofString _).length ≤ 12; decide)) (rowOkC (.inl rfl) (rowOkC (i h.p) (rowOkC (i h.D) rowOk0 (by simp)) (by simp)) (by simp)) (by simp)) (by simp)) (by simp)
  | some k => exact rowOkC (i h.b) (rowOkC (i h.x) (rowOkC (wd_str (by show (Str.ofString _).length ≤ 12; decide)) (rowOkC (wd_kind hN (h.kd k rfl)) (rowOkC (i h.p) (rowOkC (i h.D) rowOk0 (by simp)) (by simp)) (by simp)) (by simp)) (by simp)) (by simp)
theorem PgOk.fdOk {p : Pg} (ok : PgOk p) : (∀ f ∈ p.code.map Fc.fd, FdOk f) ∧ (p.code.map Fc.fd).length ≤ 10 := by
  refine ⟨fun g hg => ?_, ?_⟩
  · obtain ⟨f, hf, rfl⟩ := List.mem_map.mp hg
    obtain ⟨h1, h2, h3⟩ := ok.nm f hf
    have ht := tab_nm (N := 2000) f.rows 0 (Int.le_refl 0) (by omega) h3
    refine ⟨⟨by show (0 : Int) ≤ (f.many : Int); omega, by show (f.many : Int) < _; omega⟩, fun r hr => ?_, fun r hr => ?_, ?_, ?_⟩
    · obtain ⟨w, hw, rfl⟩ := List.mem_map.mp hr
      exact w.rowOk (by omega) (h3 w hw)
    · obtain ⟨t, ht', rfl⟩ := List.mem_map.mp hr
      exact t.rowOk (by omega) (ht t ht')
    · show (f.rows.map Rw.ds).length ≤ 2100
      rw [List.length_map]; omega
    · show (f.tab.map Tb.ds).length ≤ 2100
      rw [List.length_map]
      have := tabAt_len f.rows 0
      show (tabAt 0 f.rows).length ≤ 2100
      omega
  · have := ok.f4
    simp [Pg.code]; omega
end Lp

/-! LyA: texts cut at a sign, numbers read. -/
namespace Lp
open PySem PySem.Spec PyProof.Rows L2
/-- a text's signs -/
def sg (x : Str) : List Nat := x.cps.toList
theorem sg_inj {x y : Str} (h : sg x = sg y) : x = y := by
  obtain ⟨⟨a⟩⟩ := x
  obtain ⟨⟨b⟩⟩ := y
  have : a = b := h
  rw [this]
theorem sg_app (x y : Str) : sg (x ++ y) = sg x ++ sg y := by
  unfold sg
  rw [Str.cps_append, Array.toList_append]
theorem sg_len (x : Str) : (sg x).length = x.length := Array.length_toList
theorem sg_lit (c : Nat) : sg ⟨#[c]⟩ = [c] := rfl
/-- cut at c -/
def cut (c : Nat) : List Nat → List (List Nat)
  | [] => [[]]
  | d :: r => if d = c then [] :: cut c r else match cut c r with
    | [] => [[d]]
    | p :: ps => (d :: p) :: ps
theorem cut_ne (c : Nat) : ∀ l : List Nat, cut c l ≠ []
  | [], h => by cases h
  | d :: r, h => by
    unfold cut at h
    split at h
    · cases h
    · split at h <;> cases h
theorem cut_free {c : Nat} : ∀ {p : List Nat}, c ∉ p → cut c p = [p]
  | [], _ => rfl
  | d :: r, h => by
    have h1 : d ≠ c := fun e => h (by rw [e]; exact List.mem_cons_self)
    have h2 := cut_free (p := r) fun hm => h (List.mem_cons_of_mem _ hm)
    unfold cut
    rw [if_neg h1, h2]
theorem cut_at {c : Nat} : ∀ {p r : List Nat}, c ∉ p → cut c (p ++ c :: r) = p :: cut c r
  | [], r, _ => by
    show (if c = c then _ else _) = _
    rw [if_pos rfl]
  | d :: p, r, h => by
    have h1 : d ≠ c := fun e => h (by rw [e]; exact List.mem_cons_self)
    have h2 := cut_at (p := p) (r := r) fun hm => h (List.mem_cons_of_mem _ hm)
    rw [List.cons_append]
    show (if d = c then _ else match cut c (p ++ c :: r) with | [] => [[d]] | q :: ps => (d :: q) :: ps) = _
    rw [if_neg h1, h2]
theorem sg_join {c : Nat} : ∀ {ps : List Str}, ps ≠ [] → (∀ p ∈ ps, c ∉ sg p) → cut c (sg (Str.join ⟨#[c]⟩ ps)) = ps.map sg
  | [], h, _ => absurd rfl h
  | [p], _, h => cut_free (h p List.mem_cons_self)
  | p :: q :: r, _, h => by
    have e : Str.join ⟨#[c]⟩ (p :: q :: r) = p ++ ⟨#[c]⟩ ++ Str.join ⟨#[c]⟩ (q :: r) := rfl
    have ih := sg_join (c := c) (ps := q :: r) (by simp) fun z hz => h z (List.mem_cons_of_mem _ hz)
    rw [e, sg_app, sg_app, sg_lit, List.append_assoc, List.singleton_append, cut_at (h p List.mem_cons_self), ih]
    rfl
theorem join_is (sep : Str) (ps : List Str) : Txt.join sep ps = Str.join sep ps := StrLaws.glued_eq_join ..
theorem split_ne (x : Str) (c : Nat) : Txt.split x ⟨#[c]⟩ ≠ [] := fun h => by
  have := split_pos x ⟨#[c]⟩
  rw [h] at this
  cases this
theorem split_cut (x : Str) (c : Nat) : (Txt.split x ⟨#[c]⟩).map sg = cut c (sg x) := by
  have h := sg_join (c := c) (split_ne x c) (StrLaws.split_free x c)
  rw [StrLaws.join_split] at h
  exact h.symm
theorem map_sg_inj : ∀ {a b : List Str}, a.map sg = b.map sg → a = b
  | [], [], _ => rfl
  | [], _ :: _, h => by cases h
  | _ :: _, [], h => by cases h
  | x :: a, y :: b, h => by
    have h : sg x :: a.map sg = sg y :: b.map sg := h
    injection h with h1 h2
    rw [sg_inj h1, map_sg_inj h2]
theorem split_join {c : Nat} {ps : List Str} (h0 : ps ≠ []) (h : ∀ p ∈ ps, c ∉ sg p) : Txt.split (Txt.join ⟨#[c]⟩ ps) ⟨#[c]⟩ = ps :=
  map_sg_inj (by rw [split_cut, join_is, sg_join h0 h])
theorem join_split' (x : Str) (c : Nat) : Txt.join ⟨#[c]⟩ (Txt.split x ⟨#[c]⟩) = x := by rw [join_is, StrLaws.join_split]
theorem join_cons {sep p : Str} {ps : List Str} (h : ps ≠ []) : Txt.join sep (p :: ps) = p ++ sep ++ Txt.join sep ps := by
  rw [join_is, join_is]
  cases ps with
  | nil => exact absurd rfl h
  | cons q r => rfl
/-! ### what a text starts with -/
theorem starts_iff (x y : Str) : Txt.startswith x y = true ↔ ∃ r, sg x = sg y ++ r := by
  unfold Txt.startswith Builtin.Str.subAt
  constructor
  · intro h
    obtain ⟨h1, h2⟩ := Bool.and_eq_true_iff.mp h
    have h2 : (x.cps.extract 0 (0 + y.length) == y.cps) = true := h2
    have e := congrArg Array.toList (eq_of_beq h2)
    rw [Array.toList_extract] at e
    refine ⟨(sg x).drop y.length, ?_⟩
    have e2 : (sg x).take y.length = sg y := by
      have e3 : (List.extract (sg x) 0 (0 + y.length)) = sg y := e
      rw [List.extract_eq_take_drop, List.drop_zero] at e3
      rw [← e3]
      congr 1
      omega
    rw [← e2, List.take_append_drop]
  · rintro ⟨r, e⟩
    have hl : x.length = y.length + r.length := by rw [← sg_len, ← sg_len y, e, List.length_append]
    refine Bool.and_eq_true_iff.mpr ⟨decide_eq_true (by omega), ?_⟩
    show (x.cps.extract 0 (0 + y.length) == y.cps) = true
    have e2 : x.cps.extract 0 (0 + y.length) = y.cps := by
      apply Array.toList_inj.mp
      rw [Array.toList_extract]
      show List.extract (sg x) 0 (0 + y.length) = sg y
      rw [List.extract_eq_take_drop, List.drop_zero, e, Nat.zero_add, Nat.sub_zero]
      rw [← sg_len y, List.take_left']
      rfl
    rw [e2]
    exact beq_self_eq_true _
/-- a text starts with p and c just if it is cut into p and more -/
theorem starts_cut {x p : Str} {c : Nat} (hp : c ∉ sg p) : Txt.startswith x (p ++ ⟨#[c]⟩) = true ↔ ∃ q r, Txt.split x ⟨#[c]⟩ = p :: q :: r := by
  rw [starts_iff]
  constructor
  · rintro ⟨r, e⟩
    rw [sg_app, sg_lit, List.append_assoc, List.singleton_append] at e
    have h := split_cut x c
    rw [e, cut_at hp] at h
    cases hs : Txt.split x ⟨#[c]⟩ with
    | nil => exact absurd hs (split_ne x c)
    | cons a b =>
      rw [hs] at h
      have h : sg a :: b.map sg = sg p :: cut c r := h
      injection h with h1 h2
      cases b with
      | nil => exact absurd h2.symm (cut_ne c r)
      | cons q r' => exact ⟨q, r', by rw [sg_inj h1]⟩
  · rintro ⟨q, r, e⟩
    have h := join_split' x c
    rw [e, join_cons (by simp)] at h
    refine ⟨sg (Txt.join ⟨#[c]⟩ (q :: r)), ?_⟩
    rw [← sg_app, h]
/-! ### numbers -/
def numR (w : Str) : Option Int := if w.length = 0 ∨ 6 < w.length ∨ ((sg w).head? = some 48 ∧ 1 < w.length) then none else if (sg w).all (fun c => decide (48 ≤ c ∧ c ≤ 57)) then some (NumText.digitsVal (sg w) : Nat) else none
theorem sg_num (m : Nat) : sg (toString (m : Int) : Str) = (Nat.toDigits 10 m).map Char.toNat := PySem.W.KIN.signs_num m
theorem num_digits (m : Nat) : NumText.AllDigits (sg (toString (m : Int) : Str)) := by
  intro c hc
  rw [sg_num] at hc
  obtain ⟨ch, hch, e⟩ := List.mem_map.mp hc
  have r := digit_range (Nat.isDigit_of_mem_toDigits (by decide) (by decide) hch)
  rw [← e]
  exact r
theorem numR_some {w : Str} {n : Int} (h : numR w = some n) : w = (toString n : Str) ∧ 0 ≤ n ∧ n ≤ 999999 ∧ NumText.AllDigits (sg w) := by
  unfold numR at h
  split at h
  · cases h
  · rename_i h1
    split at h
    · rename_i h2
      have hd : NumText.AllDigits (sg w) := fun c hc => of_decide_eq_true (List.all_eq_true.mp h2 c hc)
      injection h with h
      subst h
      have hl : (sg w).length = w.length := sg_len w
      have e : Nat.toDigits 10 (NumText.digitsVal (sg w)) = (sg w).map Char.ofNat := by
        refine NumText.toDigits_digitsVal (w.length - 1) (sg w) (by omega) hd ?_
        cases hs : sg w with
        | nil => rw [hs] at hl; simp at hl; omega
        | cons c r =>
          by_cases e1 : w.length - 1 = 0
          · exact .inl e1
          · refine .inr ⟨c, r, rfl, ?_⟩
            have := hd c (by rw [hs]; exact List.mem_cons_self)
            have h3 : ¬ c = 48 := fun ec => h1 (.inr (.inr ⟨by rw [hs, ec]; rfl, by omega⟩))
            omega
      have e2 : sg (toString ((NumText.digitsVal (sg w) : Nat) : Int) : Str) = sg w := by
        rw [sg_num, e, List.map_map]
        have : ∀ c ∈ sg w, (Char.toNat ∘ Char.ofNat) c = c := fun c hc => by
          have := hd c hc
          show (Char.ofNat c).toNat = c
          have hv : c.isValidChar := .inl (by omega)
          unfold Char.ofNat
          rw [dif_pos hv]
          rfl
        rw [List.map_congr_left this, List.map_id'']
        intro; rfl
      refine ⟨(sg_inj e2).symm, by omega, ?_, hd⟩
      have h6 : (Nat.toDigits 10 (NumText.digitsVal (sg w))).length ≤ 6 := by rw [e, List.length_map]; omega
      refine Decidable.byContradiction fun hn => ?_
      have h7 : 10 ^ 6 ≤ NumText.digitsVal (sg w) := by omega
      have := digitsCore10_ge 6 (NumText.digitsVal (sg w) + 1) (NumText.digitsVal (sg w)) [] (by omega) h7
      have h8 : (Nat.toDigits 10 (NumText.digitsVal (sg w))).length = (Nat.toDigitsCore 10 (NumText.digitsVal (sg w) + 1) (NumText.digitsVal (sg w)) []).length := rfl
      simp at this
      omega
    · cases h
theorem num_reads' {n : Int} (h0 : 0 ≤ n) (h1 : n ≤ 999999) : numR (toString n : Str) = some n := by
  obtain ⟨m, rfl⟩ := Int.eq_ofNat_of_zero_le h0
  have hd := num_digits m
  have hv : NumText.digitsVal (sg (toString (m : Int) : Str)) = m := by rw [sg_num]; exact PySem.W.KIN.val_back m
  have hl : (sg (toString (m : Int) : Str)).length ≤ 6 := by rw [sg_num, List.length_map]; exact digits10_le (by decide) (by omega)
  have hw := sg_len (toString (m : Int) : Str)
  unfold numR
  rw [if_neg, if_pos, hv]
  · exact List.all_eq_true.mpr fun c hc => decide_eq_true (hd c hc)
  · rintro (h | h | ⟨h2, h3⟩)
    · have : (sg (toString (m : Int) : Str)) = [] := List.eq_nil_of_length_eq_zero (by omega)
      rw [sg_num] at this
      have := List.map_eq_nil_iff.mp this
      have h9 := Nat.length_toDigits_pos (b := 10) (n := m)
      rw [this] at h9
      simp at h9
    · omega
    · cases hs : sg (toString (m : Int) : Str) with
      | nil => rw [hs] at h2; cases h2
      | cons c r =>
        rw [hs] at h2
        injection h2 with h2
        subst h2
        have e := NumText.toDigits_all _ hd
        rw [hv, hs, List.dropWhile_cons, if_pos (by rfl)] at e
        have e2 := congrArg List.length e
        have e3 : (sg (toString (m : Int) : Str)).length = (Nat.toDigits 10 m).length := by rw [sg_num, List.length_map]
        rw [hs, List.length_cons] at e3
        have hr : 1 ≤ r.length := by
          have := hw
          rw [hs, List.length_cons] at this
          omega
        have hq : (r.dropWhile (· == 48)).length ≤ r.length := (List.dropWhile_sublist _).length_le
        cases hz : r.dropWhile (· == 48) with
        | nil => rw [hz] at e2; simp at e2; omega
        | cons d q =>
          rw [hz] at e2 hq
          simp at e2 hq
          omega
end Lp

/-! LyB: what a listing reads back as. -/
namespace Lp
open PySem PySem.Spec PyProof.Rows L2
theorem sp_is : (" " : Str) = ⟨#[32]⟩ := by decide
theorem nl_is : ("\n" : Str) = ⟨#[10]⟩ := by decide
theorem fn_is : ("function " : Str) = ("function" : Str) ++ ⟨#[32]⟩ := by decide
theorem tb_is : ("table " : Str) = ("table" : Str) ++ ⟨#[32]⟩ := by decide
def rowsT : List (Str × Nat) := [("num", 1), ("var", 1), ("add", 0), ("sub", 0), ("mul", 0), ("less", 0), ("say", 0), ("set", 1), ("unless", 1), ("go", 1), ("turn", 0), ("leap", 2), ("return", 0), ("raise", 2), ("again", 0), ("call", 3), ("handler", 4), ("settled", 0), ("mend", 0), ("cleanup", 3), ("resume", 0)]
def ary (w : Str) : Option Nat := rowsT.lookup w
theorem look_mem {α : Type} {w : Str} {n : α} : ∀ {l : List (Str × α)}, l.lookup w = some n → (w, n) ∈ l
  | [], h => by cases h
  | (v, m) :: l, h => by
    have h : (match w == v with | true => some m | false => l.lookup w) = some n := h
    cases e : (w == v) with
    | true =>
      rw [e] at h
      injection h with h
      rw [eq_of_beq e, h]
      exact List.mem_cons_self
    | false =>
      rw [e] at h
      exact List.mem_cons_of_mem _ (look_mem h)
theorem ary_mem {w : Str} {n : Nat} (h : ary w = some n) : (w, n) ∈ rowsT := look_mem h
theorem ary_all {P : Str × Nat → Bool} (hP : rowsT.all P = true) {w : Str} {n : Nat} (h : ary w = some n) : P (w, n) = true := List.all_eq_true.mp hP _ (ary_mem h)
/-- a sign's absence from a written word, as one looks at it -/
def offB (w : Str) : Bool := (sg w).all fun c => decide (c ≠ 32 ∧ c ≠ 10)
theorem offB_ok {w : Str} (h : offB w = true) : 32 ∉ sg w ∧ 10 ∉ sg w :=
  ⟨fun hm => (of_decide_eq_true (List.all_eq_true.mp h _ hm)).1 rfl, fun hm => (of_decide_eq_true (List.all_eq_true.mp h _ hm)).2 rfl⟩
theorem ary_off {w : Str} {n : Nat} (h : ary w = some n) : 32 ∉ sg w ∧ 10 ∉ sg w := offB_ok (ary_all (P := fun q => offB q.1) (by decide +kernel) h)
theorem ary_fn {w : Str} {n : Nat} (h : ary w = some n) : w ≠ "function" ∧ w ≠ "table" ∧ w.length ≤ 12 ∧ n ≤ 4 := by
  have := ary_all (P := fun q => decide (q.1 ≠ "function" ∧ q.1 ≠ "table" ∧ q.1.length ≤ 12 ∧ q.2 ≤ 4)) (by decide +kernel) h
  exact of_decide_eq_true this
/-! ### words -/
def numN (w : Str) : Option PyData := if w = "-" then some .none else (numR w).map .int
def argAt (h : Bool) (k : Nat) (w : Str) : Option PyData := if (h && k == 3) = true then numN w else (numR w).map .int
def GoodInt (d : PyData) : Prop := ∃ n : Int, d = .int n ∧ 0 ≤ n ∧ n ≤ 999999
def GoodArg (b : Bool) (d : PyData) : Prop := GoodInt d ∨ (b = true ∧ d = .none)
theorem goodInt_off {d : PyData} (h : GoodInt d) : 32 ∉ sg (word d) ∧ 10 ∉ sg (word d) := by
  obtain ⟨n, rfl, h0, h1⟩ := h
  have hd := (numR_some (num_reads' h0 h1)).2.2.2
  exact ⟨fun hm => by have := hd _ hm; omega, fun hm => by have := hd _ hm; omega⟩
theorem goodArg_off {b : Bool} {d : PyData} (h : GoodArg b d) : 32 ∉ sg (word d) ∧ 10 ∉ sg (word d) := by
  rcases h with h | ⟨_, rfl⟩
  · exact goodInt_off h
  · exact offB_ok (by decide +kernel)
theorem int_in {d : PyData} (h : GoodInt d) : (numR (word d)).map PyData.int = some d := by
  obtain ⟨n, rfl, h0, h1⟩ := h
  show (numR (toString n : Str)).map PyData.int = _
  rw [num_reads' h0 h1]; rfl
theorem int_out {w : Str} {d : PyData} (h : (numR w).map PyData.int = some d) : word d = w ∧ GoodInt d := by
  cases e : numR w with
  | none => rw [e] at h; cases h
  | some n =>
    rw [e] at h
    have h : some (PyData.int n) = some d := h
    injection h with h
    subst h
    obtain ⟨h1, h2, h3, _⟩ := numR_some e
    exact ⟨h1.symm, n, rfl, h2, h3⟩
theorem numN_in {d : PyData} (h : GoodArg true d) : numN (word d) = some d := by
  unfold numN
  rcases h with h | ⟨_, rfl⟩
  · rw [if_neg, int_in h]
    intro e
    obtain ⟨n, rfl, h0, h1⟩ := h
    have hd := (numR_some (num_reads' h0 h1)).2.2.2
    have h5 : (45 : Nat) ∈ sg (word (.int n)) := by rw [e]; decide
    have := hd _ h5
    omega
  · rw [if_pos (show word .none = ("-" : Str) from rfl)]
theorem numN_out {w : Str} {d : PyData} (h : numN w = some d) : word d = w ∧ GoodArg true d := by
  unfold numN at h
  split at h
  · rename_i e
    injection h with h
    subst h
    exact ⟨e.symm, .inr ⟨rfl, rfl⟩⟩
  · obtain ⟨h1, h2⟩ := int_out h
    exact ⟨h1, .inl h2⟩
theorem arg_in {h : Bool} {k : Nat} {d : PyData} (g : GoodArg (h && k == 3) d) : argAt h k (word d) = some d := by
  unfold argAt
  cases e : (h && k == 3) with
  | true => rw [if_pos rfl]; rw [e] at g; exact numN_in g
  | false =>
    rw [if_neg (by decide)]
    rw [e] at g
    rcases g with g | ⟨g, _⟩
    · exact int_in g
    · cases g
theorem arg_out {h : Bool} {k : Nat} {w : Str} {d : PyData} (g : argAt h k w = some d) : word d = w ∧ GoodArg (h && k == 3) d := by
  unfold argAt at g
  cases e : (h && k == 3) with
  | true => rw [e, if_pos rfl] at g; exact numN_out g
  | false =>
    rw [e, if_neg (by decide)] at g
    obtain ⟨h1, h2⟩ := int_out g
    exact ⟨h1, .inl h2⟩
def seqO {α : Type} : List (Option α) → Option (List α)
  | [] => some []
  | none :: _ => none
  | some a :: r => (seqO r).map (a :: ·)
theorem seqO_iff {α : Type} : ∀ {l : List (Option α)} {as : List α}, seqO l = some as ↔ l = as.map some
  | [], [] => by simp [seqO]
  | [], _ :: _ => by simp [seqO]
  | none :: r, as => by cases as <;> simp [seqO]
  | some a :: r, as => by
    have ih := @seqO_iff α r
    cases e : seqO r with
    | none =>
      cases as with
      | nil => simp [seqO, e]
      | cons b bs =>
        simp only [seqO, e, List.map_cons, Option.map_none]
        constructor
        · intro h; cases h
        · intro h
          injection h with h1 h2
          have := (ih (as := bs)).mpr h2
          rw [e] at this; cases this
    | some bs' =>
      have e2 := ih.mp e
      cases as with
      | nil => simp [seqO, e]
      | cons b bs =>
        simp only [seqO, e, Option.map_some, List.map_cons]
        constructor
        · intro h
          injection h with h
          injection h with h1 h2
          rw [h1, ← h2, e2]
        · intro h
          injection h with h1 h2
          injection h1 with h1
          have := (ih (as := bs)).mpr h2
          rw [e] at this
          injection this with this
          rw [h1, this]
theorem seqO_none {α : Type} {l : List (Option α)} {i : Nat} (h : l[i]? = some none) : seqO l = none := by
  cases e : seqO l with
  | none => rfl
  | some as =>
    have := seqO_iff.mp e
    rw [this, List.getElem?_map] at h
    cases q : as[i]? with
    | none => rw [q] at h; cases h
    | some a => rw [q] at h; cases h
def argsP (h : Bool) : Nat → List Str → List (Option PyData)
  | _, [] => []
  | k, w :: ws => argAt h k w :: argsP h (k + 1) ws
theorem argsP_len {h : Bool} : ∀ {k : Nat} {ws : List Str}, (argsP h k ws).length = ws.length
  | _, [] => rfl
  | k, w :: ws => by
    show (argsP h (k + 1) ws).length + 1 = ws.length + 1
    rw [argsP_len]
theorem argsP_at {h : Bool} : ∀ {k : Nat} {ws : List Str} {i : Nat}, (argsP h k ws)[i]? = ws[i]?.map (argAt h (k + i))
  | _, [], i => rfl
  | k, w :: ws, 0 => rfl
  | k, w :: ws, i + 1 => by
    show (argsP h (k + 1) ws)[i]? = ws[i]?.map (argAt h (k + (i + 1)))
    rw [argsP_at (k := k + 1), show k + 1 + i = k + (i + 1) by omega]
def GoodArgs (h : Bool) : Nat → List PyData → Prop
  | _, [] => True
  | k, d :: ds => GoodArg (h && k == 3) d ∧ GoodArgs h (k + 1) ds
theorem args_in {h : Bool} : ∀ {k : Nat} {ds : List PyData}, GoodArgs h k ds → argsP h k (ds.map word) = ds.map some
  | _, [], _ => rfl
  | k, d :: ds, g => by
    show argAt h k (word d) :: argsP h (k + 1) (ds.map word) = some d :: ds.map some
    rw [arg_in g.1, args_in g.2]
theorem args_out {h : Bool} : ∀ {k : Nat} {ws : List Str} {ds : List PyData}, argsP h k ws = ds.map some → GoodArgs h k ds ∧ ds.map word = ws
  | _, [], [], _ => ⟨trivial, rfl⟩
  | _, [], _ :: _, e => by cases e
  | _, _ :: _, [], e => by cases e
  | k, w :: ws, d :: ds, e => by
    have e : argAt h k w :: argsP h (k + 1) ws = some d :: ds.map some := e
    injection e with e1 e2
    obtain ⟨a1, a2⟩ := arg_out e1
    obtain ⟨b1, b2⟩ := args_out e2
    exact ⟨⟨a2, b1⟩, by rw [List.map_cons, a1, b2]⟩
theorem args_off {h : Bool} : ∀ {k : Nat} {ds : List PyData}, GoodArgs h k ds → ∀ d ∈ ds, 32 ∉ sg (word d) ∧ 10 ∉ sg (word d)
  | _, [], _, d, hd => by cases hd
  | k, e :: ds, g, d, hd => by
    rcases List.mem_cons.mp hd with rfl | hd
    · exact goodArg_off g.1
    · exact args_off g.2 d hd
/-! ### rows -/
def isHand (w : Str) : Bool := decide (w = "handler")
def rowR (line : Str) : Option (List PyData) := match Txt.split line " " with
  | [] => none
  | w :: ws => if ary w = some ws.length then (seqO (argsP (isHand w) 1 ws)).map (PyData.str w :: ·) else none
structure GoodRow (ds : List PyData) : Prop where
  ex : ∃ w args, ds = .str w :: args ∧ ary w = some args.length ∧ GoodArgs (isHand w) 1 args
theorem GoodRow.off {ds : List PyData} (g : GoodRow ds) : ∀ d ∈ ds, 32 ∉ sg (word d) ∧ 10 ∉ sg (word d) := by
  obtain ⟨w, args, rfl, ha, hg⟩ := g.ex
  intro d hd
  rcases List.mem_cons.mp hd with rfl | hd
  · exact ary_off ha
  · exact args_off hg d hd
theorem split_row {ds : List PyData} (h0 : ds ≠ []) (h : ∀ d ∈ ds, 32 ∉ sg (word d)) : Txt.split (rowL ds) " " = ds.map word := by
  unfold rowL
  rw [sp_is]
  refine split_join (by simpa using h0) fun p hp => ?_
  obtain ⟨d, hd, rfl⟩ := List.mem_map.mp hp
  exact h d hd
theorem join_off {c : Nat} {sep : Str} (hs : c ∉ sg sep) : ∀ {ps : List Str}, (∀ p ∈ ps, c ∉ sg p) → c ∉ sg (Txt.join sep ps)
  | [], _ => by rw [join_is]; intro h; cases h
  | [p], h => by rw [join_is]; exact h p List.mem_cons_self
  | p :: q :: r, h => by
    rw [join_cons (by simp), sg_app, sg_app]
    intro hm
    rcases List.mem_append.mp hm with hm | hm
    · rcases List.mem_append.mp hm with hm | hm
      · exact h p List.mem_cons_self hm
      · exact hs hm
    · exact join_off hs (ps := q :: r) (fun z hz => h z (List.mem_cons_of_mem _ hz)) hm
theorem sp_off : 10 ∉ sg (" " : Str) := by decide
theorem rowL_off {ds : List PyData} (h : ∀ d ∈ ds, 10 ∉ sg (word d)) : 10 ∉ sg (rowL ds) := join_off sp_off fun p hp => by
  obtain ⟨d, hd, rfl⟩ := List.mem_map.mp hp
  exact h d hd
theorem row_in {ds : List PyData} (g : GoodRow ds) : rowR (rowL ds) = some ds := by
  have hs := split_row (ds := ds) (by obtain ⟨w, a, rfl, _⟩ := g.ex; simp) fun d hd => (g.off d hd).1
  obtain ⟨w, args, rfl, ha, hg⟩ := g.ex
  unfold rowR
  rw [hs]
  show (if ary w = some (args.map word).length then (seqO (argsP (isHand w) 1 (args.map word))).map (PyData.str w :: ·) else none) = _
  rw [List.length_map, if_pos ha, args_in hg, seqO_iff.mpr rfl]
  rfl
theorem row_out {line : Str} {ds : List PyData} (h : rowR line = some ds) : GoodRow ds ∧ rowL ds = line := by
  unfold rowR at h
  cases hs : Txt.split line " " with
  | nil => rw [hs] at h; cases h
  | cons w ws =>
    rw [hs] at h
    dsimp only at h
    split at h
    · rename_i ha
      cases e : seqO (argsP (isHand w) 1 ws) with
      | none => rw [e] at h; cases h
      | some args =>
        rw [e] at h
        have h : some (PyData.str w :: args) = some ds := h
        injection h with h
        subst h
        obtain ⟨a1, a2⟩ := args_out (seqO_iff.mp e)
        refine ⟨⟨w, args, rfl, ?_, a1⟩, ?_⟩
        · rw [ha, ← a2, List.length_map]
        · have j := join_split' line 32
          rw [← sp_is, hs] at j
          rw [← j]
          show Txt.join " " (w :: args.map word) = _
          rw [a2]
    · cases h
/-- what a good row's line starts with -/
theorem row_starts {ds : List PyData} (g : GoodRow ds) : Txt.startswith (rowL ds) "function " = false ∧ Txt.startswith (rowL ds) "table " = false := by
  have hs := split_row (ds := ds) (by obtain ⟨w, a, rfl, _⟩ := g.ex; simp) fun d hd => (g.off d hd).1
  obtain ⟨w, args, rfl, ha, hg⟩ := g.ex
  obtain ⟨n1, n2, _⟩ := ary_fn ha
  rw [sp_is] at hs
  constructor
  · rw [fn_is]
    refine Bool.eq_false_iff.mpr fun h => ?_
    obtain ⟨q, r, e⟩ := (starts_cut (p := ("function" : Str)) (c := 32) (by decide)).mp h
    rw [hs] at e
    injection e with e _
    exact n1 e
  · rw [tb_is]
    refine Bool.eq_false_iff.mpr fun h => ?_
    obtain ⟨q, r, e⟩ := (starts_cut (p := ("table" : Str)) (c := 32) (by decide)).mp h
    rw [hs] at e
    injection e with e _
    exact n2 e
/-! ### a table's rows -/
def isKind (s : Str) : Bool := decide (s = "handler") || decide (s = "cleanup")
def tabW (ws : List Str) : Option (List PyData) := match ws with
  | [_, a, b, s, d, e, f] => if isKind s = true then seqO [(numR a).map .int, (numR b).map .int, some (.str s), numN d, (numR e).map .int, (numR f).map .int] else none
  | _ => none
def tabR (line : Str) : Option (List PyData) := tabW (Txt.split line " ")
structure GoodTab (ds : List PyData) : Prop where
  ex : ∃ a b s d e f, ds = [a, b, .str s, d, e, f] ∧ GoodInt a ∧ GoodInt b ∧ isKind s = true ∧ GoodArg true d ∧ GoodInt e ∧ GoodInt f
theorem kind_off {s : Str} (h : isKind s = true) : 32 ∉ sg s ∧ 10 ∉ sg s := by
  rcases Bool.or_eq_true_iff.mp h with h | h
  · rw [of_decide_eq_true h]; exact offB_ok (by decide +kernel)
  · rw [of_decide_eq_true h]; exact offB_ok (by decide +kernel)
theorem GoodTab.off {ds : List PyData} (g : GoodTab ds) : ∀ d ∈ ds, 32 ∉ sg (word d) ∧ 10 ∉ sg (word d) := by
  obtain ⟨a, b, s, d, e, f, rfl, ha, hb, hs, hd, he, hf⟩ := g.ex
  intro z hz
  simp only [List.mem_cons, List.not_mem_nil, or_false] at hz
  rcases hz with rfl | rfl | rfl | rfl | rfl | rfl
  · exact goodInt_off ha
  · exact goodInt_off hb
  · exact kind_off hs
  · exact goodArg_off hd
  · exact goodInt_off he
  · exact goodInt_off hf
theorem tabL_is {ds : List PyData} (h : ds ≠ []) : tabL ds = Txt.join ⟨#[32]⟩ (("table" : Str) :: ds.map word) := by
  rw [join_cons (by simpa using h)]
  unfold tabL rowL
  rw [tb_is, sp_is]
theorem split_tab {ds : List PyData} (h0 : ds ≠ []) (h : ∀ d ∈ ds, 32 ∉ sg (word d)) : Txt.split (tabL ds) " " = ("table" : Str) :: ds.map word := by
  rw [tabL_is h0, sp_is]
  refine split_join (by simp) fun p hp => ?_
  rcases List.mem_cons.mp hp with rfl | hp
  · decide
  · obtain ⟨d, hd, rfl⟩ := List.mem_map.mp hp
    exact h d hd
theorem GoodTab.ne {ds : List PyData} (g : GoodTab ds) : ds ≠ [] := by
  obtain ⟨a, b, s, d, e, f, rfl, _⟩ := g.ex
  simp
theorem tab_in {ds : List PyData} (g : GoodTab ds) : tabR (tabL ds) = some ds := by
  have hs := split_tab g.ne fun d hd => (g.off d hd).1
  unfold tabR
  rw [hs]
  obtain ⟨a, b, s, d, e, f, rfl, ha, hb, hk, hd, he, hf⟩ := g.ex
  show (if isKind s = true then seqO [(numR (word a)).map .int, (numR (word b)).map .int, some (.str s), numN (word d), (numR (word e)).map .int, (numR (word f)).map .int] else none) = _
  rw [if_pos hk, int_in ha, int_in hb, numN_in hd, int_in he, int_in hf]
  rfl
theorem tabW_inv {ws : List Str} {ds : List PyData} (h : tabW ws = some ds) : ∃ z, GoodTab ds ∧ ws = z :: ds.map word := by
  unfold tabW at h
  split at h
  · rename_i z a b s d e f
    split at h
    · rename_i hk
      have h := seqO_iff.mp h
      obtain ⟨da, db, ds', dd, de, df, rfl⟩ : ∃ da db ds' dd de df, ds = [da, db, ds', dd, de, df] := by
        have hl := congrArg List.length h
        rw [List.length_map] at hl
        have hl : 6 = ds.length := hl
        match ds, hl with
        | [a, b, c, d, e, f], _ => exact ⟨a, b, c, d, e, f, rfl⟩
      · simp only [List.map_cons, List.map_nil, List.cons.injEq, and_true] at h
        obtain ⟨h1, h2, h3, h4, h5, h6⟩ := h
        injection h3 with h3
        subst h3
        obtain ⟨a1, a2⟩ := int_out h1
        obtain ⟨b1, b2⟩ := int_out h2
        obtain ⟨d1, d2⟩ := numN_out h4
        obtain ⟨e1, e2⟩ := int_out h5
        obtain ⟨f1, f2⟩ := int_out h6
        refine ⟨z, ⟨da, db, s, dd, de, df, rfl, a2, b2, hk, d2, e2, f2⟩, ?_⟩
        simp only [List.map_cons, List.map_nil, a1, b1, d1, e1, f1]
        rfl
    · cases h
  · cases h
theorem tab_out {line : Str} {ds : List PyData} (hst : Txt.startswith line "table " = true) (h : tabR line = some ds) : GoodTab ds ∧ tabL ds = line := by
  obtain ⟨z, g, e⟩ := tabW_inv h
  rw [tb_is] at hst
  obtain ⟨q, r, e2⟩ := (starts_cut (p := ("table" : Str)) (c := 32) (by decide)).mp hst
  rw [sp_is, e2] at e
  injection e with e3 e4
  have j := join_split' line 32
  rw [e2, e4] at j
  exact ⟨g, by rw [tabL_is g.ne]; exact j⟩
theorem tab_starts {ds : List PyData} (g : GoodTab ds) : Txt.startswith (tabL ds) "function " = false ∧ Txt.startswith (tabL ds) "table " = true := by
  have hs := split_tab g.ne fun d hd => (g.off d hd).1
  rw [sp_is] at hs
  constructor
  · rw [fn_is]
    refine Bool.eq_false_iff.mpr fun h => ?_
    obtain ⟨q, r, e⟩ := (starts_cut (p := ("function" : Str)) (c := 32) (by decide)).mp h
    rw [hs] at e
    injection e with e _
    exact absurd e (by decide)
  · rw [tb_is]
    refine (starts_cut (p := ("table" : Str)) (c := 32) (by decide)).mpr ?_
    obtain ⟨a, b, s, d, e, f, rfl, _⟩ := g.ex
    exact ⟨_, _, hs⟩
theorem tabL_off {ds : List PyData} (g : GoodTab ds) : 10 ∉ sg (tabL ds) := by
  rw [tabL_is g.ne]
  refine join_off (by decide) fun p hp => ?_
  rcases List.mem_cons.mp hp with rfl | hp
  · decide
  · obtain ⟨d, hd, rfl⟩ := List.mem_map.mp hp
    exact (g.off d hd).2
end Lp

/-! LyC: a whole listing, read back. -/
namespace Lp
open PySem PySem.Spec PyProof.Rows L2
/-! ### a function's lines -/
abbrev BSt : Type := List (List PyData) × List (List PyData)
def bodyS (st : BSt) (line : Str) : Option BSt :=
  if Txt.startswith line "table " = true then (tabR line).map fun t => (st.1, st.2 ++ [t])
  else if st.2 = [] then (rowR line).map fun r => (st.1 ++ [r], st.2) else none
def headR (hs : List Str) : Option Int := match hs with
  | [_, m] => numR m
  | _ => none
def fnR (lines : List Str) : Option Fd := match lines with
  | [] => none
  | hd :: rest => (headR (Txt.split hd " ")).bind fun m => (rest.foldlM bodyS ([], [])).map fun st => ⟨m, st.1, st.2⟩
structure GoodFd (f : Fd) : Prop where
  many : 0 ≤ f.many ∧ f.many ≤ 999999
  rows : ∀ r ∈ f.rows, GoodRow r
  tab : ∀ t ∈ f.tab, GoodTab t
theorem body_rows : ∀ {rows : List (List PyData)} {acc : List (List PyData)} {rest : List Str}, (∀ r ∈ rows, GoodRow r) → (rows.map rowL ++ rest).foldlM bodyS (acc, []) = rest.foldlM bodyS (acc ++ rows, [])
  | [], acc, rest, _ => by rw [List.append_nil]; rfl
  | r :: rows, acc, rest, h => by
    have hr := h r List.mem_cons_self
    have e : bodyS (acc, []) (rowL r) = some (acc ++ [r], []) := by
      unfold bodyS
      rw [if_neg (by rw [(row_starts hr).2]; decide), if_pos rfl, row_in hr]; rfl
    rw [List.map_cons, List.cons_append, List.foldlM_cons, e]
    show (rows.map rowL ++ rest).foldlM bodyS (acc ++ [r], []) = _
    rw [body_rows (acc := acc ++ [r]) fun z hz => h z (List.mem_cons_of_mem _ hz), List.append_assoc]; rfl
theorem body_tabs : ∀ {tabs : List (List PyData)} {rows acc : List (List PyData)}, (∀ t ∈ tabs, GoodTab t) → (tabs.map tabL).foldlM bodyS (rows, acc) = some (rows, acc ++ tabs)
  | [], rows, acc, _ => by rw [List.append_nil]; rfl
  | t :: tabs, rows, acc, h => by
    have ht := h t List.mem_cons_self
    have e : bodyS (rows, acc) (tabL t) = some (rows, acc ++ [t]) := by
      unfold bodyS
      rw [if_pos (tab_starts ht).2, tab_in ht]; rfl
    rw [List.map_cons, List.foldlM_cons, e]
    show (tabs.map tabL).foldlM bodyS (rows, acc ++ [t]) = _
    rw [body_tabs (acc := acc ++ [t]) fun z hz => h z (List.mem_cons_of_mem _ hz), List.append_assoc]; rfl
theorem int_off {n : Int} (h0 : 0 ≤ n) (h1 : n ≤ 999999) : 32 ∉ sg (toString n : Str) ∧ 10 ∉ sg (toString n : Str) := goodInt_off (d := .int n) ⟨n, rfl, h0, h1⟩
theorem fnL_is (m : Int) : fnL m = Txt.join ⟨#[32]⟩ [("function" : Str), (toString m : Str)] := by
  rw [join_cons (by simp), join_is]
  unfold fnL
  rw [fn_is]
  rfl
theorem split_fn {m : Int} (h : 0 ≤ m ∧ m ≤ 999999) : Txt.split (fnL m) " " = [("function" : Str), (toString m : Str)] := by
  rw [fnL_is, sp_is]
  refine split_join (by simp) fun p hp => ?_
  simp only [List.mem_cons, List.not_mem_nil, or_false] at hp
  rcases hp with rfl | rfl
  · decide
  · exact (int_off h.1 h.2).1
theorem fnL_starts (m : Int) : Txt.startswith (fnL m) "function " = true := (starts_iff _ _).mpr ⟨sg (toString m : Str), by unfold fnL; rw [sg_app]⟩
theorem fn_in {f : Fd} (g : GoodFd f) : fnR f.lines = some f := by
  unfold fnR Fd.lines
  dsimp only
  rw [split_fn g.many]
  show ((numR (toString f.many : Str)).bind _) = _
  rw [num_reads' g.many.1 g.many.2]
  show ((f.rows.map rowL ++ f.tab.map tabL).foldlM bodyS ([], [])).map _ = _
  rw [body_rows g.rows, body_tabs g.tab]
  rfl
/-- what the body's lines told -/
structure BodyI (ls : List Str) (st : BSt) : Prop where
  is : ls = st.1.map rowL ++ st.2.map tabL
  rows : ∀ r ∈ st.1, GoodRow r
  tab : ∀ t ∈ st.2, GoodTab t
theorem bodyS_inv {ls : List Str} {st st' : BSt} {line : Str} (i : BodyI ls st) (h : bodyS st line = some st') : BodyI (ls ++ [line]) st' := by
  unfold bodyS at h
  split at h
  · rename_i hs
    cases e : tabR line with
    | none => rw [e] at h; cases h
    | some t =>
      rw [e] at h
      have h : some ((st.1, st.2 ++ [t]) : BSt) = some st' := h
      injection h with h
      subst h
      obtain ⟨g, el⟩ := tab_out hs e
      refine ⟨?_, i.rows, fun z hz => ?_⟩
      · show ls ++ [line] = st.1.map rowL ++ (st.2 ++ [t]).map tabL
        rw [i.is, List.map_append, ← List.append_assoc, ← el]; rfl
      · rcases List.mem_append.mp hz with hz | hz
        · exact i.tab z hz
        · rw [List.mem_singleton.mp hz]; exact g
  · split at h
    · rename_i h2
      cases e : rowR line with
      | none => rw [e] at h; cases h
      | some r =>
        rw [e] at h
        have h : some ((st.1 ++ [r], st.2) : BSt) = some st' := h
        injection h with h
        subst h
        obtain ⟨g, el⟩ := row_out e
        refine ⟨?_, fun z hz => ?_, i.tab⟩
        · show ls ++ [line] = (st.1 ++ [r]).map rowL ++ st.2.map tabL
          rw [i.is, h2, List.map_append, ← el]
          simp
        · rcases List.mem_append.mp hz with hz | hz
          · exact i.rows z hz
          · rw [List.mem_singleton.mp hz]; exact g
    · cases h
theorem body_inv : ∀ {lines : List Str} {ls : List Str} {st st' : BSt}, BodyI ls st → lines.foldlM bodyS st = some st' → BodyI (ls ++ lines) st'
  | [], ls, st, st', i, h => by
    have h : some st = some st' := h
    injection h with h
    subst h
    rw [List.append_nil]; exact i
  | l :: lines, ls, st, st', i, h => by
    rw [List.foldlM_cons] at h
    cases e : bodyS st l with
    | none => rw [e] at h; cases h
    | some s1 =>
      rw [e] at h
      have := body_inv (bodyS_inv i e) h
      rwa [List.append_assoc] at this
theorem fn_out {lines : List Str} {f : Fd} (hst : ∀ l, lines.head? = some l → Txt.startswith l "function " = true) (h : fnR lines = some f) : GoodFd f ∧ f.lines = lines := by
  cases lines with
  | nil => cases h
  | cons hd rest =>
    have hst := hst hd rfl
    unfold fnR at h
    dsimp only at h
    cases em : headR (Txt.split hd " ") with
    | none => rw [em] at h; cases h
    | some m =>
      rw [em] at h
      have h : (rest.foldlM bodyS ([], [])).map (fun st => (⟨m, st.1, st.2⟩ : Fd)) = some f := h
      cases eb : rest.foldlM bodyS ([], []) with
      | none => rw [eb] at h; cases h
      | some st =>
        rw [eb] at h
        have h : some (⟨m, st.1, st.2⟩ : Fd) = some f := h
        injection h with h
        subst h
        have i := body_inv (ls := []) ⟨rfl, fun r hr => (by cases hr), fun r hr => (by cases hr)⟩ eb
        rw [List.nil_append] at i
        unfold headR at em
        split at em
        · rename_i a w hw
          obtain ⟨e1, e2, e3, _⟩ := numR_some em
          refine ⟨⟨⟨e2, e3⟩, i.rows, i.tab⟩, ?_⟩
          show fnL m :: (st.1.map rowL ++ st.2.map tabL) = hd :: rest
          rw [← i.is]
          congr 1
          rw [fn_is] at hst
          obtain ⟨q, r, e4⟩ := (starts_cut (p := ("function" : Str)) (c := 32) (by decide)).mp hst
          rw [sp_is, e4] at hw
          injection hw with h1 h2
          have j := join_split' hd 32
          rw [e4, h2, e1] at j
          rw [fnL_is]
          exact j
        · cases em
/-! ### the whole -/
abbrev RSt : Type := List Fd × List Str
def readS (st : RSt) (line : Str) : Option RSt :=
  if Txt.startswith line "function " = true ∧ st.2 ≠ [] then (fnR st.2).map fun f => (st.1 ++ [f], [line])
  else if st.2 = [] ∧ Txt.startswith line "function " = false then none else some (st.1, st.2 ++ [line])
open Classical in
/-- a row of the machine's own for a row of words -/
noncomputable def toRw (ds : List PyData) : Rw := if h : ∃ r : Rw, r.ds = ds then Classical.choose h else .say
theorem toRw_ds {ds : List PyData} (h : ∃ r : Rw, r.ds = ds) : (toRw ds).ds = ds := by
  unfold toRw
  rw [dif_pos h]
  exact Classical.choose_spec h
noncomputable def tableOf (rows : List (List PyData)) : List (List PyData) := (tabAt 0 (rows.map toRw)).map Tb.ds
/-- all functions of a text, their tables not yet looked at -/
def readR0 (text : Str) : Option (List Fd) := ((Txt.split text "\n").foldlM readS ([], [])).bind fun st => (fnR st.2).map fun f => st.1 ++ [f]
open Classical in
noncomputable def readR (text : Str) : Option (List Fd) := (readR0 text).bind fun c => if ∀ f ∈ c, f.tab = tableOf f.rows then some c else none
theorem mid_lines {f : Fd} {found : List Fd} : ∀ {ls : List Str} {acc : List Str} {rest : List Str}, acc ≠ [] → (∀ l ∈ ls, Txt.startswith l "function " = false) → (ls ++ rest).foldlM readS (found, acc) = rest.foldlM readS (found, acc ++ ls)
  | [], acc, rest, _, _ => by rw [List.append_nil]; rfl
  | l :: ls, acc, rest, h0, h => by
    have e : readS (found, acc) l = some (found, acc ++ [l]) := by
      unfold readS
      rw [if_neg (by rw [h l List.mem_cons_self]; simp), if_neg (by simp [h0])]
    rw [List.cons_append, List.foldlM_cons, e]
    show (ls ++ rest).foldlM readS (found, acc ++ [l]) = _
    rw [mid_lines (f := f) (acc := acc ++ [l]) (by simp) fun z hz => h z (List.mem_cons_of_mem _ hz), List.append_assoc]; rfl
theorem GoodFd.starts {f : Fd} (g : GoodFd f) : ∀ l ∈ f.rows.map rowL ++ f.tab.map tabL, Txt.startswith l "function " = false := fun l hl => by
  rcases List.mem_append.mp hl with hl | hl
  · obtain ⟨r, hr, rfl⟩ := List.mem_map.mp hl
    exact (row_starts (g.rows r hr)).1
  · obtain ⟨r, hr, rfl⟩ := List.mem_map.mp hl
    exact (tab_starts (g.tab r hr)).1
theorem read_more : ∀ {c : List Fd} {found : List Fd} {g : Fd}, GoodFd g → (∀ f ∈ c, GoodFd f) → ∃ st, (c.flatMap Fd.lines).foldlM readS (found, g.lines) = some st ∧ (fnR st.2).map (fun f => st.1 ++ [f]) = some (found ++ g :: c)
  | [], found, g, hg, _ => ⟨_, rfl, by show (fnR g.lines).map _ = _; rw [fn_in hg]; rfl⟩
  | f :: c, found, g, hg, h => by
    have hf := h f List.mem_cons_self
    obtain ⟨st, e1, e2⟩ := read_more (c := c) (found := found ++ [g]) hf fun z hz => h z (List.mem_cons_of_mem _ hz)
    refine ⟨st, ?_, by rw [e2, List.append_assoc]; rfl⟩
    have e : readS (found, g.lines) (fnL f.many) = some (found ++ [g], [fnL f.many]) := by
      unfold readS
      rw [if_pos ⟨fnL_starts _, by unfold Fd.lines; simp⟩]
      show (fnR g.lines).map _ = _
      rw [fn_in hg]; rfl
    rw [List.flatMap_cons]
    unfold Fd.lines at e1 ⊢
    rw [List.cons_append, List.foldlM_cons]
    show (readS (found, g.lines) (fnL f.many)).bind _ = _
    rw [e]
    show (_ ++ _ : List Str).foldlM readS (found ++ [g], [fnL f.many]) = _
    rw [mid_lines (f := f) (by simp) hf.starts]
    exact e1
theorem lines_off {f : Fd} (g : GoodFd f) : ∀ l ∈ f.lines, 10 ∉ sg l := fun l hl => by
  rcases List.mem_cons.mp hl with rfl | hl
  · rw [fnL_is]
    refine join_off (by decide) fun p hp => ?_
    simp only [List.mem_cons, List.not_mem_nil, or_false] at hp
    rcases hp with rfl | rfl
    · decide
    · exact (int_off g.many.1 g.many.2).2
  · rcases List.mem_append.mp hl with hl | hl
    · obtain ⟨r, hr, rfl⟩ := List.mem_map.mp hl
      exact rowL_off fun d hd => ((g.rows r hr).off d hd).2
    · obtain ⟨r, hr, rfl⟩ := List.mem_map.mp hl
      exact tabL_off (g.tab r hr)
open Classical in
theorem read_in {c : List Fd} (h0 : c ≠ []) (h : ∀ f ∈ c, GoodFd f) (ht : ∀ f ∈ c, f.tab = tableOf f.rows) : readR (listingD c) = some c := by
  have hs : Txt.split (listingD c) "\n" = c.flatMap Fd.lines := by
    unfold listingD
    rw [nl_is]
    refine split_join ?_ fun l hl => ?_
    · cases c with
      | nil => exact absurd rfl h0
      | cons f c => rw [List.flatMap_cons]; unfold Fd.lines; simp
    · obtain ⟨f, hf, hl⟩ := List.mem_flatMap.mp hl
      exact lines_off (h f hf) l hl
  have e : readR0 (listingD c) = some c := by
    unfold readR0
    rw [hs]
    cases c with
    | nil => exact absurd rfl h0
    | cons f c =>
      have hf := h f List.mem_cons_self
      obtain ⟨st, e1, e2⟩ := read_more (c := c) (found := []) hf fun z hz => h z (List.mem_cons_of_mem _ hz)
      have e3 : readS ([], []) (fnL f.many) = some ([], [fnL f.many]) := by
        unfold readS
        rw [if_neg (by simp), if_neg (by rw [fnL_starts]; simp)]
        rfl
      rw [List.flatMap_cons]
      unfold Fd.lines at e1 ⊢
      rw [List.cons_append, List.foldlM_cons]
      show ((readS ([], []) (fnL f.many)).bind _).bind _ = _
      rw [e3]
      show ((_ ++ _ : List Str).foldlM readS ([], [fnL f.many])).bind _ = _
      rw [mid_lines (f := f) (by simp) hf.starts]
      show (List.foldlM readS ([], fnL f.many :: (f.rows.map rowL ++ f.tab.map tabL)) _).bind _ = _
      rw [e1]
      exact e2
  unfold readR
  rw [e]
  show (if _ then _ else _) = _
  rw [if_pos ht]
/-- what the lines so far told -/
structure ReadI (ls : List Str) (st : RSt) : Prop where
  is : ls = st.1.flatMap Fd.lines ++ st.2
  good : ∀ f ∈ st.1, GoodFd f
  first : ∀ l, st.2.head? = some l → Txt.startswith l "function " = true
theorem readS_inv {ls : List Str} {st st' : RSt} {line : Str} (i : ReadI ls st) (h : readS st line = some st') : ReadI (ls ++ [line]) st' := by
  unfold readS at h
  split at h
  · rename_i hs
    cases e : fnR st.2 with
    | none => rw [e] at h; cases h
    | some f =>
      rw [e] at h
      have h : some ((st.1 ++ [f], [line]) : RSt) = some st' := h
      injection h with h
      subst h
      obtain ⟨g, el⟩ := fn_out i.first e
      refine ⟨?_, fun z hz => ?_, fun l hl => ?_⟩
      · show ls ++ [line] = (st.1 ++ [f]).flatMap Fd.lines ++ [line]
        rw [i.is, List.flatMap_append, ← el]
        simp
      · rcases List.mem_append.mp hz with hz | hz
        · exact i.good z hz
        · rw [List.mem_singleton.mp hz]; exact g
      · have hl : some line = some l := hl
        injection hl with hl
        rw [← hl]; exact hs.1
  · split at h
    · cases h
    · rename_i h1 h2
      injection h with h
      subst h
      refine ⟨?_, i.good, fun l hl => ?_⟩
      · show ls ++ [line] = st.1.flatMap Fd.lines ++ (st.2 ++ [line])
        rw [i.is, List.append_assoc]
      · cases e : st.2 with
        | nil =>
          have hl : (st.2 ++ [line]).head? = some l := hl
          rw [e] at hl
          have hl : some line = some l := hl
          injection hl with hl
          rw [← hl]
          cases q : Txt.startswith line "function " with
          | true => rfl
          | false => exact absurd ⟨e, q⟩ h2
        | cons a b =>
          have hl : (st.2 ++ [line]).head? = some l := hl
          rw [e] at hl
          exact i.first l (by rw [e]; exact hl)
theorem read_inv : ∀ {lines : List Str} {ls : List Str} {st st' : RSt}, ReadI ls st → lines.foldlM readS st = some st' → ReadI (ls ++ lines) st'
  | [], ls, st, st', i, h => by
    have h : some st = some st' := h
    injection h with h
    subst h
    rw [List.append_nil]; exact i
  | l :: lines, ls, st, st', i, h => by
    rw [List.foldlM_cons] at h
    cases e : readS st l with
    | none => rw [e] at h; cases h
    | some s1 =>
      rw [e] at h
      have := read_inv (readS_inv i e) h
      rwa [List.append_assoc] at this
open Classical in
theorem read_out {text : Str} {c : List Fd} (h : readR text = some c) : listingD c = text ∧ c ≠ [] ∧ (∀ f ∈ c, GoodFd f) ∧ ∀ f ∈ c, f.tab = tableOf f.rows := by
  unfold readR at h
  cases e0 : readR0 text with
  | none => rw [e0] at h; cases h
  | some c0 =>
    rw [e0] at h
    have h : (if ∀ f ∈ c0, f.tab = tableOf f.rows then some c0 else none) = some c := h
    split at h
    · rename_i ht
      injection h with h
      subst h
      unfold readR0 at e0
      cases e1 : (Txt.split text "\n").foldlM readS ([], []) with
      | none => rw [e1] at e0; cases e0
      | some st =>
        rw [e1] at e0
        have e0 : (fnR st.2).map (fun f => st.1 ++ [f]) = some c0 := e0
        cases e2 : fnR st.2 with
        | none => rw [e2] at e0; cases e0
        | some f =>
          rw [e2] at e0
          have e0 : some (st.1 ++ [f]) = some c0 := e0
          injection e0 with e0
          have i := read_inv (ls := []) ⟨rfl, fun f hf => (by cases hf), fun l hl => (by cases hl)⟩ e1
          rw [List.nil_append] at i
          obtain ⟨g, el⟩ := fn_out i.first e2
          refine ⟨?_, by rw [← e0]; simp, fun z hz => ?_, ht⟩
          · have j := join_split' text 10
            rw [← nl_is, i.is] at j
            rw [← j, ← e0]
            unfold listingD
            rw [List.flatMap_append, ← el]
            simp
          · rw [← e0] at hz
            rcases List.mem_append.mp hz with hz | hz
            · exact i.good z hz
            · rw [List.mem_singleton.mp hz]; exact g
    · cases h
end Lp

/-! LyD: rows of words as rows of the machine's, and the table that they tell. -/
namespace Lp
open PySem PySem.Spec PyProof.Rows L2
theorem nat_of {n : Int} (h : 0 ≤ n) : ∃ m : Nat, n = (m : Int) := Int.eq_ofNat_of_zero_le h
theorem ga_int {k : Nat} {d : PyData} (h : GoodArg (false && k == 3) d) : GoodInt d := by
  rcases h with h | ⟨h, _⟩
  · exact h
  · cases h
theorem args0 {h : Bool} {k : Nat} {ds : List PyData} (g : GoodArgs h k ds) (l : 0 = ds.length) : ds = [] := List.eq_nil_of_length_eq_zero l.symm
theorem args1 {k : Nat} {ds : List PyData} (g : GoodArgs false k ds) (l : 1 = ds.length) : ∃ m : Nat, ds = [.int (m : Int)] ∧ In0 999999 (m : Int) := by
  match ds, l, g with
  | [a], _, g =>
    obtain ⟨n, rfl, h0, h1⟩ := ga_int g.1
    obtain ⟨m, rfl⟩ := nat_of h0
    exact ⟨m, rfl, h0, h1⟩
theorem args2 {k : Nat} {ds : List PyData} (g : GoodArgs false k ds) (l : 2 = ds.length) : ∃ m m2 : Nat, ds = [.int (m : Int), .int (m2 : Int)] ∧ In0 999999 (m : Int) ∧ In0 999999 (m2 : Int) := by
  match ds, l, g with
  | [a, b], _, g =>
    obtain ⟨n, rfl, h0, h1⟩ := ga_int g.1
    obtain ⟨m, rfl⟩ := nat_of h0
    obtain ⟨n2, rfl, h02, h12⟩ := ga_int g.2.1
    obtain ⟨m2, rfl⟩ := nat_of h02
    exact ⟨m, m2, rfl, ⟨h0, h1⟩, ⟨h02, h12⟩⟩
theorem args3 {k : Nat} {ds : List PyData} (g : GoodArgs false k ds) (l : 3 = ds.length) : ∃ m m2 m3 : Nat, ds = [.int (m : Int), .int (m2 : Int), .int (m3 : Int)] ∧ In0 999999 (m : Int) ∧ In0 999999 (m2 : Int) ∧ In0 999999 (m3 : Int) := by
  match ds, l, g with
  | [a, b, c], _, g =>
    obtain ⟨n, rfl, h0, h1⟩ := ga_int g.1
    obtain ⟨m, rfl⟩ := nat_of h0
    obtain ⟨n2, rfl, h02, h12⟩ := ga_int g.2.1
    obtain ⟨m2, rfl⟩ := nat_of h02
    obtain ⟨n3, rfl, h03, h13⟩ := ga_int g.2.2.1
    obtain ⟨m3, rfl⟩ := nat_of h03
    exact ⟨m, m2, m3, rfl, ⟨h0, h1⟩, ⟨h02, h12⟩, ⟨h03, h13⟩⟩
theorem argsH {ds : List PyData} (g : GoodArgs true 1 ds) (l : 4 = ds.length) : ∃ (m m2 : Nat) (k : Option Nat) (m4 : Nat), ds = [.int (m : Int), .int (m2 : Int), kindD k, .int (m4 : Int)] ∧ In0 999999 (m : Int) ∧ In0 999999 (m2 : Int) ∧ (∀ j, k = some j → In0 999999 (j : Int)) ∧ In0 999999 (m4 : Int) := by
  match ds, l, g with
  | [a, b, c, d], _, g =>
    obtain ⟨n, rfl, h0, h1⟩ := ga_int (k := 1) g.1
    obtain ⟨m, rfl⟩ := nat_of h0
    obtain ⟨n2, rfl, h02, h12⟩ := ga_int (k := 1) g.2.1
    obtain ⟨m2, rfl⟩ := nat_of h02
    obtain ⟨n4, rfl, h04, h14⟩ := ga_int (k := 1) g.2.2.2.1
    obtain ⟨m4, rfl⟩ := nat_of h04
    rcases (show GoodArg true c from g.2.2.1) with ⟨n3, rfl, h03, h13⟩ | ⟨_, rfl⟩
    · obtain ⟨m3, rfl⟩ := nat_of h03
      exact ⟨m, m2, some m3, m4, rfl, ⟨h0, h1⟩, ⟨h02, h12⟩, fun j e => (by cases e; exact ⟨h03, h13⟩), ⟨h04, h14⟩⟩
    · exact ⟨m, m2, none, m4, rfl, ⟨h0, h1⟩, ⟨h02, h12⟩, fun j e => (by cases e), ⟨h04, h14⟩⟩
theorem good_rw {ds : List PyData} (g : GoodRow ds) : ∃ r : Rw, r.ds = ds ∧ r.Nm 999999 := by
  obtain ⟨w, args, rfl, ha, hg⟩ := g.ex
  have hm := ary_mem ha
  simp only [rowsT, List.mem_cons, List.not_mem_nil, or_false, Prod.mk.injEq] at hm
  rcases hm with ⟨rfl, l⟩ | ⟨rfl, l⟩ | ⟨rfl, l⟩ | ⟨rfl, l⟩ | ⟨rfl, l⟩ | ⟨rfl, l⟩ | ⟨rfl, l⟩ | ⟨rfl, l⟩ | ⟨rfl, l⟩ | ⟨rfl, l⟩ | ⟨rfl, l⟩ | ⟨rfl, l⟩ | ⟨rfl, l⟩ | ⟨rfl, l⟩ | ⟨rfl, l⟩ | ⟨rfl, l⟩ | ⟨rfl, l⟩ | ⟨rfl, l⟩ | ⟨rfl, l⟩ | ⟨rfl, l⟩ | ⟨rfl, l⟩
  · obtain ⟨m, rfl, h⟩ := args1 hg l.symm; exact ⟨.num m, rfl, h⟩
  · obtain ⟨m, rfl, h⟩ := args1 hg l.symm; exact ⟨.var m, rfl, h⟩
  · cases args0 hg l.symm; exact ⟨.op .add, rfl, trivial⟩
  · cases args0 hg l.symm; exact ⟨.op .sub, rfl, trivial⟩
  · cases args0 hg l.symm; exact ⟨.op .mul, rfl, trivial⟩
  · cases args0 hg l.symm; exact ⟨.op .less, rfl, trivial⟩
  · cases args0 hg l.symm; exact ⟨.say, rfl, trivial⟩
  · obtain ⟨m, rfl, h⟩ := args1 hg l.symm; exact ⟨.set m, rfl, h⟩
  · obtain ⟨m, rfl, h⟩ := args1 hg l.symm; exact ⟨.«unless» m, rfl, h⟩
  · obtain ⟨m, rfl, h⟩ := args1 hg l.symm; exact ⟨.go m, rfl, h⟩
  · cases args0 hg l.symm; exact ⟨.turn, rfl, trivial⟩
  · obtain ⟨m, m2, rfl, h, h2⟩ := args2 hg l.symm; exact ⟨.leap m m2, rfl, h, h2⟩
  · cases args0 hg l.symm; exact ⟨.ret, rfl, trivial⟩
  · obtain ⟨m, m2, rfl, h, h2⟩ := args2 hg l.symm; exact ⟨.rais m m2, rfl, h, h2⟩
  · cases args0 hg l.symm; exact ⟨.again, rfl, trivial⟩
  · obtain ⟨m, m2, m3, rfl, h, h2, h3⟩ := args3 hg l.symm; exact ⟨.call m m2 m3, rfl, h, h2, h3⟩
  · obtain ⟨m, m2, k, m4, rfl, h, h2, h3, h4⟩ := argsH hg l.symm; exact ⟨.hand m m2 k m4, rfl, h, h2, h3, h4⟩
  · cases args0 hg l.symm; exact ⟨.settled, rfl, trivial⟩
  · cases args0 hg l.symm; exact ⟨.mend, rfl, trivial⟩
  · obtain ⟨m, m2, m3, rfl, h, h2, h3⟩ := args3 hg l.symm; exact ⟨.cup m m2 m3, rfl, h, h2, h3⟩
  · cases args0 hg l.symm; exact ⟨.resume, rfl, trivial⟩
theorem gi {N n : Int} (hN : N ≤ 999999) (h : In0 N n) : GoodInt (.int n) := ⟨n, rfl, h.1, by have := h.2; omega⟩
theorem gai {b : Bool} {N n : Int} (hN : N ≤ 999999) (h : In0 N n) : GoodArg b (.int n) := .inl (gi hN h)
theorem rw_good {N : Int} (hN : N ≤ 999999) (r : Rw) (h : r.Nm N) : GoodRow r.ds := by
  have g := fun {b : Bool} {n : Int} (h : In0 N n) => gai (b := b) hN h
  cases r with
  | num n => exact ⟨"num", [.int n], rfl, (show ary "num" = some 1 by decide), g h, trivial⟩
  | var k => exact ⟨"var", [.int k], rfl, (show ary "var" = some 1 by decide), g h, trivial⟩
  | op o => cases o with
    | add => exact ⟨"add", [], rfl, (show ary "add" = some 0 by decide), trivial⟩
    | sub => exact ⟨"sub", [], rfl, (show ary "sub" = some 0 by decide), trivial⟩
    | mul => exact ⟨"mul", [], rfl, (show ary "mul" = some 0 by decide), trivial⟩
    | less => exact ⟨"less", [], rfl, (show ary "less" = some 0 by decide), trivial⟩
  | say => exact ⟨"say", [], rfl, (show ary "say" = some 0 by decide), trivial⟩
  | set k => exact ⟨"set", [.int k], rfl, (show ary "set" = some 1 by decide), g h, trivial⟩
  | «unless» q => exact ⟨"unless", [.int q], rfl, (show ary "unless" = some 1 by decide), g h, trivial⟩
  | go z => exact ⟨"go", [.int z], rfl, (show ary "go" = some 1 by decide), g h, trivial⟩
  | turn => exact ⟨"turn", [], rfl, (show ary "turn" = some 0 by decide), trivial⟩
  | leap q D => exact ⟨"leap", [.int q, .int D], rfl, (show ary "leap" = some 2 by decide), g h.1, g h.2, trivial⟩
  | ret => exact ⟨"return", [], rfl, (show ary "return" = some 0 by decide), trivial⟩
  | rais kd m => exact ⟨"raise", [.int kd, .int m], rfl, (show ary "raise" = some 2 by decide), g h.1, g h.2, trivial⟩
  | again => exact ⟨"again", [], rfl, (show ary "again" = some 0 by decide), trivial⟩
  | call f n m => exact ⟨"call", [.int f, .int n, .int m], rfl, (show ary "call" = some 3 by decide), g h.1, g h.2.1, g h.2.2, trivial⟩
  | hand b x k D =>
    refine ⟨"handler", [.int b, .int x, kindD k, .int D], rfl, (show ary "handler" = some 4 by decide), g h.1, g h.2.1, ?_, g h.2.2.2, trivial⟩
    cases k with
    | none => exact .inr ⟨by decide, rfl⟩
    | some j => exact g (h.2.2.1 j rfl)
  | settled => exact ⟨"settled", [], rfl, (show ary "settled" = some 0 by decide), trivial⟩
  | mend => exact ⟨"mend", [], rfl, (show ary "mend" = some 0 by decide), trivial⟩
  | cup b x D => exact ⟨"cleanup", [.int b, .int x, .int D], rfl, (show ary "cleanup" = some 3 by decide), g h.1, g h.2.1, g h.2.2, trivial⟩
  | resume => exact ⟨"resume", [], rfl, (show ary "resume" = some 0 by decide), trivial⟩
/-! ### back to the machine's rows -/
def codeOf (w : Str) : Nat := (rowsT.map (·.1)).idxOf w
def rwTag : Rw → Nat
  | .num _ => 0 | .var _ => 1 | .op .add => 2 | .op .sub => 3 | .op .mul => 4 | .op .less => 5 | .say => 6 | .set _ => 7 | .unless _ => 8 | .go _ => 9 | .turn => 10 | .leap _ _ => 11 | .ret => 12
  | .rais _ _ => 13 | .again => 14 | .call _ _ _ => 15 | .hand _ _ _ _ => 16 | .settled => 17 | .mend => 18 | .cup _ _ _ => 19 | .resume => 20
theorem rwTag_ds {r : Rw} : ∃ w a, r.ds = .str w :: a ∧ codeOf w = rwTag r := by
  cases r with
  | op o => cases o <;> exact ⟨_, _, rfl, by decide +kernel⟩
  | _ => exact ⟨_, _, rfl, by dsimp only [rwTag]; decide +kernel⟩
theorem kindD_inj {a b : Option Nat} (h : kindD a = kindD b) : a = b := by
  cases a with
  | none => cases b with
    | none => rfl
    | some k => cases h
  | some j => cases b with
    | none => cases h
    | some k =>
      have h : PyData.int (j : Int) = PyData.int (k : Int) := h
      injection h with h
      have : j = k := by omega
      rw [this]
theorem ds_inj {r r' : Rw} (h : r.ds = r'.ds) : r = r' := by
  obtain ⟨w, a, e, c⟩ := rwTag_ds (r := r)
  obtain ⟨w', a', e', c'⟩ := rwTag_ds (r := r')
  have ht : rwTag r = rwTag r' := by
    rw [e, e'] at h
    injection h with h _
    injection h with h
    rw [← c, ← c', h]
  have ca := fun {a b : Nat} (h : ((a : Nat) : Int) = ((b : Nat) : Int)) => (by omega : a = b)
  cases r <;> cases r' <;> first
    | rfl
    | (exfalso; revert ht; first | decide | (intro ht; cases ht; done) | (rename_i o; cases o <;> (intro ht; cases ht; done)))
    | (rename_i o o'; cases o <;> cases o' <;> first | rfl | (exfalso; revert ht; decide))
    | (dsimp only [Rw.ds, tupL, Rw.d] at h
       simp only [List.cons.injEq, PyData.int.injEq, and_true, true_and] at h
       first
         | (exfalso; have h2 := h.2; cases h2; done)
         | (obtain ⟨h1, h2, h3, h4⟩ := h; rw [h1, h2, kindD_inj h3, h4])
         | (simp only [*]; done)
         | (simp only [Rw.num.injEq, Rw.var.injEq, Rw.set.injEq, Rw.unless.injEq, Rw.go.injEq, Rw.leap.injEq, Rw.rais.injEq, Rw.call.injEq, Rw.cup.injEq]; omega))
theorem toRw_is (r : Rw) : toRw r.ds = r := ds_inj (toRw_ds ⟨r, rfl⟩)
theorem tableOf_is (rows : List Rw) : tableOf (rows.map Rw.ds) = (tabAt 0 rows).map Tb.ds := by
  unfold tableOf
  rw [List.map_map]
  have : rows.map (toRw ∘ Rw.ds) = rows := by
    exact (List.map_congr_left fun r _ => toRw_is r).trans (List.map_id' rows)
  rw [this]
/-- rows of words, all good, are the machine's -/
theorem rows_rw {rows : List (List PyData)} (h : ∀ r ∈ rows, GoodRow r) : ∃ rs : List Rw, rows = rs.map Rw.ds ∧ ∀ r ∈ rs, r.Nm 999999 := by
  induction rows with
  | nil => exact ⟨[], rfl, fun r hr => (by cases hr)⟩
  | cons d ds ih =>
    obtain ⟨rs, e, hn⟩ := ih fun r hr => h r (List.mem_cons_of_mem _ hr)
    obtain ⟨r, er, hr⟩ := good_rw (h d List.mem_cons_self)
    refine ⟨r :: rs, by rw [List.map_cons, er, ← e], fun z hz => ?_⟩
    rcases List.mem_cons.mp hz with rfl | hz
    · exact hr
    · exact hn z hz
theorem tb_good {N : Int} (hN : N ≤ 999999) (t : Tb) (h : t.Nm N) : GoodTab t.ds := by
  obtain ⟨b, x, kd, p, D⟩ := t
  cases kd with
  | none => exact ⟨_, _, "cleanup", .none, _, _, rfl, gi hN h.b, gi hN h.x, by decide, .inr ⟨rfl, rfl⟩, gi hN h.p, gi hN h.D⟩
  | some k =>
    refine ⟨_, _, "handler", kindD k, _, _, rfl, gi hN h.b, gi hN h.x, by decide, ?_, gi hN h.p, gi hN h.D⟩
    cases k with
    | none => exact .inr ⟨rfl, rfl⟩
    | some j => exact .inl (gi hN (h.kd (some j) rfl j rfl))
theorem tables_good {rs : List Rw} (h : ∀ r ∈ rs, r.Nm 999999) (hl : rs.length ≤ 999999) : ∀ t ∈ (tabAt 0 rs).map Tb.ds, GoodTab t := fun t ht => by
  obtain ⟨z, hz, rfl⟩ := List.mem_map.mp ht
  exact tb_good (N := 999999) (by omega) z (tab_nm rs 0 (by omega) (by omega) h z hz)
/-- a program's code reads back as it is -/
theorem PgOk.goodFd {p : Pg} (ok : PgOk p) : (∀ f ∈ p.code.map Fc.fd, GoodFd f) ∧ (∀ f ∈ p.code.map Fc.fd, f.tab = tableOf f.rows) := by
  refine ⟨fun g hg => ?_, fun g hg => ?_⟩
  · obtain ⟨f, hf, rfl⟩ := List.mem_map.mp hg
    obtain ⟨h1, h2, h3⟩ := ok.nm f hf
    have ht := tab_nm (N := 2000) f.rows 0 (Int.le_refl 0) (by omega) h3
    refine ⟨⟨by show (0 : Int) ≤ (f.many : Int); omega, by show (f.many : Int) ≤ _; omega⟩, fun r hr => ?_, fun r hr => ?_⟩
    · obtain ⟨w, hw, rfl⟩ := List.mem_map.mp hr
      exact rw_good (N := 2000) (by omega) w (h3 w hw)
    · obtain ⟨t, ht', rfl⟩ := List.mem_map.mp hr
      exact tb_good (N := 2000) (by omega) t (ht t ht')
  · obtain ⟨f, hf, rfl⟩ := List.mem_map.mp hg
    exact (tableOf_is f.rows).symm
theorem PgOk.read {p : Pg} (ok : PgOk p) (h0 : p.code ≠ []) : readR (listingD (p.code.map Fc.fd)) = some (p.code.map Fc.fd) :=
  read_in (by simpa using h0) ok.goodFd.1 ok.goodFd.2
end Lp

/-! LyE: raising defs, written and made dicts, more of texts. -/
namespace L2
open PySem PySem.Spec PyProof.Rows PySem.SeqAt
/-- xs == [], whatever xs holds -/
def rEqE (K : PySem.W.Frag) : R2 := fun x y H Q => ∃ a b xs, x = .ref a ∧ y = .ref b ∧ SqL K H a xs ∧ SqL K H b [] ∧ Q (.bl xs.isEmpty) H
def rNeE (K : PySem.W.Frag) : R2 := fun x y H Q => ∃ a b xs, x = .ref a ∧ y = .ref b ∧ SqL K H a xs ∧ SqL K H b [] ∧ Q (.bl (!xs.isEmpty)) H
section
variable {X : Cx}
theorem op_eqE (hu : X.A.units + 64 < cLine) : OpR X (compareOp .Eq) (rEqE X.K) := by
  intro pins s σ H x y v u Q I rx ry h
  obtain ⟨a, b, xs, rfl, rfl, ha, hb, q⟩ := h
  cases (show v = Value.ref a from rx)
  cases (show u = Value.ref b from ry)
  obtain ⟨us, r1, p1, _⟩ := I.list ha
  obtain ⟨ws, r2, p2, _⟩ := I.list hb
  cases r2
  cases xs with
  | nil =>
    cases r1
    exact RcAt.lists (e := fun _ => true) p1.isList p2.isList rfl (by omega) (fun j h1 _ => absurd h1 (Nat.not_lt_zero j)) X.prog X.w _ _ ⟨.bl true, H, I, rfl, q⟩
  | cons x0 xs =>
    cases r1 with
    | cons ra rb => exact RcAt.lists_lengths p1.isList p2.isList (by simp) (by omega) X.prog X.w _ _ ⟨.bl false, H, I, rfl, q⟩
theorem op_neE (hu : X.A.units + 64 < cLine) : OpR X (compareOp .NotEq) (rNeE X.K) := by
  intro pins s σ H x y v u Q I rx ry h
  obtain ⟨a, b, xs, rfl, rfl, ha, hb, q⟩ := h
  cases (show v = Value.ref a from rx)
  cases (show u = Value.ref b from ry)
  obtain ⟨us, r1, p1, _⟩ := I.list ha
  obtain ⟨ws, r2, p2, _⟩ := I.list hb
  cases r2
  cases xs with
  | nil =>
    cases r1
    exact RcNeAt.lists (e := fun _ => true) p1.isList p2.isList rfl (by omega) (fun j h1 _ => absurd h1 (Nat.not_lt_zero j)) X.prog X.w _ _ ⟨.bl false, H, I, rfl, q⟩
  | cons x0 xs =>
    cases r1 with
    | cons ra rb => exact RcNeAt.lists_lengths p1.isList p2.isList (by simp) (by omega) X.prog X.w _ _ ⟨.bl true, H, I, rfl, q⟩
end
end L2
namespace Lp
open PySem PySem.Spec PyProof.Rows L2
/-! ### callees that may raise -/
/-- a def of the module that may raise -/
def CalX (P : Program) (w : World) (K : PySem.W.Frag) (mg : Str → Option Value) (base : Heap) (k : Nat) (x : Str) (ps : List Str) (sp : Sp) : Prop :=
  ∃ f fd, FnOk P w K mg base (L2.CX P w) k f fd ps sp ∧ Binds K fd ps [] ∧ PySem.W.keepIn K (.ref f) = true ∧ mg x = some (.ref f)
section
variable {P : Program} {w : World} {K : PySem.W.Frag} {mg : Str → Option Value} {base : Heap} {j k : Nat} {x : Str} {ps : List Str} {sp sp' : Sp}
theorem CalX.mono (c : CalX P w K mg base j x ps sp) (h : j ≤ k) : CalX P w K mg base k x ps sp :=
  let ⟨f, fd, F, r⟩ := c; ⟨f, fd, F.mono h, r⟩
/-- where it raises nothing -/
theorem CalX.calm (c : CalX P w K mg base k x ps sp) (h : ∀ vs H Q E, sp' vs H Q E → sp vs H Q E0) : Cal P w K mg base k x ps sp' := by
  obtain ⟨f, fd, F, r⟩ := c
  refine ⟨f, fd, ⟨fun vs H Q E q => F.len vs H Q E0 (h _ _ _ _ q), fun A outer s H args us vs Q E hr he hb hv hs => codeAny_mono (F.run A outer s H args us vs Q E0 hr he hb hv (h _ _ _ _ hs)) fun r s' z => ?_⟩, r⟩
  cases r with
  | ok fl => cases fl <;> exact z
  | error e =>
    obtain ⟨_, _, _, _, _, _, _, _, _, _, _, _, q⟩ := z
    exact q.elim
end
section
variable {X : Cx} {k : Nat} {x m : Str} {ps : List Str} {sp : Sp} {E : XK} {p pos p2 pos2 : Pos} {e : Expr} {es : List Expr} {t : TA} {C : Addr} {j : Nat}
abbrev tCallX (sp : Sp) (E : XK) (t : TA) : TE := tCallS sp (fun _ => E) t
theorem pcX (c : CalX X.prog X.w X.K X.mg X.base k x ps sp) (hr : Room k X.A) (tk : Takes X (fun cls d _ H => E cls d H)) (ha : PA X (e :: es) t) (hg : Gl X x := by rfl) (hdb : (x == ("__debug__" : Str)) = false := by decide)
    (he : starEach (e :: es) X.env = (false, eval e X.env) :: starEach es X.env := by rfl) (hpl : (backTo pos (starEach es X.env)).any (·.1) = false := by rfl) : PE X (.Call (.Name x p) (e :: es) [] pos) (tCallX sp E t) := by
  obtain ⟨f, fd, F, b, kp, hm⟩ := c
  exact pe_callS F hr hg hm kp b (fun σ => passAt tk σ) ha hdb he hpl
/-- an own class of errors, with no __init__ of its own, under ValueError -/
structure ExU (K : PySem.W.Frag) (mg : Str → Option Value) (x : Str) (C : Addr) : Prop where
  g : mg x = some (.ref C)
  q : PySem.W.excIn K C He.veBase "ValueError.__new__" = true
  kp : PySem.W.keepIn K (.ref C) = true
  sb : PySem.W.subIn K (.ref C) (.type "BaseException") = some true
  ty : PySem.W.typeIn K (.ref C) = some (.type "type")
/-- raise C('..') -/
def tRz (C : Addr) (E : XK) : TS := fun _ _ H => E (.ref C) none H
theorem ps_rz (u : ExU X.K X.mg x C) (tk : Takes X (fun cls d _ H => E cls d H)) (hc : X.calm = true := by rfl) (hg : Gl X x := by rfl) (hdb : (x == ("__debug__" : Str)) = false := by decide) :
    PS X (.Raise (some (.Call (.Name x p) [.Constant (.str m) j p2] [] pos)) none pos2) (tRz C E) :=
  ps_raise hc tk (pmk_own PySem.F.excBase_ValueError u.q u.g u.kp (raises_own u.sb u.ty) hg hdb)
end
/-! ### a written dict with text keys and numbers -/
structure KdF (K : PySem.W.Frag) (w : World) (d : Addr) (tbl : List (Str × Nat)) : Prop where
  at_ : ∃ es n, KDict K w d es n
  has : ∀ z n, tbl.lookup z = some n → ∃ u, PySem.W.nsIn K d z = some (some u) ∧ RelV (.int (n : Int)) u
  no : ∀ z, tbl.lookup z = none → PySem.W.nsIn K d z = some none
def rNiK (d : Addr) (tbl : List (Str × Nat)) : R2 := fun x y H Q => ∃ z, x = .str z ∧ y = .ref d ∧ Q (.bl (!(tbl.lookup z).isSome)) H
def rIxK (d : Addr) (tbl : List (Str × Nat)) : R2 := fun x y H Q => ∃ z n, x = .ref d ∧ y = .str z ∧ tbl.lookup z = some n ∧ Q (.int (n : Int)) H
section
variable {X : Cx} {d : Addr} {tbl : List (Str × Nat)}
theorem op_niK (T : KdF X.K X.w d tbl) : OpR X (compareOp .NotIn) (rNiK d tbl) := by
  intro pins s σ H x y v u Q I rx ry h
  obtain ⟨es, n, D⟩ := T.at_
  obtain ⟨z, rfl, rfl, q⟩ := h
  cases e : tbl.lookup z with
  | none =>
    rw [e] at q
    exact op_notIn_kd D pins s σ H _ _ v u Q I rx ry ⟨z, none, rfl, rfl, T.no z e, q⟩
  | some m =>
    rw [e] at q
    obtain ⟨u0, e2, _⟩ := T.has z m e
    exact op_notIn_kd D pins s σ H _ _ v u Q I rx ry ⟨z, some u0, rfl, rfl, e2, q⟩
theorem ix_K (T : KdF X.K X.w d tbl) : IxR X (rIxK d tbl) := by
  intro value slice pins s σ H x y v u Q I rx ry h hs
  obtain ⟨es, n, D⟩ := T.at_
  obtain ⟨z, m, rfl, rfl, e, q⟩ := h
  obtain ⟨u0, e2, r⟩ := T.has z m e
  exact ix_kdict value slice pins s σ H _ _ v u Q I rx ry ⟨d, z, .int (m : Int), rfl, rfl, ⟨es, n, u0, D.at_, D.lit, e2, r⟩, q⟩ hs
end
/-- the table's rows in the hook: its keys and values -/
theorem kdF_of {K : PySem.W.Frag} {w : World} {d : Addr} {tbl : List (Str × Nat)} (h : He.dicW K d = some (He.keysIn w.params (tbl.map (·.1)))) (hv : He.valsB K d (tbl.map fun q => (q.1, .int (q.2 : Int))) = true) : KdF K w d tbl := by
  refine ⟨He.dicW_ok h, fun z n e => ?_, fun z e => ?_⟩
  · have hm : (z, n) ∈ tbl := by
      clear h hv
      induction tbl with
      | nil => cases e
      | cons p r ih =>
        obtain ⟨a, m⟩ := p
        have e : (match z == a with | true => some m | false => r.lookup z) = some n := e
        cases q : (z == a) with
        | true =>
          rw [q] at e
          injection e with e
          rw [eq_of_beq q, e]
          exact List.mem_cons_self
        | false =>
          rw [q] at e
          exact List.mem_cons_of_mem _ (ih e)
    obtain ⟨u, e1, r⟩ := He.valsB_ok hv (q := (z, .int (n : Int))) (List.mem_map.mpr ⟨_, hm, rfl⟩)
    exact ⟨u, e1, r⟩
  · obtain ⟨es, n, D⟩ := He.dicW_ok h
    unfold He.dicW at h
    rw [D.at_] at h
    have h1 : (match decide ("dict" = "dict") && ((#[] : Array (Option Value)).isEmpty && !(d == sysModules)) with | true => some (es.toList.map He.keyOf) | false => none) = some (He.keysIn w.params (tbl.map (·.1))) := h
    rw [D.low] at h1
    have h2 : es.toList.map He.keyOf = He.keysIn w.params (tbl.map (·.1)) := Option.some.inj h1
    unfold PySem.W.nsIn
    rw [D.at_]
    have key : ∀ {l : List DictEntry} {ks : List Str}, l.map He.keyOf = He.keysIn w.params ks → z ∉ ks → l.find? (·.key.isStr z) = none ∧ l.any (·.refKey) = false := by
      intro l
      induction l with
      | nil => intro ks _ _; exact ⟨rfl, rfl⟩
      | cons a l ih =>
        intro ks hk hz
        cases ks with
        | nil => cases hk
        | cons k ks =>
          have hk : He.keyOf a :: l.map He.keyOf = some (k, PyData.keyHash w.params k) :: He.keysIn w.params ks := hk
          injection hk with h3 h4
          obtain ⟨i1, i2⟩ := ih h4 fun hm => hz (List.mem_cons_of_mem _ hm)
          unfold He.keyOf at h3
          split at h3
          · rename_i y t q
            have h5 := (Prod.mk.inj (Option.some.inj h3)).1
            have e1 : a.key.isStr z = false := by
              rw [q]
              show (y == z) = false
              rw [h5]
              exact beq_eq_false_iff_ne.mpr fun e => hz (by rw [e]; exact List.mem_cons_self)
            have e2 : a.refKey = false := by unfold DictEntry.refKey; rw [q]; try rfl
            refine ⟨?_, ?_⟩
            · rw [List.find?_cons, e1]; exact i1
            · rw [List.any_cons, e2]; exact i2
          · cases h3
    have hz : z ∉ tbl.map (·.1) := by
      clear h h1 h2 hv key
      induction tbl with
      | nil => intro hm; cases hm
      | cons p r ih =>
        obtain ⟨a, m⟩ := p
        have e : (match z == a with | true => some m | false => r.lookup z) = none := e
        cases q : (z == a) with
        | true => rw [q] at e; cases e
        | false =>
          rw [q] at e
          intro hm
          rcases List.mem_cons.mp hm with hm | hm
          · rw [hm] at q
            have : (a == a) = true := beq_self_eq_true a
            rw [this] at q; cases q
          · exact ih e hm
    obtain ⟨k1, k2⟩ := key h2 hz
    dsimp only
    rw [k1, k2]
    rfl
/-! ### texts -/
abbrev rLenStr : List V → Hp → VK → Prop := fun xs H Q => ∃ z, xs = [.str z] ∧ z.length ≤ sizeLine ∧ Q (.int z.length) H
theorem _root_.L2.Room.units1 {k : Nat} {A : Around} (r : Room k A) : A.units + 1 < cLine := by have := r.units; omega
def rStarts : V → List V → Hp → VK → Prop := fun x xs H Q => ∃ a b, x = .str a ∧ xs = [.str b] ∧ Q (.bl (Txt.startswith a b)) H
def rIntS : List V → Hp → VK → Prop := fun xs H Q => ∃ a n, xs = [.str a] ∧ PySem.intText? a = some n ∧ a.length ≤ 640 ∧ Q (.int n) H
def rNiSg : R2 := fun x y H Q => ∃ (c : Nat) (z : Str), x = .str ⟨#[c]⟩ ∧ y = .str z ∧ Q (.bl (!decide (c ∈ z.cps.toList))) H
section
variable {X : Cx}
theorem pe_startsR {o e : Expr} {to te : TE} {apos pos : Pos} (ho : PE X o to) (he : PE X e te) (hs : starEach [e] X.env = [(false, eval e X.env)] := by rfl) (hb : attributeBase o "startswith" X.env (eval o X.env) = eval o X.env := by rfl) (hl : (apos.endLine == pos.line) = true := by rfl) :
    PE X (.Call (.Attribute o "startswith" apos) [e] [] pos) (tM1 rStarts to te) := pe_m1 PySem.F.slot_str_startswith PySem.F.type_str_startswith mt_startswith ho he hs hb hl
theorem call_intS : CallR X (.type "int") rIntS := call_int_str
theorem op_niSg : OpR X (compareOp .NotIn) rNiSg := op_notIn_sign
end
/-! ### d.update(e) -/
def tDUpd (td te : TE) : TE := fun σ H Q => td σ H fun x H1 => ∃ a, x = .ref a ∧ IsD H1 a ∧ te σ H1 fun y H2 => ∃ b kvs more, y = .ref b ∧ a ≠ b ∧ H2 a = some (.dK kvs) ∧ H2 b = some (.dK more) ∧ kvs.length + more.length ≤ 1000 ∧ Q .non (upd H2 a (.dK (mergeK kvs more)))
section
variable {X : Cx}
theorem d_update {pins : List (Addr × Obj)} {σ : L2.St} {H : Hp} {s : Shared} {a b : Addr} {kvs more : List (Key × V)} {A : Around} {E : Value → Shared → Prop} {Q : Value → Shared → Prop} (I : Inv X pins σ H s) (ne : a ≠ b) (e : H a = some (.dK kvs)) (e2 : H b = some (.dK more)) (hl : kvs.length + more.length ≤ 1000)
    (h : ∀ s', Inv X pins σ (upd H a (.dK (mergeK kvs more))) s' → Q .none s') : wpAny (model X.prog X.w) A (call (.builtin "dict.update") [.ref a, .ref b]) Q E s := by
  obtain ⟨z, hd, vs, rel, dd⟩ := dk_of I.hok e
  obtain ⟨z2, hd2, vs2, rel2, dd2⟩ := dk_of I.hok e2
  refine call_meetsIn PySem.F.slot_dict_update dd.typeIs PySem.F.entry_dict_update (PySem.F.args_dict_update_2 _ _) (meets_dict_update (mixKind X.prog X.w) a b ne hd2)
    ⟨vs, vs2, dd, dd2, by rw [← rel.length, ← rel2.length, sizeLine_eq]; omega, fun h' dd' _ hs => h _ ?_⟩
  have he : ∃ q, h'.get? a = some q := let ⟨q, _, _, hq, _⟩ := dd'; ⟨q, hq⟩
  have hz : (mergeK kvs more).length ≤ sizeLine := by
    have := length_mergeK more kvs
    rw [sizeLine_eq]; omega
  exact d_write (t' := s.toks) I (by rw [e]; exact True.intro) hs he (dk_new hz hd (rel2.merge rel) dd')
theorem pe_dupd {o e : Expr} {apos cpos : Pos} {td te : TE} (ho : PE X o td) (he : PE X e te) (m : M1 X o "update" apos e cpos) : PE X (.Call (.Attribute o "update" apos) [e] [] cpos) (tDUpd td te) := by
  refine ⟨fun pins s σ H Q I h => ?_⟩
  refine wpAny_Call_method m.base m.few m.line PySem.F.plainAttrs_dict PySem.F.slot_dict_update PySem.F.type_dict_update (thn (ho.run pins s σ H _ I h) fun u s1 ⟨x, H1, I1, rx, a, ex, d, q1⟩ => ?_)
  subst ex
  obtain rfl : u = Value.ref a := rx
  obtain ⟨t1, t2, _⟩ := isD_at I1 d
  refine ⟨t1, t2, ?_⟩
  rw [m.trees]
  refine Calls.callWith_builtin rfl (Calls.evalArgs_plain (Calls.spliced_cons (thn (he.run pins s1 σ H1 _ I1 q1) fun iv s2 ⟨y, H2, I2, ry, b, kvs, more, ey, ne, ea, eb, hl, q2⟩ => Calls.spliced_nil ?_)))
  subst ey
  obtain rfl : iv = Value.ref b := ry
  exact d_update I2 ne ea eb hl fun s3 I3 => ⟨.non, _, I3, rfl, q2⟩
end
/-! ### sorted(d) -/
def rSortD : List V → Hp → VK → Prop := fun xs H Q => ∃ (a : Addr) (kvs : List (Key × V)) (ks : List Str), xs = [.ref a] ∧ Rd H a (.dK kvs) ∧ kvs.map (·.1) = ks.map Sum.inr ∧ ks.length < 64 ∧
    ∀ ys p, ys.Perm ks → sortedS ys = true → H p = none → Q (.ref p) (upd H p (.lst (ys.map V.str)))
theorem call_sortD {X : Cx} (hc : X.calm = true) : CallR X (.builtin "sorted") rSortD := call_sortedD hc
end Lp

/-! LyR: the readings of read_listing and what it calls. -/
namespace Lp
open PySem PySem.Spec PyProof.Rows L2
def t_number_of (K : PySem.W.Frag) (C_Unread : Addr) (E : XK) : TS :=
  tSeq (tIfS (tOr (tTest (tOp rEq (tVar 0) (tC (.str "")))) (tOr (tTest (tOp rGt (tCB (rLenStr) (tCons (tVar 0) (tNil))) (tC (.int 6)))) (tAnd (tTest (tOp rEq (tOp rIxS (tVar 0) (tC (.int 0))) (tC (.str "0")))) (tTest (tOp rGt (tCB (rLenStr) (tCons (tVar 0) (tNil))) (tC (.int 1))))))) (tRz C_Unread E) (tNext)) (tSeq (tFor (iStr (tVar 0)) (gName 1) (tIfS (tTest (tOp rNiSg (tVar 1) (tC (.str "0123456789")))) (tRz C_Unread E) (tNext))) (tRet (tCB rIntS (tCons (tVar 0) (tNil)))))

def t_number_or_none (K : PySem.W.Frag) (sp_number_of : Sp) (E : XK) : TS :=
  tSeq (tIfS (tTest (tOp rEq (tVar 0) (tC (.str "-")))) (tRet (tC .non)) (tNext)) (tRet (tCallX sp_number_of E (tCons (tVar 0) (tNil))))

def t_row_of (K : PySem.W.Frag) (ad_ROWS : Addr) (C_Unread : Addr) (sp_number_or_none : Sp) (sp_number_of : Sp) (E : XK) : TS :=
  tSeq (tAsg (tM1 rSplit (tVar 0) (tC (.str " "))) (gName 1)) (tSeq (tIfS (tOr (tTest (tOp (rNiK ad_ROWS rowsT) (tOp (rIxL K) (tVar 1) (tC (.int 0))) (tC (.ref ad_ROWS)))) (tTest (tOp rNe (tCB (rLenQ K) (tCons (tVar 1) (tNil))) (tOp rAdI (tC (.int 1)) (tOp (rIxK ad_ROWS rowsT) (tC (.ref ad_ROWS)) (tOp (rIxL K) (tVar 1) (tC (.int 0)))))))) (tRz C_Unread E) (tNext)) (tSeq (tAsg (tLst (tCons (tOp (rIxL K) (tVar 1) (tC (.int 0))) (tNil))) (gName 2)) (tSeq (tFor (iRng2 (tCons (tC (.int 1)) (tCons (tCB (rLenQ K) (tCons (tVar 1) (tNil))) (tNil)))) (gName 3) (tIfS (tAnd (tTest (tOp rEq (tOp (rIxL K) (tVar 1) (tC (.int 0))) (tC (.str "handler")))) (tTest (tOp rEq (tVar 3) (tC (.int 3))))) (tDrop (tBM K "list" rAppend (tVar 2) (tCons (tCallX sp_number_or_none E (tCons (tOp (rIxL K) (tVar 1) (tVar 3)) (tNil))) (tNil)))) (tDrop (tBM K "list" rAppend (tVar 2) (tCons (tCallX sp_number_of E (tCons (tOp (rIxL K) (tVar 1) (tVar 3)) (tNil))) (tNil)))))) (tRet (tCB (rTupOf K) (tCons (tVar 2) (tNil)))))))

def t_table_row_of (K : PySem.W.Frag) (C_Unread : Addr) (sp_number_of : Sp) (sp_number_or_none : Sp) (E : XK) : TS :=
  tSeq (tAsg (tM1 rSplit (tVar 0) (tC (.str " "))) (gName 1)) (tSeq (tIfS (tOr (tTest (tOp rNe (tCB (rLenQ K) (tCons (tVar 1) (tNil))) (tC (.int 7)))) (tTest (tOp (rIn K true) (tOp (rIxL K) (tVar 1) (tC (.int 3))) (tTup (tCons (tC (.str "handler")) (tCons (tC (.str "cleanup")) (tNil))))))) (tRz C_Unread E) (tNext)) (tSeq (tAsg (tTup (tCons (tCallX sp_number_of E (tCons (tOp (rIxL K) (tVar 1) (tC (.int 1))) (tNil))) (tCons (tCallX sp_number_of E (tCons (tOp (rIxL K) (tVar 1) (tC (.int 2))) (tNil))) (tCons (tOp (rIxL K) (tVar 1) (tC (.int 3))) (tNil))))) (gName 2)) (tRet (tOp (rCatA K) (tVar 2) (tTup (tCons (tCallX sp_number_or_none E (tCons (tOp (rIxL K) (tVar 1) (tC (.int 4))) (tNil))) (tCons (tCallX sp_number_of E (tCons (tOp (rIxL K) (tVar 1) (tC (.int 5))) (tNil))) (tCons (tCallX sp_number_of E (tCons (tOp (rIxL K) (tVar 1) (tC (.int 6))) (tNil))) (tNil)))))))))

namespace RL
open KL (gn seq seq_inv)
theorem ifP {A B : Prop} {c : Bool} (h1 : c = true → A) (h2 : c = false → B) : if c = true then A else B := ifB h1 h2
/-! ### number_of -/
structure NumP (C : Addr) (vs : List V) (H : Hp) (Q : VK) (E : XK) : Prop where
  ex : ∃ w : Str, vs = [.str w] ∧ w.length ≤ sizeLine ∧ (∀ n, numR w = some n → Q (.int n) H) ∧ (numR w = none → E (.ref C) none H)
def spNum (C : Addr) : Sp := NumP C
theorem str_eq {a b : Str} : decide (V.str a = V.str b) = decide (a = b) := by
  by_cases h : a = b
  · rw [h]; simp
  · simp [h]
theorem fig_mem (c : Nat) : (c ∈ ("0123456789" : Str).cps.toList) ↔ (48 ≤ c ∧ c ≤ 57) := by
  have e : ("0123456789" : Str).cps.toList = [48, 49, 50, 51, 52, 53, 54, 55, 56, 57] := by decide
  rw [e]
  simp only [List.mem_cons, List.not_mem_nil, or_false]
  omega
theorem len_nil {w : Str} : w.length = 0 ↔ w = "" := by
  constructor
  · intro h
    apply sg_inj
    have := sg_len w
    have e : sg w = [] := List.eq_nil_of_length_eq_zero (by omega)
    rw [e]; decide
  · rintro rfl; decide
theorem rd_number_of {K : PySem.W.Frag} {C : Addr} (vs : List V) (H : Hp) (Q : VK) (E : XK) (hh : spNum C vs H Q E) : t_number_of K C E { nx := fun _ H' => Q .non H', rt := Q } (start ["word", "sign"] vs) H := by
  obtain ⟨w, rfl, hz, q, e⟩ := hh.ex
  have hl := sg_len w
  have pA : PB (tTest (tOp rEq (tVar 0) (tC (.str "")))) [some (V.str w), none] H (decide (V.str w = V.str "")) := pb_eqS rfl
  by_cases h0 : w.length = 0
  · have hA : decide (V.str w = V.str "") = true := by rw [str_eq]; exact decide_eq_true (len_nil.mp h0)
    rw [hA] at pA
    exact seq (r_ifT (fun Q' q' => pA _ (ifT rfl q')) (e (by unfold numR; rw [if_pos (.inl h0)])))
  · have hA : decide (V.str w = V.str "") = false := by rw [str_eq]; exact decide_eq_false fun h => h0 (len_nil.mpr h)
    rw [hA] at pA
    obtain ⟨c, cs, hs⟩ : ∃ c cs, sg w = c :: cs := by
      cases h : sg w with
      | nil => rw [h] at hl; simp at hl; omega
      | cons c cs => exact ⟨c, cs, rfl⟩
    have pB : PB (tTest (tOp rGt (tCB (rLenStr) (tCons (tVar 0) (tNil))) (tC (.int 6)))) [some (V.str w), none] H (decide ((6 : Int) < (w.length : Int))) := fun Q' q' => ⟨_, rfl, w, rfl, hz, _, _, rfl, rfl, _, rfl, q'⟩
    have pC : PB (tTest (tOp rEq (tOp rIxS (tVar 0) (tC (.int 0))) (tC (.str "0")))) [some (V.str w), none] H (decide (V.str ⟨#[c]⟩ = V.str "0")) := fun Q' q' => ⟨_, rfl, w, ((0 : Nat) : Int), c, rfl, rfl, hz, atI_nat (show (sg w)[0]? = some c by rw [hs]; rfl), rfl, _, rfl, q'⟩
    have pD : PB (tTest (tOp rGt (tCB (rLenStr) (tCons (tVar 0) (tNil))) (tC (.int 1)))) [some (V.str w), none] H (decide ((1 : Int) < (w.length : Int))) := fun Q' q' => ⟨_, rfl, w, rfl, hz, _, _, rfl, rfl, _, rfl, q'⟩
    refine seq (r_if (pb_or pA (pb_or pB (pb_and pC pD))) (fun hu => e ?_) (fun hu => ?_))
    · unfold numR
      rw [if_pos]
      rw [Bool.false_or] at hu
      rcases Bool.or_eq_true_iff.mp hu with hu | hu
      · have := of_decide_eq_true hu
        exact .inr (.inl (by omega))
      · obtain ⟨h1, h2⟩ := Bool.and_eq_true_iff.mp hu
        rw [str_eq] at h1
        have h1 := of_decide_eq_true h1
        have h2 := of_decide_eq_true h2
        refine .inr (.inr ⟨?_, by omega⟩)
        rw [hs]
        have := congrArg sg h1
        have h3 : [c] = [48] := this
        injection h3 with h3
        rw [h3]; rfl
    · rw [Bool.false_or] at hu
      obtain ⟨u1, u2⟩ := Bool.or_eq_false_iff.mp hu
      have hn : ¬ (w.length = 0 ∨ 6 < w.length ∨ ((sg w).head? = some 48 ∧ 1 < w.length)) := by
        rintro (h | h | ⟨h, h'⟩)
        · exact h0 h
        · have := of_decide_eq_false u1
          omega
        · rcases Bool.and_eq_false_iff.mp u2 with u | u
          · rw [str_eq] at u
            have u := of_decide_eq_false u
            rw [hs] at h
            injection h with h
            exact u (by rw [h]; rfl)
          · have := of_decide_eq_false u
            omega
      have h6 : w.length ≤ 6 := by omega
      refine seq ⟨_, rfl, w, rfl, for_it walk_str (fun i σ' H' => ∃ v, σ' = [some (V.str w), v] ∧ H' = H ∧ ∀ j d, j < i → (sg w)[j]? = some d → 48 ≤ d ∧ d ≤ 57) ⟨_, rfl, rfl, fun j d hj => absurd hj (Nat.not_lt_zero _)⟩ (fun _ _ _ _ _ => trivial) ?_ ?_⟩
      · rintro i x σ' H1 H2 hi ⟨v, rfl, rfl, hd⟩ ⟨rfl, d, hx, rfl⟩
        refine gn ?_
        have hx : (sg w)[i]? = some d := by rw [show (sg w)[i]? = w.cps[i]? from Array.getElem?_toList]; exact hx
        have pN : ∀ G, PB (tTest (tOp rNiSg (tVar 1) (tC (.str "0123456789")))) [some (V.str w), some (V.str ⟨#[d]⟩)] G (!decide (d ∈ ("0123456789" : Str).cps.toList)) := fun G Q' q' => ⟨_, rfl, d, _, rfl, rfl, _, rfl, q'⟩
        refine r_if (pN _) (fun hu => e ?_) (fun hu => ?_)
        · have hu : ¬ d ∈ ("0123456789" : Str).cps.toList := by
            intro hm
            rw [decide_eq_true hm] at hu
            cases hu
          rw [fig_mem] at hu
          unfold numR
          rw [if_neg hn, if_neg]
          intro ha
          exact hu (of_decide_eq_true (List.all_eq_true.mp ha d (List.mem_of_getElem? hx)))
        · have hu : d ∈ ("0123456789" : Str).cps.toList := by
            refine Decidable.byContradiction fun hm => ?_
            rw [decide_eq_false hm] at hu
            cases hu
          rw [fig_mem] at hu
          refine ⟨_, rfl, rfl, fun j z hj hz' => ?_⟩
          by_cases ej : j = i
          · rw [ej, hx] at hz'
            injection hz' with hz'
            rw [← hz']; exact hu
          · exact hd j z (by omega) hz'
      · rintro σ' H1 ⟨v, rfl, rfl, hd⟩
        have hall : NumText.AllDigits (sg w) := fun z hz' => by
          obtain ⟨j, hj, ej⟩ := List.mem_iff_getElem.mp hz'
          exact hd j z (by rw [hl] at hj; exact hj) (by rw [List.getElem?_eq_getElem hj, ej])
        have hv : numR w = some ((NumText.digitsVal (sg w) : Nat) : Int) := by
          unfold numR
          rw [if_neg hn, if_pos]
          exact List.all_eq_true.mpr fun z hz' => decide_eq_true (hall z hz')
        exact ⟨_, rfl, w, _, rfl, intText_digits hall (by show sg w ≠ []; rw [hs]; simp) (by omega), by omega, q _ hv⟩
/-! ### number_or_none -/
def nv : PyData → V
  | .int i => .int i
  | .str s => .str s
  | _ => .non
structure NumNP (C : Addr) (vs : List V) (H : Hp) (Q : VK) (E : XK) : Prop where
  ex : ∃ w : Str, vs = [.str w] ∧ w.length ≤ sizeLine ∧ (∀ d, numN w = some d → Q (nv d) H) ∧ (numN w = none → E (.ref C) none H)
def spNumN (C : Addr) : Sp := NumNP C
theorem rd_number_or_none {K : PySem.W.Frag} {C : Addr} (vs : List V) (H : Hp) (Q : VK) (E : XK) (hh : spNumN C vs H Q E) : t_number_or_none K (spNum C) E { nx := fun _ H' => Q .non H', rt := Q } (start ["word"] vs) H := by
  obtain ⟨w, rfl, hz, q, e⟩ := hh.ex
  refine seq (r_if (pb_eqS rfl) (fun hu => ?_) (fun hu => ?_))
  · rw [str_eq] at hu
    have hu := of_decide_eq_true hu
    exact q .none (by unfold numN; rw [if_pos hu])
  · rw [str_eq] at hu
    have hu := of_decide_eq_false hu
    refine ⟨_, rfl, ⟨w, rfl, hz, fun n hn => q (.int n) ?_, fun hn => e ?_⟩⟩
    · unfold numN; rw [if_neg hu, hn]; rfl
    · unfold numN; rw [if_neg hu, hn]; rfl
/-! ### row_of -/
structure RowP (K : PySem.W.Frag) (C : Addr) (vs : List V) (H : Hp) (Q : VK) (E : XK) : Prop where
  ex : ∃ line : Str, vs = [.str line] ∧ line.length + 2 ≤ sizeLine ∧ (∀ ds v H', rowR line = some ds → Tp K H' v (.tuple ds) → Same H H' → Q v H') ∧ (rowR line = none → ∀ H', Same H H' → E (.ref C) none H')
def spRow (K : PySem.W.Frag) (C : Addr) : Sp := RowP K C
theorem same_none {H H' : Hp} {p : Addr} (s : Same H H') (h : H' p = none) : H p = none := by
  cases e : H p with
  | none => rfl
  | some o => rw [s _ _ e] at h; cases h
theorem split_short {x y a : Str} (h : a ∈ Txt.split x y) (hx : x.length + 2 ≤ sizeLine) : a.length ≤ sizeLine := by
  have := part_short h
  omega
theorem split_few (x y : Str) : (Txt.split x y).length ≤ x.length + 2 := split_le x y
theorem nv_tp {K : PySem.W.Frag} {H : Hp} {b : Bool} {d : PyData} (h : GoodArg b d) : Tp K H (nv d) d := by
  rcases h with ⟨n, rfl, _⟩ | ⟨_, rfl⟩
  · exact .int n
  · exact .non
theorem nvs_tp {K : PySem.W.Frag} {H : Hp} {h : Bool} : ∀ {k : Nat} {ds : List PyData}, GoodArgs h k ds → TpAll K H (ds.map nv) ds
  | _, [], _ => .nil
  | k, d :: ds, g => .cons (nv_tp g.1) (nvs_tp g.2)
theorem rd_row_of {K : PySem.W.Frag} {C ad : Addr} (vs : List V) (H : Hp) (Q : VK) (E : XK) (hh : spRow K C vs H Q E) : t_row_of K ad C (spNumN C) (spNum C) E { nx := fun _ H' => Q .non H', rt := Q } (start ["line", "words", "parts", "k"] vs) H := by
  obtain ⟨line, rfl, hz, q, e⟩ := hh.ex
  refine seq ⟨_, rfl, ⟨_, rfl⟩, line, (" " : Str), rfl, rfl, by decide, hz, fun p hp => gn ?_⟩
  dsimp only
  show tSeq _ _ _ [some (V.str line), some (.ref p), none, none] _
  have s1 : Same H (L2.upd H p (.lst ((Txt.split line " ").map V.str))) := Same.new hp
  have hp1 : L2.upd H p (.lst ((Txt.split line " ").map V.str)) p = some (.lst ((Txt.split line " ").map V.str)) := upd_same
  generalize L2.upd H p (.lst ((Txt.split line " ").map V.str)) = H1 at s1 hp1 ⊢
  have few := split_few line " "
  have short := fun a h => split_short (x := line) (y := " ") (a := a) h hz
  have ne : Txt.split line " " ≠ [] := by rw [sp_is]; exact split_ne line 32
  have er : rowR line = match Txt.split line " " with
    | [] => none
    | w :: ws => if ary w = some ws.length then (seqO (argsP (isHand w) 1 ws)).map (PyData.str w :: ·) else none := rfl
  generalize Txt.split line " " = all at *
  cases all with
  | nil => exact absurd rfl ne
  | cons w ws =>
    have er : rowR line = if ary w = some ws.length then (seqO (argsP (isHand w) 1 ws)).map (PyData.str w :: ·) else none := er
    have hS : SqL K H1 p ((w :: ws).map V.str) := SqL.of hp1
    have p1 : PB (tTest (tOp (rNiK ad rowsT) (tOp (rIxL K) (tVar 1) (tC (.int 0))) (tC (.ref ad)))) [some (V.str line), some (.ref p), none, none] H1 (!(ary w).isSome) := fun Q' q' => ⟨_, rfl, p, _, ((0 : Nat) : Int), _, rfl, rfl, hS, atI_nat rfl, w, rfl, rfl, _, rfl, q'⟩
    cases ea : ary w with
    | none =>
      rw [ea] at p1 er
      exact seq (r_ifT (fun Q' q' => p1 _ (ifT rfl q')) (e (by rw [er, if_neg (by simp)]) _ s1))
    | some n =>
      rw [ea] at p1 er
      have p2 : PB (tTest (tOp rNe (tCB (rLenQ K) (tCons (tVar 1) (tNil))) (tOp rAdI (tC (.int 1)) (tOp (rIxK ad rowsT) (tC (.ref ad)) (tOp (rIxL K) (tVar 1) (tC (.int 0))))))) [some (V.str line), some (.ref p), none, none] H1 (!decide (V.int (((w :: ws).map V.str).length : Nat) = V.int (1 + (n : Int)))) :=
        fun Q' q' => ⟨_, rfl, p, _, rfl, .inl hS, _, rfl, p, _, ((0 : Nat) : Int), _, rfl, rfl, hS, atI_nat rfl, w, n, rfl, rfl, ea, _, _, rfl, rfl, rfl, _, rfl, q'⟩
      refine seq (r_if (pb_or p1 p2) (fun hu => e ?_ _ s1) (fun hu => ?_))
      · rw [er, if_neg]
        intro h
        injection h with h
        rw [List.length_map, List.length_cons, h] at hu
        have : decide (V.int ((ws.length + 1 : Nat) : Int) = V.int (1 + (ws.length : Int))) = true := decide_eq_true (by congr 1; omega)
        rw [this] at hu
        cases hu
      · have hn : n = ws.length := by
          have hu : (!decide (V.int (((w :: ws).map V.str).length : Nat) = V.int (1 + (n : Int)))) = false := hu
          have h3 : decide (V.int (((w :: ws).map V.str).length : Nat) = V.int (1 + (n : Int))) = true := by
            cases h : decide (V.int (((w :: ws).map V.str).length : Nat) = V.int (1 + (n : Int))) with
            | true => rfl
            | false => rw [h] at hu; cases hu
          have h4 := of_decide_eq_true h3
          injection h4 with h4
          rw [List.length_map, List.length_cons] at h4
          omega
        subst hn
        rw [if_pos rfl] at er
        refine seq ⟨_, rfl, p, _, ((0 : Nat) : Int), _, rfl, rfl, hS, atI_nat rfl, (by show 1 ≤ sizeLine; decide), fun p2 hp2 => gn ?_⟩
        dsimp only
        show tSeq _ _ _ [some (V.str line), some (.ref p), some (.ref p2), none] _
        have ne2 : p ≠ p2 := ne_of_none hp1 hp2
        have s2 : Same H (L2.upd H1 p2 (.lst [V.str w])) := s1.trans (Same.new hp2)
        have hp3 : L2.upd H1 p2 (.lst [V.str w]) p = some (.lst ((w :: ws).map V.str)) := by rw [upd_ne ne2]; exact hp1
        have hq : L2.upd H1 p2 (.lst [V.str w]) p2 = some (.lst [V.str w]) := upd_same
        have fr : H p2 = none := same_none s1 hp2
        generalize L2.upd H1 p2 (.lst [V.str w]) = H2 at s2 hp3 hq ⊢
        have hS2 : SqL K H2 p ((w :: ws).map V.str) := SqL.of hp3
        have hlen : ((ws.length + 1 : Nat) : Int) < 2 ^ 62 := by
          have h7 := few
          have h8 := hz
          rw [List.length_cons] at h7
          rw [sizeLine_eq] at h8
          omega
        refine seq ⟨_, rfl, p, _, rfl, .inl hS2, 1, _, rfl, ⟨by decide, by decide, by omega, by rw [List.length_map, List.length_cons]; exact hlen⟩, for_it walk_range (fun i σ' H' => ∃ (v3 : Option V) (as : List PyData), σ' = [some (V.str line), some (.ref p), some (.ref p2), v3] ∧ H' p2 = some (.lst (.str w :: as.map nv)) ∧ H' p = some (.lst ((w :: ws).map V.str)) ∧ as.map some = (argsP (isHand w) 1 ws).take i ∧ Same H H')
          ⟨none, [], rfl, hq, hp3, by simp, s2⟩ (fun _ _ _ _ _ => trivial) ?_ ?_⟩
        · rintro i x σ' H3 H4 hi ⟨v3, as, rfl, hq3, hp4, has, s3⟩ ⟨rfl, rfl⟩
          refine gn ?_
          have hi : i < ws.length := by rw [List.length_map, List.length_cons] at hi; omega
          have ew : ws[i]? = some ws[i] := List.getElem?_eq_getElem hi
          have eP : (argsP (isHand w) 1 ws)[i]? = some (argAt (isHand w) (1 + i) ws[i]) := by rw [argsP_at, ew]; rfl
          have hw : ws[i] ∈ w :: ws := List.mem_cons_of_mem _ (List.getElem_mem hi)
          generalize ws[i] = z at ew eP hw
          have hS4 : SqL K H4 p ((w :: ws).map V.str) := SqL.of hp4
          have las : as.length ≤ i := by
            have := congrArg List.length has
            rw [List.length_map, List.length_take, argsP_len] at this
            omega
          have c1 : PB (tTest (tOp rEq (tOp (rIxL K) (tVar 1) (tC (.int 0))) (tC (.str "handler")))) [some (V.str line), some (.ref p), some (.ref p2), some (.int (1 + (i : Int)))] H4 (decide (V.str w = V.str "handler")) := fun Q' q' => ⟨_, rfl, p, _, ((0 : Nat) : Int), _, rfl, rfl, hS4, atI_nat rfl, rfl, _, rfl, q'⟩
          have c2 : PB (tTest (tOp rEq (tVar 3) (tC (.int 3)))) [some (V.str line), some (.ref p), some (.ref p2), some (.int (1 + (i : Int)))] H4 (decide (V.int (1 + (i : Int)) = V.int 3)) := pb_eqI rfl
          have ec : (decide (V.str w = V.str "handler") && decide (V.int (1 + (i : Int)) = V.int 3)) = (isHand w && (1 + i) == 3) := by
            rw [str_eq]
            have : decide (V.int (1 + (i : Int)) = V.int 3) = ((1 + i) == 3) := by
              by_cases h : 1 + i = 3
              · have h2 : (1 : Int) + (i : Int) = 3 := by omega
                rw [h2, h]; rfl
              · have h2 : ¬ (V.int (1 + (i : Int)) = V.int 3) := fun z => by injection z with z; omega
                rw [decide_eq_false h2]
                exact (beq_eq_false_iff_ne.mpr h).symm
            rw [this]; rfl
          have at1 : atI ((w :: ws).map V.str) (1 + (i : Int)) = some (V.str z) := by
            have : (1 : Int) + (i : Int) = ((1 + i : Nat) : Int) := by omega
            rw [this]
            refine atI_nat ?_
            rw [List.getElem?_map, Nat.add_comm, List.getElem?_cons_succ, ew]; rfl
          have fin : ∀ d, argAt (isHand w) (1 + i) z = some d → ∃ (v3 : Option V) (as' : List PyData), [some (V.str line), some (.ref p), some (.ref p2), some (.int (1 + (i : Int)))] = [some (V.str line), some (.ref p), some (.ref p2), v3] ∧ (L2.upd H4 p2 (.lst ((.str w :: as.map nv) ++ [nv d]))) p2 = some (.lst (.str w :: as'.map nv)) ∧ (L2.upd H4 p2 (.lst ((.str w :: as.map nv) ++ [nv d]))) p = some (.lst ((w :: ws).map V.str)) ∧ as'.map some = (argsP (isHand w) 1 ws).take (i + 1) ∧ Same H (L2.upd H4 p2 (.lst ((.str w :: as.map nv) ++ [nv d]))) := fun d hd => by
            refine ⟨_, as ++ [d], rfl, ?_, ?_, ?_, ?_⟩
            · rw [upd_same, List.map_append]; rfl
            · rw [upd_ne ne2]; exact hp4
            · rw [List.map_append, has, List.take_succ, eP, hd]; rfl
            · exact fun b o eb => by rw [upd_ne (ne_of_none eb fr)]; exact s3 _ _ eb
          have bad : argAt (isHand w) (1 + i) z = none → rowR line = none := fun hd => by
            rw [er, seqO_none (i := i) (by rw [eP, hd])]; rfl
          have szl : (V.str w :: as.map nv).length < sizeLine := by
            rw [List.length_cons, List.length_map]
            rw [List.length_cons] at few
            have hi2 := hi
            omega
          refine r_if (pb_is (pb_and c1 c2) ec) (fun hu => ?_) (fun hu => ?_)
          · refine ⟨_, rfl, .inl ⟨rfl, _, SqL.of hq3⟩, _, rfl, _, rfl, p, _, _, _, rfl, rfl, hS4, at1, ⟨z, rfl, short z hw, fun d hd => ?_, fun hd => ?_⟩⟩
            · exact ⟨p2, _, nv d, rfl, rfl, hq3, szl, fin d (by unfold argAt; rw [hu, if_pos rfl]; exact hd)⟩
            · exact e (bad (by unfold argAt; rw [hu, if_pos rfl]; exact hd)) _ s3
          · refine ⟨_, rfl, .inl ⟨rfl, _, SqL.of hq3⟩, _, rfl, _, rfl, p, _, _, _, rfl, rfl, hS4, at1, ⟨z, rfl, short z hw, fun d hd => ?_, fun hd => ?_⟩⟩
            · exact ⟨p2, _, nv (.int d), rfl, rfl, hq3, szl, fin (.int d) (by unfold argAt; rw [hu, if_neg (by decide), hd]; rfl)⟩
            · exact e (bad (by unfold argAt; rw [hu, if_neg (by decide), hd]; rfl)) _ s3
        · rintro σ' H3 ⟨v3, as, rfl, hq3, hp4, has, s3⟩
          rw [List.take_of_length_le (by rw [argsP_len, List.length_map, List.length_cons]; omega)] at has
          have eR : rowR line = some (.str w :: as) := by rw [er, seqO_iff.mpr has.symm]; rfl
          obtain ⟨g, _⟩ := args_out has.symm
          refine ⟨_, rfl, p2, _, rfl, .inl ⟨SqL.of hq3, fun l hl => ?_⟩⟩
          exact q _ _ _ eR (Tp.mk hl (.cons (.str w) (nvs_tp g))) (s3.trans (Same.new hl))
end RL
end Lp

/-! LyS: the readings of table_row_of and function_of. -/
namespace Lp
open PySem PySem.Spec PyProof.Rows L2
def t_function_of (K : PySem.W.Frag) (C_Unread : Addr) (sp_number_of : Sp) (sp_table_row_of : Sp) (sp_row_of : Sp) (E : XK) : TS :=
  tSeq (tAsg (tM1 rSplit (tOp (rIxL K) (tVar 0) (tC (.int 0))) (tC (.str " "))) (gName 1)) (tSeq (tIfS (tTest (tOp rNe (tCB (rLenQ K) (tCons (tVar 1) (tNil))) (tC (.int 2)))) (tRz C_Unread E) (tNext)) (tSeq (tAsg (tCallX sp_number_of E (tCons (tOp (rIxL K) (tVar 1) (tC (.int 1))) (tNil))) (gName 2)) (tSeq (tAsg (tLst (tNil)) (gName 3)) (tSeq (tAsg (tLst (tNil)) (gName 4)) (tSeq (tFor (iList K (tSl (rSlL K) (tVar 0) (tPart (tC (.int 1))) tNoPart)) (gName 5) (tIfS (tB (tM1 rStarts (tVar 5) (tC (.str "table ")))) (tDrop (tBM K "list" rAppend (tVar 4) (tCons (tCallX sp_table_row_of E (tCons (tVar 5) (tNil))) (tNil)))) (tIfS (tTest (tOp (rEqE K) (tVar 4) (tLst (tNil)))) (tDrop (tBM K "list" rAppend (tVar 3) (tCons (tCallX sp_row_of E (tCons (tVar 5) (tNil))) (tNil)))) (tRz C_Unread E)))) (tRet (tTup (tCons (tVar 2) (tCons (tCB (rTupOf K) (tCons (tVar 3) (tNil))) (tCons (tCB (rTupOf K) (tCons (tVar 4) (tNil))) (tNil)))))))))))

namespace RL
open KL (gn seq seq_inv)
/-! ### table_row_of -/
structure TabP (K : PySem.W.Frag) (C : Addr) (vs : List V) (H : Hp) (Q : VK) (E : XK) : Prop where
  ex : ∃ line : Str, vs = [.str line] ∧ line.length + 2 ≤ sizeLine ∧ (∀ ds v H', tabR line = some ds → Tp K H' v (.tuple ds) → Same H H' → Q v H') ∧ (tabR line = none → ∀ H', Same H H' → E (.ref C) none H')
def spTabR (K : PySem.W.Frag) (C : Addr) : Sp := TabP K C
section
variable {K : PySem.W.Frag} {C : Addr} {σ : L2.St} {H : Hp} {p : Addr} {ws : List Str} {i j : Nat} {z : Str} {Q : VK} {E : XK}
theorem call_num (hs : σ[i]? = some (some (.ref p))) (hS : SqL K H p (ws.map V.str)) (e : ws[j]? = some z) (hz : z.length ≤ sizeLine) (hn : numR z = none → E (.ref C) none H) (q : ∀ n, numR z = some n → Q (.int n) H) :
    tCallX (spNum C) E (tCons (tOp (rIxL K) (tVar i) (tC (.int (j : Int)))) (tNil)) σ H Q := ⟨_, hs, p, _, (j : Int), _, rfl, rfl, hS, atI_nat (by rw [List.getElem?_map, e]; rfl), ⟨z, rfl, hz, q, hn⟩⟩
theorem call_numN (hs : σ[i]? = some (some (.ref p))) (hS : SqL K H p (ws.map V.str)) (e : ws[j]? = some z) (hz : z.length ≤ sizeLine) (hn : numN z = none → E (.ref C) none H) (q : ∀ d, numN z = some d → Q (nv d) H) :
    tCallX (spNumN C) E (tCons (tOp (rIxL K) (tVar i) (tC (.int (j : Int)))) (tNil)) σ H Q := ⟨_, hs, p, _, (j : Int), _, rfl, rfl, hS, atI_nat (by rw [List.getElem?_map, e]; rfl), ⟨z, rfl, hz, q, hn⟩⟩
end
theorem tabW_len {ws : List Str} (h : ws.length ≠ 7) : tabW ws = none := by
  unfold tabW
  split
  · exact absurd rfl h
  · rfl
theorem in_kinds {s : Str} : inV (V.str s) [V.str "handler", V.str "cleanup"] = isKind s := by
  have e : ∀ a b : Str, eqV (V.str a) (V.str b) = decide (b = a) := fun a b => by
    by_cases h : b = a
    · rw [h]; simp [eqV]
    · simp only [h, decide_false]
      show (a == b) = false
      exact beq_eq_false_iff_ne.mpr fun z => h z.symm
  unfold inV isKind
  rw [List.any_cons, List.any_cons, List.any_nil, Bool.or_false, e, e]
theorem rd_table_row_of {K : PySem.W.Frag} {C : Addr} (vs : List V) (H : Hp) (Q : VK) (E : XK) (hh : spTabR K C vs H Q E) : t_table_row_of K C (spNum C) (spNumN C) E { nx := fun _ H' => Q .non H', rt := Q } (start ["line", "words", "ends"] vs) H := by
  obtain ⟨line, rfl, hz, q, e⟩ := hh.ex
  refine seq ⟨_, rfl, ⟨_, rfl⟩, line, (" " : Str), rfl, rfl, by decide, hz, fun p hp => gn ?_⟩
  dsimp only
  show tSeq _ _ _ [some (V.str line), some (.ref p), none] _
  have s1 : Same H (L2.upd H p (.lst ((Txt.split line " ").map V.str))) := Same.new hp
  have hp1 : L2.upd H p (.lst ((Txt.split line " ").map V.str)) p = some (.lst ((Txt.split line " ").map V.str)) := upd_same
  generalize L2.upd H p (.lst ((Txt.split line " ").map V.str)) = H1 at s1 hp1 ⊢
  have short := fun a h => split_short (x := line) (y := " ") (a := a) h hz
  have er : tabR line = tabW (Txt.split line " ") := rfl
  generalize Txt.split line " " = ws at *
  have hS : SqL K H1 p (ws.map V.str) := SqL.of hp1
  have p1 : PB (tTest (tOp rNe (tCB (rLenQ K) (tCons (tVar 1) (tNil))) (tC (.int 7)))) [some (V.str line), some (.ref p), none] H1 (!decide (V.int ((ws.map V.str).length : Nat) = V.int 7)) := fun Q' q' => ⟨_, rfl, p, _, rfl, .inl hS, rfl, _, rfl, q'⟩
  by_cases h7 : ws.length = 7
  · have e7 : (!decide (V.int ((ws.map V.str).length : Nat) = V.int 7)) = false := by rw [List.length_map, h7]; decide
    rw [e7] at p1
    match ws, h7 with
    | [w0, a, b, s, d, f, g], _ =>
      have er : tabR line = if isKind s = true then seqO [(numR a).map .int, (numR b).map .int, some (.str s), numN d, (numR f).map .int, (numR g).map .int] else none := er
      have shA := short a (by simp)
      have shB := short b (by simp)
      have shD := short d (by simp)
      have shF := short f (by simp)
      have shG := short g (by simp)
      refine seq (p1 _ (ifF rfl ?_))
      refine ⟨_, rfl, p, _, ((3 : Nat) : Int), V.str s, rfl, rfl, hS, atI_nat rfl, (by show 2 ≤ sizeLine; decide), fun pk hk => ⟨pk, _, rfl, .inr (.inl (.inl upd_same)), rfl, rfl, _, rfl, ?_⟩⟩
      have s2 : Same H (L2.upd H1 pk (.tup [V.str "handler", V.str "cleanup"])) := s1.trans (Same.new hk)
      have hp2 : L2.upd H1 pk (.tup [V.str "handler", V.str "cleanup"]) p = some (.lst ([w0, a, b, s, d, f, g].map V.str)) := by rw [upd_ne (ne_of_none hp1 hk)]; exact hp1
      generalize L2.upd H1 pk (.tup [V.str "handler", V.str "cleanup"]) = H2 at s2 hp2 ⊢
      rw [if_pos rfl, in_kinds]
      refine ifP (fun hk => e ?_ _ s2) (fun hk => ?_)
      · rw [er, if_neg]
        intro hh
        rw [hh] at hk
        cases hk
      have hk : isKind s = true := by
        cases hh : isKind s with
        | true => rfl
        | false => rw [hh] at hk; cases hk
      rw [if_pos hk] at er
      have hS2 : SqL K H2 p ([w0, a, b, s, d, f, g].map V.str) := SqL.of hp2
      refine seq (call_num (j := 1) rfl hS2 rfl shA (fun hn => e (by rw [er]; exact seqO_none (i := 0) (by rw [hn]; rfl)) _ s2) fun na ha => ?_)
      refine call_num (j := 2) rfl hS2 rfl shB (fun hn => e (by rw [er]; exact seqO_none (i := 1) (by rw [hn]; rfl)) _ s2) fun nb hb => ?_
      refine ⟨_, rfl, p, _, ((3 : Nat) : Int), V.str s, rfl, rfl, hS2, atI_nat rfl, (by show 3 ≤ sizeLine; decide), fun p3 hp3 => gn ?_⟩
      dsimp only
      have s3 : Same H (L2.upd H2 p3 (.tup [V.int na, V.int nb, V.str s])) := s2.trans (Same.new hp3)
      have hp4 : L2.upd H2 p3 (.tup [V.int na, V.int nb, V.str s]) p = some (.lst ([w0, a, b, s, d, f, g].map V.str)) := by rw [upd_ne (ne_of_none hp2 hp3)]; exact hp2
      have hT : L2.upd H2 p3 (.tup [V.int na, V.int nb, V.str s]) p3 = some (.tup [V.int na, V.int nb, V.str s]) := upd_same
      generalize L2.upd H2 p3 (.tup [V.int na, V.int nb, V.str s]) = H3 at s3 hp4 hT ⊢
      have hS3 : SqL K H3 p ([w0, a, b, s, d, f, g].map V.str) := SqL.of hp4
      refine ⟨_, rfl, ?_⟩
      refine call_numN (i := 1) (j := 4) rfl hS3 rfl shD (fun hn => e (by rw [er]; exact seqO_none (i := 3) (by rw [hn]; rfl)) _ s3) fun nd hd => ?_
      refine call_num (i := 1) (j := 5) rfl hS3 rfl shF (fun hn => e (by rw [er]; exact seqO_none (i := 4) (by rw [hn]; rfl)) _ s3) fun nf hf => ?_
      refine call_num (i := 1) (j := 6) rfl hS3 rfl shG (fun hn => e (by rw [er]; exact seqO_none (i := 5) (by rw [hn]; rfl)) _ s3) fun ng hg => ?_
      refine ⟨(by show 3 ≤ sizeLine; decide), fun p4 hp5 => ?_⟩
      have s4 : Same H (L2.upd H3 p4 (.tup [nv nd, V.int nf, V.int ng])) := s3.trans (Same.new hp5)
      have hT4 : L2.upd H3 p4 (.tup [nv nd, V.int nf, V.int ng]) p3 = some (.tup [V.int na, V.int nb, V.str s]) := by rw [upd_ne (ne_of_none hT hp5)]; exact hT
      refine ⟨p3, p4, _, _, rfl, rfl, .inl (.inl hT4), .inl (.inl upd_same), (by show 6 ≤ sizeLine; decide), (fun hx => by cases hx), (fun _ hx => by cases hx), fun _ _ p5 hp6 => ?_⟩
      have eR : tabR line = some [.int na, .int nb, .str s, nd, .int nf, .int ng] := by rw [er, ha, hb, hd, hf, hg]; rfl
      have gd := (numN_out hd).2
      exact q _ _ _ eR (Tp.mk hp6 (.cons (.int _) (.cons (.int _) (.cons (.str _) (.cons (nv_tp gd) (.cons (.int _) (.cons (.int _) .nil))))))) (s4.trans (Same.new hp6))
  · have e7 : (!decide (V.int ((ws.map V.str).length : Nat) = V.int 7)) = true := by
      rw [List.length_map, decide_eq_false]
      · rfl
      · intro h
        injection h with h
        omega
    rw [e7] at p1
    exact seq (p1 _ (ifT rfl (ifT rfl (e (by rw [er]; exact tabW_len h7) _ s1))))
/-! ### function_of -/
structure FnP (K : PySem.W.Frag) (C : Addr) (vs : List V) (H : Hp) (Q : VK) (E : XK) : Prop where
  ex : ∃ (a : Addr) (ls : List Str), vs = [.ref a] ∧ SqL K H a (ls.map V.str) ∧ ls ≠ [] ∧ ls.length ≤ 150000 ∧ (∀ l ∈ ls, l.length + 2 ≤ sizeLine) ∧ (∀ f v H', fnR ls = some f → Tp K H' v f.d → Same H H' → Q v H') ∧ (fnR ls = none → ∀ H', Same H H' → E (.ref C) none H')
def spFn (K : PySem.W.Frag) (C : Addr) : Sp := FnP K C
theorem headR_len {hs : List Str} (h : hs.length ≠ 2) : headR hs = none := by
  unfold headR
  split
  · exact absurd rfl h
  · rfl
theorem foldlM_take {α β : Type} {f : β → α → Option β} : ∀ {l : List α} {b : β} {i : Nat} {x : α}, l[i]? = some x → (l.take (i + 1)).foldlM f b = ((l.take i).foldlM f b).bind fun s => f s x
  | [], _, _, _, h => by cases h
  | y :: l, b, 0, x, h => by
    injection h with h
    subst h
    show (f b y).bind (fun s => some s) = f b y
    cases f b y <;> rfl
  | y :: l, b, i + 1, x, h => by
    rw [List.take_succ_cons, List.take_succ_cons, List.foldlM_cons, List.foldlM_cons]
    show (f b y).bind _ = ((f b y).bind _).bind _
    cases f b y with
    | none => rfl
    | some s => exact foldlM_take (l := l) h
theorem foldlM_none {α β : Type} {f : β → α → Option β} : ∀ {l : List α} {b : β} {i : Nat}, (l.take i).foldlM f b = none → l.foldlM f b = none
  | [], b, i, h => by rw [List.take_nil] at h; exact h
  | y :: l, b, 0, h => by cases h
  | y :: l, b, i + 1, h => by
    rw [List.take_succ_cons, List.foldlM_cons] at h
    rw [List.foldlM_cons]
    cases e : f b y with
    | none => rfl
    | some s => rw [e] at h; exact foldlM_none (l := l) (i := i) h
theorem body_len {ls : List Str} {st st' : BSt} (h : ls.foldlM bodyS st = some st') : st'.1.length + st'.2.length ≤ st.1.length + st.2.length + ls.length := by
  induction ls generalizing st with
  | nil =>
    have h : some st = some st' := h
    injection h with h
    rw [h]; simp
  | cons l ls ih =>
    rw [List.foldlM_cons] at h
    cases e : bodyS st l with
    | none => rw [e] at h; cases h
    | some s1 =>
      rw [e] at h
      have := ih h
      have e1 : s1.1.length + s1.2.length = st.1.length + st.2.length + 1 := by
        unfold bodyS at e
        split at e
        · cases q : tabR l with
          | none => rw [q] at e; cases e
          | some t =>
            rw [q] at e
            have e : some ((st.1, st.2 ++ [t]) : BSt) = some s1 := e
            injection e with e
            rw [← e, List.length_append]; simp; omega
        · split at e
          · cases q : rowR l with
            | none => rw [q] at e; cases e
            | some t =>
              rw [q] at e
              have e : some ((st.1 ++ [t], st.2) : BSt) = some s1 := e
              injection e with e
              rw [← e, List.length_append]; simp; omega
          · cases e
      rw [List.length_cons]
      omega
theorem cut1 {xs : List V} (h : xs ≠ []) : cutV xs (some 1) none = xs.tail := by
  cases xs with
  | nil => exact absurd rfl h
  | cons x r =>
    unfold cutV
    have e1 : HT.sIx (x :: r).length 0 (some 1) = 1 := by
      simp [HT.sIx]
      try omega
    have e2 : HT.sIx (x :: r).length (x :: r).length none = (x :: r).length := rfl
    rw [e1, e2]
    simp
/-- a list of data, appended to -/
theorem app_tp {K : PySem.W.Frag} {σ : L2.St} {H H2 : Hp} {p : Addr} {rv : List V} {ds : List PyData} {v : V} {d : PyData} (h : H p = some (.lst rv)) (t : TpAll K H rv ds) (s : Same H H2) (tv : Tp K H2 v d) :
    TpAll K (L2.upd H2 p (.lst (rv ++ [v]))) (rv ++ [v]) (ds ++ [d]) :=
  ((t.mono (Tk.same s)).snoc tv).mono (Tk.lst (s _ _ h))
theorem rd_function_of {K : PySem.W.Frag} {C : Addr} (vs : List V) (H : Hp) (Q : VK) (E : XK) (hh : spFn K C vs H Q E) : t_function_of K C (spNum C) (spTabR K C) (spRow K C) E { nx := fun _ H' => Q .non H', rt := Q } (start ["lines", "head", "many", "rows", "table", "line"] vs) H := by
  obtain ⟨a, ls, rfl, hA, ne, few, short, q, e⟩ := hh.ex
  cases ls with
  | nil => exact absurd rfl ne
  | cons hd rest =>
    have hz := short hd List.mem_cons_self
    refine seq ⟨_, rfl, a, _, ((0 : Nat) : Int), V.str hd, rfl, rfl, hA, atI_nat rfl, ⟨_, rfl⟩, hd, (" " : Str), rfl, rfl, by decide, hz, fun p hp => gn ?_⟩
    dsimp only
    show tSeq _ _ _ [some (V.ref a), some (.ref p), none, none, none, none] _
    have s1 : Same H (L2.upd H p (.lst ((Txt.split hd " ").map V.str))) := Same.new hp
    have hp1 : L2.upd H p (.lst ((Txt.split hd " ").map V.str)) p = some (.lst ((Txt.split hd " ").map V.str)) := upd_same
    generalize L2.upd H p (.lst ((Txt.split hd " ").map V.str)) = H1 at s1 hp1 ⊢
    have shorth := fun a h => split_short (x := hd) (y := " ") (a := a) h hz
    have er : fnR (hd :: rest) = (headR (Txt.split hd " ")).bind fun m => (rest.foldlM bodyS ([], [])).map fun st => ⟨m, st.1, st.2⟩ := rfl
    generalize Txt.split hd " " = ws at *
    have hS : SqL K H1 p (ws.map V.str) := SqL.of hp1
    have p1 : PB (tTest (tOp rNe (tCB (rLenQ K) (tCons (tVar 1) (tNil))) (tC (.int 2)))) [some (V.ref a), some (.ref p), none, none, none, none] H1 (!decide (V.int ((ws.map V.str).length : Nat) = V.int 2)) := fun Q' q' => ⟨_, rfl, p, _, rfl, .inl hS, rfl, _, rfl, q'⟩
    by_cases h2 : ws.length = 2
    · have e2 : (!decide (V.int ((ws.map V.str).length : Nat) = V.int 2)) = false := by rw [List.length_map, h2]; decide
      rw [e2] at p1
      match ws, h2 with
      | [w0, m], _ =>
        refine seq (r_ifF p1 ?_)
        show tSeq _ _ _ [some (V.ref a), some (.ref p), none, none, none, none] _
        refine seq (call_num (i := 1) (j := 1) rfl hS rfl (shorth m (by simp)) (fun hn => e (by rw [er]; show (numR m).bind _ = none; rw [hn]; rfl) _ s1) fun n hn => gn ?_)
        dsimp only
        show tSeq _ _ _ [some (V.ref a), some (.ref p), some (.int n), none, none, none] _
        have er : fnR (hd :: rest) = (rest.foldlM bodyS ([], [])).map fun st => ⟨n, st.1, st.2⟩ := by
          rw [er]
          show (numR m).bind _ = _
          rw [hn]; rfl
        refine seq ⟨(by show 0 ≤ sizeLine; decide), fun pr hr => gn ?_⟩
        dsimp only
        show tSeq _ _ _ [some (V.ref a), some (.ref p), some (.int n), some (.ref pr), none, none] _
        have s2 : Same H (L2.upd H1 pr (.lst [])) := s1.trans (Same.new hr)
        have hr2 : L2.upd H1 pr (.lst []) pr = some (.lst []) := upd_same
        have frr : H pr = none := same_none s1 hr
        generalize L2.upd H1 pr (.lst []) = H2 at s2 hr2 ⊢
        refine seq ⟨(by show 0 ≤ sizeLine; decide), fun pt ht => gn ?_⟩
        dsimp only
        show tSeq _ _ _ [some (V.ref a), some (.ref p), some (.int n), some (.ref pr), some (.ref pt), none] _
        have s3 : Same H (L2.upd H2 pt (.lst [])) := s2.trans (Same.new ht)
        have nrt : pr ≠ pt := ne_of_none hr2 ht
        have hr3 : L2.upd H2 pt (.lst []) pr = some (.lst []) := by rw [upd_ne nrt]; exact hr2
        have ht3 : L2.upd H2 pt (.lst []) pt = some (.lst []) := upd_same
        have frt : H pt = none := same_none s2 ht
        generalize L2.upd H2 pt (.lst []) = H3 at s3 hr3 ht3 ⊢
        refine seq_inv (fun σ' H' => ∃ (v5 : Option V) (st : BSt) (rv tv : List V), σ' = [some (V.ref a), some (.ref p), some (.int n), some (.ref pr), some (.ref pt), v5] ∧ H' pr = some (.lst rv) ∧ H' pt = some (.lst tv) ∧ TpAll K H' rv (st.1.map .tuple) ∧ TpAll K H' tv (st.2.map .tuple) ∧ rest.foldlM bodyS ([], []) = some st ∧ Same H H') (fun nx hnx => ?_) ?_
        · refine ⟨_, rfl, _, rfl, a, _, rfl, s3.seq hA, fun pl hl => ?_⟩
          rw [cut1 (by simp)]
          have ecut : ((hd :: rest).map V.str).tail = rest.map V.str := rfl
          rw [ecut]
          have s4 : Same H (L2.upd H3 pl (.lst (rest.map V.str))) := s3.trans (Same.new hl)
          have hr4 : L2.upd H3 pl (.lst (rest.map V.str)) pr = some (.lst []) := by rw [upd_ne (ne_of_none hr3 hl)]; exact hr3
          have ht4 : L2.upd H3 pl (.lst (rest.map V.str)) pt = some (.lst []) := by rw [upd_ne (ne_of_none ht3 hl)]; exact ht3
          have hl4 : L2.upd H3 pl (.lst (rest.map V.str)) pl = some (.lst (rest.map V.str)) := upd_same
          have nrl : pr ≠ pl := ne_of_none hr3 hl
          have ntl : pt ≠ pl := ne_of_none ht3 hl
          generalize L2.upd H3 pl (.lst (rest.map V.str)) = H4 at s4 hr4 ht4 hl4 ⊢
          refine ⟨pl, rfl, ⟨_, SqL.of hl4⟩, for_list (K := K) (a := pl) (xs := rest.map V.str) (fun i σ' H' => ∃ (v5 : Option V) (st : BSt) (rv tv : List V), σ' = [some (V.ref a), some (.ref p), some (.int n), some (.ref pr), some (.ref pt), v5] ∧ H' pr = some (.lst rv) ∧ H' pt = some (.lst tv) ∧ H' pl = some (.lst (rest.map V.str)) ∧ TpAll K H' rv (st.1.map .tuple) ∧ TpAll K H' tv (st.2.map .tuple) ∧ (rest.take i).foldlM bodyS ([], []) = some st ∧ Same H H')
            ⟨none, ([], []), [], [], rfl, hr4, ht4, hl4, .nil, .nil, rfl, s4⟩ (fun i σ' H' _ ⟨_, _, _, _, _, _, _, h, _⟩ => SqL.of h) ?_ ?_⟩
          · rintro i x σ' H5 hx ⟨v5, st, rv, tv, rfl, hr5, ht5, hl5, tr, tt, ef, s5⟩
            refine gn ?_
            rw [List.getElem?_map] at hx
            cases el : rest[i]? with
            | none => rw [el] at hx; cases hx
            | some l =>
              rw [el] at hx
              obtain rfl : V.str l = x := Option.some.inj hx
              have hlm := List.mem_of_getElem? el
              have hlz := short l (List.mem_cons_of_mem _ hlm)
              have estep : (rest.take (i + 1)).foldlM bodyS ([], []) = bodyS st l := by rw [foldlM_take el, ef]; rfl
              have bad : bodyS st l = none → fnR (hd :: rest) = none := fun hb => by
                rw [er, foldlM_none (i := i + 1) (by rw [estep, hb])]; rfl
              have blen := body_len ef
              rw [List.length_take] at blen
              have hi := (List.getElem?_eq_some_iff.mp el).1
              rw [List.length_cons] at few
              have lrv : rv.length < sizeLine := by
                have := tr.length
                rw [List.length_map] at this
                exact sz_lt1 (by simp at blen; omega)
              have ltv : tv.length < sizeLine := by
                have := tt.length
                rw [List.length_map] at this
                exact sz_lt1 (by simp at blen; omega)
              have pS : PB (tB (tM1 rStarts (tVar 5) (tC (.str "table ")))) [some (V.ref a), some (.ref p), some (.int n), some (.ref pr), some (.ref pt), some (.str l)] H5 (Txt.startswith l "table ") := fun Q' q' => ⟨_, rfl, ⟨_, rfl⟩, _, _, rfl, rfl, _, rfl, q'⟩
              refine r_if pS (fun hu => ?_) (fun hu => ?_)
              · refine ⟨_, rfl, .inl ⟨rfl, _, SqL.of ht5⟩, _, rfl, ⟨l, rfl, hlz, fun ds v H6 hds tv6 s6 => ?_, fun hn H6 s6 => ?_⟩⟩
                · have eb : bodyS st l = some (st.1, st.2 ++ [ds]) := by unfold bodyS; rw [if_pos hu, hds]; rfl
                  refine ⟨pt, _, v, rfl, rfl, s6 _ _ ht5, ltv, ⟨_, (st.1, st.2 ++ [ds]), rv, tv ++ [v], rfl, ?_, upd_same, ?_, ?_, ?_, by rw [estep, eb], ?_⟩⟩
                  · rw [upd_ne nrt]; exact s6 _ _ hr5
                  · rw [upd_ne (Ne.symm ntl)]; exact s6 _ _ hl5
                  · exact (tr.mono (Tk.same s6)).mono (Tk.lst (s6 _ _ ht5))
                  · rw [List.map_append]
                    exact app_tp (σ := []) ht5 tt s6 tv6
                  · exact fun b o eb => by rw [upd_ne (ne_of_none eb frt)]; exact s6 _ _ (s5 _ _ eb)
                · exact e (bad (by unfold bodyS; rw [if_pos hu, hn]; rfl)) _ (s5.trans s6)
              · refine ⟨_, rfl, (by show 0 ≤ sizeLine; decide), fun pe he => ⟨pt, pe, tv, rfl, rfl, SqL.of (by rw [upd_ne (ne_of_none ht5 he)]; exact ht5), SqL.of upd_same, _, rfl, ?_⟩⟩
                have s6 : Same H5 (L2.upd H5 pe (.lst [])) := Same.new he
                generalize L2.upd H5 pe (.lst []) = H6 at s6 ⊢
                refine ifP (fun h0 => ?_) (fun h0 => ?_)
                · have h2 : st.2 = [] := by
                    have h3 := tt.length
                    rw [List.length_map, List.isEmpty_iff.mp h0] at h3
                    exact List.eq_nil_of_length_eq_zero h3.symm
                  have hr6 := s6 _ _ hr5
                  refine ⟨_, rfl, .inl ⟨rfl, _, SqL.of hr6⟩, _, rfl, ⟨l, rfl, hlz, fun ds v H7 hds tv7 s7 => ?_, fun hn H7 s7 => ?_⟩⟩
                  · have eb : bodyS st l = some (st.1 ++ [ds], st.2) := by unfold bodyS; rw [if_neg (by rw [hu]; decide), if_pos h2, hds]; rfl
                    have s67 := s6.trans s7
                    refine ⟨pr, _, v, rfl, rfl, s7 _ _ hr6, lrv, ⟨_, (st.1 ++ [ds], st.2), rv ++ [v], tv, rfl, upd_same, ?_, ?_, ?_, ?_, by rw [estep, eb], ?_⟩⟩
                    · rw [upd_ne (Ne.symm nrt)]; exact s67 _ _ ht5
                    · rw [upd_ne (Ne.symm nrl)]; exact s67 _ _ hl5
                    · rw [List.map_append]
                      exact app_tp (σ := []) hr5 tr s67 tv7
                    · exact (tt.mono (Tk.same s67)).mono (Tk.lst (s67 _ _ hr5))
                    · exact fun b o eb => by rw [upd_ne (ne_of_none eb frr)]; exact s67 _ _ (s5 _ _ eb)
                  · exact e (bad (by unfold bodyS; rw [if_neg (by rw [hu]; decide), if_pos h2, hn]; rfl)) _ ((s5.trans s6).trans s7)
                · have h2 : st.2 ≠ [] := fun h2 => by
                    have h3 := tt.length
                    rw [List.length_map, h2] at h3
                    have h4 : tv = [] := List.eq_nil_of_length_eq_zero h3
                    rw [h4] at h0
                    cases h0
                  exact e (bad (by unfold bodyS; rw [if_neg (by rw [hu]; decide), if_neg h2])) _ (s5.trans s6)
          · rintro σ' H5 ⟨v5, st, rv, tv, rfl, hr5, ht5, _, tr, tt, ef, s5⟩
            rw [List.take_of_length_le (by rw [List.length_map]; exact Nat.le_refl _)] at ef
            exact hnx _ _ ⟨v5, st, rv, tv, rfl, hr5, ht5, tr, tt, ef, s5⟩
        · rintro _ H5 ⟨v5, st, rv, tv, rfl, hr5, ht5, tr, tt, ef, s5⟩
          have eR : fnR (hd :: rest) = some ⟨n, st.1, st.2⟩ := by rw [er, ef]; rfl
          refine ⟨_, rfl, _, rfl, pr, _, rfl, .inl ⟨SqL.of hr5, fun p6 hp6 => ?_⟩⟩
          have t6 := Tp.mk hp6 tr
          have tt6 := tt.mono (Tk.new (o := .tup rv) hp6)
          have ht6 : L2.upd H5 p6 (.tup rv) pt = some (.lst tv) := by rw [upd_ne (ne_of_none ht5 hp6)]; exact ht5
          have s6 : Same H (L2.upd H5 p6 (.tup rv)) := s5.trans (Same.new hp6)
          generalize L2.upd H5 p6 (.tup rv) = H6 at t6 tt6 ht6 s6 ⊢
          refine ⟨_, rfl, pt, _, rfl, .inl ⟨SqL.of ht6, fun p7 hp7 => ?_⟩⟩
          have t7 := Tp.mk hp7 tt6
          have t67 := t6.mono (Tk.new (o := .tup tv) hp7)
          have s7 : Same H (L2.upd H6 p7 (.tup tv)) := s6.trans (Same.new hp7)
          generalize L2.upd H6 p7 (.tup tv) = H7 at t7 t67 s7 ⊢
          refine ⟨(by show 3 ≤ sizeLine; decide), fun p8 hp8 => ?_⟩
          exact q _ _ _ eR (Tp.mk hp8 (.cons (.int n) (.cons t67 (.cons t7 .nil)))) (s7.trans (Same.new hp8))
    · have e2 : (!decide (V.int ((ws.map V.str).length : Nat) = V.int 2)) = true := by
        rw [List.length_map, decide_eq_false]
        · rfl
        · intro h
          injection h with h
          omega
      rw [e2] at p1
      exact seq (r_ifT p1 (e (by rw [er, headR_len h2]; rfl) _ s1))
end RL
end Lp

/-! LyT: the reading of read_listing. -/
namespace Lp
open PySem PySem.Spec PyProof.Rows L2
def t_read_listing (K : PySem.W.Frag) (sp_function_of : Sp) (C_Unread : Addr) (sp_table_of : Sp) (E : XK) : TS :=
  tSeq (tAsg (tLst (tNil)) (gName 1)) (tSeq (tAsg (tLst (tNil)) (gName 2)) (tSeq (tFor (iList K (tM1 rSplit (tVar 0) (tC (.str "\n")))) (gName 3) (tSeq (tIfS (tAnd (tB (tM1 rStarts (tVar 3) (tC (.str "function ")))) (tTest (tOp (rNeE K) (tVar 2) (tLst (tNil))))) (tSeq (tDrop (tBM K "list" rAppend (tVar 1) (tCons (tCallX sp_function_of E (tCons (tVar 2) (tNil))) (tNil)))) (tAsg (tLst (tNil)) (gName 2))) (tIfS (tAnd (tTest (tOp (rEqE K) (tVar 2) (tLst (tNil)))) (tNot (tB (tM1 rStarts (tVar 3) (tC (.str "function ")))))) (tRz C_Unread E) (tNext))) (tDrop (tBM K "list" rAppend (tVar 2) (tCons (tVar 3) (tNil)))))) (tSeq (tDrop (tBM K "list" rAppend (tVar 1) (tCons (tCallX sp_function_of E (tCons (tVar 2) (tNil))) (tNil)))) (tSeq (tFor (iList K (tVar 1)) (gName 4) (tIfS (tTest (tOp (rNeD K) (tOp (rIxT K) (tVar 4) (tC (.int 2))) (tCall sp_table_of [] E0 (tCons (tOp (rIxT K) (tVar 4) (tC (.int 1))) (tNil))))) (tRz C_Unread E) (tNext))) (tRet (tCB (rTupOf K) (tCons (tVar 1) (tNil))))))))

namespace RL
open KL (gn seq seq_inv)
/-! ### plain data: equal just if alike -/
mutual
def pl : PyData → Bool
  | .none => true
  | .int _ => true
  | .str _ => true
  | .tuple ds => plA ds
  | _ => false
def plA : List PyData → Bool
  | [] => true
  | d :: ds => pl d && plA ds
end
mutual
theorem eqv_pl : ∀ (d e : PyData), pl d = true → pl e = true → (PyData.eqv d e = true ↔ d = e)
  | .none, e, hd, he => by cases e <;> simp_all [PyData.eqv, pl]
  | .int i, e, hd, he => by cases e <;> simp_all [PyData.eqv, pl]
  | .str s, e, hd, he => by cases e <;> simp_all [PyData.eqv, pl]
  | .tuple ds, .tuple es, hd, he => by
    have := eqvA_pl ds es (by simpa [pl] using hd) (by simpa [pl] using he)
    simp only [PyData.eqv, PyData.tuple.injEq]
    exact this
  | .tuple ds, .none, hd, he => by simp [PyData.eqv]
  | .tuple ds, .int _, hd, he => by simp [PyData.eqv]
  | .tuple ds, .str _, hd, he => by simp [PyData.eqv]
  | .tuple ds, .bool _, hd, he => by simp [pl] at he
  | .tuple ds, .list _, hd, he => by simp [pl] at he
  | .tuple ds, .dict _, hd, he => by simp [pl] at he
  | .bool _, e, hd, he => by simp [pl] at hd
  | .list _, e, hd, he => by simp [pl] at hd
  | .dict _, e, hd, he => by simp [pl] at hd
theorem eqvA_pl : ∀ (ds es : List PyData), plA ds = true → plA es = true → (PyData.eqvAll ds es = true ↔ ds = es)
  | [], [], _, _ => by simp [PyData.eqvAll]
  | [], _ :: _, _, _ => by simp [PyData.eqvAll]
  | _ :: _, [], _, _ => by simp [PyData.eqvAll]
  | d :: ds, e :: es, hd, he => by
    obtain ⟨d1, d2⟩ := Bool.and_eq_true_iff.mp (show (pl d && plA ds) = true by simpa [plA] using hd)
    obtain ⟨e1, e2⟩ := Bool.and_eq_true_iff.mp (show (pl e && plA es) = true by simpa [plA] using he)
    have h1 := eqv_pl d e d1 e1
    have h2 := eqvA_pl ds es d2 e2
    simp only [PyData.eqvAll, Bool.and_eq_true, List.cons.injEq]
    rw [h1, h2]
end
theorem _root_.Lp.GoodTab.facts {ds : List PyData} (g : GoodTab ds) : pl (.tuple ds) = true ∧ (PyData.tuple ds).canLay0 = true ∧ (PyData.tuple ds).depth ≤ 2 := by
  obtain ⟨a, b, s, d, f, h, rfl, ⟨na, rfl, _⟩, ⟨nb, rfl, _⟩, hs, hd, ⟨nf, rfl, _⟩, ⟨nh, rfl, _⟩⟩ := g.ex
  have hs' : PyData.strOk s = true := by
    rcases Bool.or_eq_true_iff.mp hs with h | h <;> (rw [of_decide_eq_true h]; decide +kernel)
  rcases hd with ⟨nd, rfl, _⟩ | ⟨_, rfl⟩ <;> refine ⟨by simp [pl, plA], by simp [PyData.canLay0, PyData.canLayAll0, hs'], by simp [PyData.depth, PyData.depthAll]⟩
theorem tabs_facts : ∀ {ts : List (List PyData)}, (∀ t ∈ ts, GoodTab t) → plA (ts.map .tuple) = true ∧ PyData.canLayAll0 (ts.map .tuple) = true ∧ PyData.depthAll (ts.map .tuple) ≤ 2
  | [], _ => ⟨rfl, rfl, by simp [PyData.depthAll]⟩
  | t :: ts, h => by
    obtain ⟨a1, a2, a3⟩ := (h t List.mem_cons_self).facts
    obtain ⟨b1, b2, b3⟩ := tabs_facts (ts := ts) fun z hz => h z (List.mem_cons_of_mem _ hz)
    refine ⟨?_, ?_, ?_⟩
    · rw [List.map_cons]; simp only [plA, a1, b1, Bool.and_self]
    · rw [List.map_cons]; simp only [PyData.canLayAll0, a2, b2, Bool.and_self]
    · rw [List.map_cons]; simp only [PyData.depthAll]; omega
theorem tab_shaped {ts : List (List PyData)} (h : ∀ t ∈ ts, GoodTab t) : SeqAt.shaped (.tuple (ts.map .tuple)) = true ∧ pl (.tuple (ts.map .tuple)) = true := by
  obtain ⟨a, b, c⟩ := tabs_facts h
  refine ⟨Bool.and_eq_true_iff.mpr ⟨by simpa [PyData.canLay0] using b, decide_eq_true ?_⟩, by simpa [pl] using a⟩
  have : (PyData.tuple (ts.map .tuple)).depth = 1 + PyData.depthAll (ts.map .tuple) := by simp [PyData.depth]; try omega
  omega
theorem tup_inj {a b : List (List PyData)} (h : PyData.tuple (a.map .tuple) = .tuple (b.map .tuple)) : a = b := by
  injection h with h
  exact (List.map_inj_right (f := PyData.tuple) fun x y e => by injection e).mp h
/-! ### read_listing -/
structure ReadP (K : PySem.W.Frag) (C : Addr) (vs : List V) (H : Hp) (Q : VK) (E : XK) : Prop where
  ex : ∃ text : Str, vs = [.str text] ∧ text.length + 2 ≤ sizeLine ∧ (Txt.split text "\n").length ≤ 150000 ∧ (∀ c v H', readR text = some c → Tp K H' v (.tuple (c.map Fd.d)) → Same H H' → Q v H') ∧ (readR text = none → ∀ H', Same H H' → E (.ref C) none H')
def spRead (K : PySem.W.Frag) (C : Addr) : Sp := ReadP K C
theorem readS_ne {st st' : RSt} {l : Str} (h : readS st l = some st') : st'.2 ≠ [] := by
  unfold readS at h
  split at h
  · cases e : fnR st.2 with
    | none => rw [e] at h; cases h
    | some f =>
      rw [e] at h
      have h : some ((st.1 ++ [f], [l]) : RSt) = some st' := h
      injection h with h
      rw [← h]; simp
  · split at h
    · cases h
    · injection h with h
      rw [← h]; simp
theorem read_len {ls : List Str} {st st' : RSt} (h : ls.foldlM readS st = some st') : st'.1.length + st'.2.length ≤ st.1.length + st.2.length + ls.length ∧ (ls ≠ [] → st'.2 ≠ []) := by
  induction ls generalizing st with
  | nil =>
    have h : some st = some st' := h
    injection h with h
    rw [h]; simp
  | cons l ls ih =>
    rw [List.foldlM_cons] at h
    cases e : readS st l with
    | none => rw [e] at h; cases h
    | some s1 =>
      rw [e] at h
      obtain ⟨h1, h2⟩ := ih h
      have e1 : s1.1.length + s1.2.length ≤ st.1.length + st.2.length + 1 := by
        unfold readS at e
        split at e
        · rename_i hs
          have : st.2.length ≠ 0 := fun z => hs.2 (List.eq_nil_of_length_eq_zero z)
          cases q : fnR st.2 with
          | none => rw [q] at e; cases e
          | some t =>
            rw [q] at e
            have e : some ((st.1 ++ [t], [l]) : RSt) = some s1 := e
            injection e with e
            rw [← e, List.length_append]; simp; omega
        · split at e
          · cases e
          · injection e with e
            rw [← e, List.length_append]; simp; omega
      refine ⟨by rw [List.length_cons]; omega, fun _ => ?_⟩
      cases ls with
      | nil =>
        have h : some s1 = some st' := h
        injection h with h
        rw [← h]; exact readS_ne e
      | cons a b => exact h2 (by simp)
theorem st_lines {text : Str} {i : Nat} {st : RSt} (h : ((Txt.split text "\n").take i).foldlM readS ([], []) = some st) : ∀ l ∈ st.2, l ∈ Txt.split text "\n" := by
  have iv := read_inv (ls := []) ⟨rfl, fun f hf => (by cases hf), fun l hl => (by cases hl)⟩ h
  rw [List.nil_append] at iv
  intro l hl
  have : l ∈ (Txt.split text "\n").take i := by rw [iv.is]; exact List.mem_append_right _ hl
  exact List.mem_of_mem_take this
theorem fd_rows {f : Fd} {rs : List Rw} (h : f.rows = rs.map Rw.ds) : f.rows.map PyData.tuple = rs.map Rw.d := by
  rw [h, List.map_map]
  exact List.map_congr_left fun r _ => Rw.d_ds r
theorem tbs_d (ts : List Tb) : ts.map Tb.d = (ts.map Tb.ds).map PyData.tuple := by
  rw [List.map_map]; rfl
theorem fnR_len {ls : List Str} {f : Fd} (h : fnR ls = some f) : f.rows.length + f.tab.length ≤ ls.length := by
  cases ls with
  | nil => cases h
  | cons hd rest =>
    unfold fnR at h
    dsimp only at h
    cases em : headR (Txt.split hd " ") with
    | none => rw [em] at h; cases h
    | some m =>
      rw [em] at h
      have h : (rest.foldlM bodyS ([], [])).map (fun st => (⟨m, st.1, st.2⟩ : Fd)) = some f := h
      cases eb : rest.foldlM bodyS ([], []) with
      | none => rw [eb] at h; cases h
      | some st =>
        rw [eb] at h
        have h : some (⟨m, st.1, st.2⟩ : Fd) = some f := h
        injection h with h
        have := body_len eb
        rw [← h, List.length_cons]
        simp at this ⊢
        omega
theorem fd_len {f : Fd} : f.lines.length = 1 + (f.rows.length + f.tab.length) := by simp [Fd.lines]; omega
theorem mem_flat_len {c : List Fd} {f : Fd} (h : f ∈ c) : f.lines.length ≤ (c.flatMap Fd.lines).length := by
  induction c with
  | nil => cases h
  | cons g c ih =>
    rw [List.flatMap_cons, List.length_append]
    rcases List.mem_cons.mp h with rfl | h
    · omega
    · have := ih h
      omega
open Classical in
set_option maxHeartbeats 16000000 in
theorem rd_read_listing {K : PySem.W.Frag} {C : Addr} (vs : List V) (H : Hp) (Q : VK) (E : XK) (hh : spRead K C vs H Q E) : t_read_listing K (spFn K C) C (spTable (K := K)) E { nx := fun _ H' => Q .non H', rt := Q } (start ["text", "found", "lines", "line", "function"] vs) H := by
  obtain ⟨text, rfl, hz, few, q, e⟩ := hh.ex
  refine seq ⟨(by show 0 ≤ sizeLine; decide), fun pf hf => gn ?_⟩
  dsimp only
  show tSeq _ _ _ [some (V.str text), some (.ref pf), none, none, none] _
  have s1 : Same H (L2.upd H pf (.lst [])) := Same.new hf
  have hf1 : L2.upd H pf (.lst []) pf = some (.lst []) := upd_same
  have frf := hf
  generalize L2.upd H pf (.lst []) = H1 at s1 hf1 ⊢
  refine seq ⟨(by show 0 ≤ sizeLine; decide), fun pl0 hl0 => gn ?_⟩
  dsimp only
  show tSeq _ _ _ [some (V.str text), some (.ref pf), some (.ref pl0), none, none] _
  have s2 : Same H (L2.upd H1 pl0 (.lst [])) := s1.trans (Same.new hl0)
  have nfl : pl0 ≠ pf := Ne.symm (ne_of_none hf1 hl0)
  have hf2 : L2.upd H1 pl0 (.lst []) pf = some (.lst []) := by rw [upd_ne (Ne.symm nfl)]; exact hf1
  have hl2 : L2.upd H1 pl0 (.lst []) pl0 = some (.lst (([] : List Str).map V.str)) := upd_same
  have frl0 : H pl0 = none := same_none s1 hl0
  generalize L2.upd H1 pl0 (.lst []) = H2 at s2 hf2 hl2 ⊢
  have short : ∀ l ∈ Txt.split text "\n", l.length + 2 ≤ sizeLine := fun l hl => by
    have := part_short hl
    omega
  have e0 : readR0 text = ((Txt.split text "\n").foldlM readS ([], [])).bind fun st => (fnR st.2).map fun f => st.1 ++ [f] := rfl
  have bad0 : readR0 text = none → readR text = none := fun h => by unfold readR; rw [h]; rfl
  have ne : Txt.split text "\n" ≠ [] := by rw [nl_is]; exact split_ne text 10
  refine seq_inv (fun σ' H' => ∃ (v3 : Option V) (pl : Addr) (st : RSt) (fv : List V), σ' = [some (V.str text), some (.ref pf), some (.ref pl), v3, none] ∧ H' pf = some (.lst fv) ∧ H' pl = some (.lst (st.2.map V.str)) ∧ pl ≠ pf ∧ H pl = none ∧ TpAll K H' fv (st.1.map Fd.d) ∧ (Txt.split text "\n").foldlM readS ([], []) = some st ∧ Same H H') (fun nx hnx => ?_) ?_
  · refine ⟨_, rfl, ⟨_, rfl⟩, text, ("\n" : Str), rfl, rfl, by decide, hz, fun ps hps => ?_⟩
    have s3 : Same H (L2.upd H2 ps (.lst ((Txt.split text "\n").map V.str))) := s2.trans (Same.new hps)
    have hp3 : L2.upd H2 ps (.lst ((Txt.split text "\n").map V.str)) ps = some (.lst ((Txt.split text "\n").map V.str)) := upd_same
    have hf3 : L2.upd H2 ps (.lst ((Txt.split text "\n").map V.str)) pf = some (.lst []) := by rw [upd_ne (ne_of_none hf2 hps)]; exact hf2
    have hl3 : L2.upd H2 ps (.lst ((Txt.split text "\n").map V.str)) pl0 = some (.lst (([] : List Str).map V.str)) := by rw [upd_ne (ne_of_none hl2 hps)]; exact hl2
    have nsf : pf ≠ ps := ne_of_none hf2 hps
    have nsl : pl0 ≠ ps := ne_of_none hl2 hps
    generalize L2.upd H2 ps (.lst ((Txt.split text "\n").map V.str)) = H3 at s3 hp3 hf3 hl3 ⊢
    refine ⟨ps, rfl, ⟨_, SqL.of hp3⟩, for_list (K := K) (a := ps) (xs := (Txt.split text "\n").map V.str) (fun i σ' H' => ∃ (v3 : Option V) (pl : Addr) (st : RSt) (fv : List V), σ' = [some (V.str text), some (.ref pf), some (.ref pl), v3, none] ∧ H' pf = some (.lst fv) ∧ H' pl = some (.lst (st.2.map V.str)) ∧ pl ≠ pf ∧ pl ≠ ps ∧ H pl = none ∧ H' ps = some (.lst ((Txt.split text "\n").map V.str)) ∧ TpAll K H' fv (st.1.map Fd.d) ∧ ((Txt.split text "\n").take i).foldlM readS ([], []) = some st ∧ Same H H')
      ⟨none, pl0, ([], []), [], rfl, hf3, hl3, nfl, nsl, frl0, hp3, .nil, rfl, s3⟩ (fun i σ' H' _ ⟨_, _, _, _, _, _, _, _, _, _, h, _⟩ => SqL.of h) ?_ ?_⟩
    · rintro i x σ' H5 hx ⟨v3, pl, st, fv, rfl, hf5, hl5, nfl5, nsl5, frl5, hp5, tf, ef, s5⟩
      refine gn ?_
      rw [List.getElem?_map] at hx
      cases el : (Txt.split text "\n")[i]? with
      | none => rw [el] at hx; cases hx
      | some l =>
        rw [el] at hx
        obtain rfl : V.str l = x := Option.some.inj hx
        have hlm := List.mem_of_getElem? el
        have estep : ((Txt.split text "\n").take (i + 1)).foldlM readS ([], []) = readS st l := by rw [foldlM_take el, ef]; rfl
        have bad : readS st l = none → readR text = none := fun hb => bad0 (by rw [e0, foldlM_none (i := i + 1) (by rw [estep, hb])]; rfl)
        obtain ⟨blen, _⟩ := read_len ef
        rw [List.length_take] at blen
        have hi := (List.getElem?_eq_some_iff.mp el).1
        have lfv : fv.length < sizeLine := by
          have := tf.length
          rw [List.length_map] at this
          exact sz_lt1 (by simp at blen; omega)
        have llv : (st.2.map V.str).length < sizeLine := by
          rw [List.length_map]
          exact sz_lt1 (by simp at blen; omega)
        -- the line goes to the lines
        have addl : ∀ (H6 : Hp), Same H5 H6 → readS st l = some (st.1, st.2 ++ [l]) → tDrop (tBM K "list" rAppend (tVar 2) (tCons (tVar 3) (tNil))) { nx := fun σ' H' => ∃ (v3 : Option V) (pl : Addr) (st : RSt) (fv : List V), σ' = [some (V.str text), some (.ref pf), some (.ref pl), v3, none] ∧ H' pf = some (.lst fv) ∧ H' pl = some (.lst (st.2.map V.str)) ∧ pl ≠ pf ∧ pl ≠ ps ∧ H pl = none ∧ H' ps = some (.lst ((Txt.split text "\n").map V.str)) ∧ TpAll K H' fv (st.1.map Fd.d) ∧ ((Txt.split text "\n").take (i + 1)).foldlM readS ([], []) = some st ∧ Same H H', rt := Q } [some (V.str text), some (.ref pf), some (.ref pl), some (.str l), none] H6 := fun H6 s6 er => by
          refine ⟨_, rfl, .inl ⟨rfl, _, SqL.of (s6 _ _ hl5)⟩, _, rfl, pl, _, _, rfl, rfl, s6 _ _ hl5, llv, _, pl, (st.1, st.2 ++ [l]), fv, rfl, ?_, ?_, nfl5, nsl5, frl5, ?_, ?_, by rw [estep, er], ?_⟩
          · rw [upd_ne (Ne.symm nfl5)]; exact s6 _ _ hf5
          · rw [upd_same, List.map_append]; rfl
          · rw [upd_ne (Ne.symm nsl5)]; exact s6 _ _ hp5
          · exact (tf.mono (Tk.same s6)).mono (Tk.lst (s6 _ _ hl5))
          · exact fun b o eb => by rw [upd_ne (ne_of_none eb frl5)]; exact s6 _ _ (s5 _ _ eb)
        have pS : ∀ G, PB (tB (tM1 rStarts (tVar 3) (tC (.str "function ")))) [some (V.str text), some (.ref pf), some (.ref pl), some (.str l), none] G (Txt.startswith l "function ") := fun G Q' q' => ⟨_, rfl, ⟨_, rfl⟩, _, _, rfl, rfl, _, rfl, q'⟩
        have emp : (st.2.map V.str).isEmpty = true ↔ st.2 = [] := by rw [List.isEmpty_iff, List.map_eq_nil_iff]
        refine seq ?_
        refine pS _ _ ?_
        refine ifP (fun hu => ?_) (fun hu => ?_)
        · refine ⟨_, rfl, (by show 0 ≤ sizeLine; decide), fun pe he => ⟨pl, pe, _, rfl, rfl, SqL.of (by rw [upd_ne (ne_of_none hl5 he)]; exact hl5), SqL.of upd_same, _, rfl, ?_⟩⟩
          have s6 : Same H5 (L2.upd H5 pe (.lst [])) := Same.new he
          generalize L2.upd H5 pe (.lst []) = H6 at s6 ⊢
          refine ifP (fun h0 => ?_) (fun h0 => ?_)
          · have h2 : st.2 ≠ [] := fun h => by rw [emp.mpr h] at h0; cases h0
            have hl6 := s6 _ _ hl5
            have hf6 := s6 _ _ hf5
            have hS6 : SqL K H6 pl (st.2.map V.str) := SqL.of hl6
            refine seq ⟨_, rfl, .inl ⟨rfl, _, SqL.of hf6⟩, _, rfl, ⟨pl, st.2, rfl, hS6, h2, by simp at blen; omega, fun z hz' => short z (st_lines ef z hz'), fun f v H7 hfn tv7 s7 => ?_, fun hn H7 s7 => ?_⟩⟩
            · have er : readS st l = some (st.1 ++ [f], [l]) := by unfold readS; rw [if_pos ⟨hu, h2⟩, hfn]; rfl
              have s67 := s6.trans s7
              have hf7 := s7 _ _ hf6
              refine ⟨pf, _, v, rfl, rfl, hf7, lfv, ?_⟩
              have tf8 : TpAll K (L2.upd H7 pf (.lst (fv ++ [v]))) (fv ++ [v]) (st.1.map Fd.d ++ [f.d]) := app_tp (σ := []) hf5 tf s67 tv7
              have hf8 : L2.upd H7 pf (.lst (fv ++ [v])) pf = some (.lst (fv ++ [v])) := upd_same
              have hp8 : L2.upd H7 pf (.lst (fv ++ [v])) ps = some (.lst ((Txt.split text "\n").map V.str)) := by rw [upd_ne (Ne.symm nsf)]; exact s67 _ _ hp5
              have s8 : Same H (L2.upd H7 pf (.lst (fv ++ [v]))) := fun b o eb => by rw [upd_ne (ne_of_none eb frf)]; exact s67 _ _ (s5 _ _ eb)
              generalize L2.upd H7 pf (.lst (fv ++ [v])) = H8 at tf8 hf8 hp8 s8 ⊢
              refine ⟨(by show 0 ≤ sizeLine; decide), fun pn hn => gn ?_⟩
              dsimp only
              have frn : H pn = none := same_none s8 hn
              have nfn : pn ≠ pf := Ne.symm (ne_of_none hf8 hn)
              have nsn : pn ≠ ps := Ne.symm (ne_of_none hp8 hn)
              refine ⟨_, rfl, .inl ⟨rfl, _, SqL.of upd_same⟩, _, rfl, pn, _, _, rfl, rfl, upd_same, (by show 0 < sizeLine; decide), ?_⟩
              refine ⟨_, pn, (st.1 ++ [f], [l]), fv ++ [v], rfl, ?_, upd_same, nfn, nsn, frn, ?_, ?_, by rw [estep, er], ?_⟩
              · rw [upd_ne (Ne.symm nfn), upd_ne (Ne.symm nfn)]; exact hf8
              · rw [upd_ne (Ne.symm nsn), upd_ne (Ne.symm nsn)]; exact hp8
              · rw [List.map_append]
                exact (tf8.mono (Tk.new hn)).mono (Tk.lst upd_same)
              · exact fun b o eb => by rw [upd_ne (ne_of_none eb frn), upd_ne (ne_of_none eb frn)]; exact s8 _ _ eb
            · exact e (bad (by unfold readS; rw [if_pos ⟨hu, h2⟩, hn]; rfl)) _ ((s5.trans s6).trans s7)
          · have h2 : st.2 = [] := emp.mp (by cases h : (st.2.map V.str).isEmpty with
              | true => rfl
              | false => rw [h] at h0; cases h0)
            refine ⟨_, rfl, (by show 0 ≤ sizeLine; decide), fun pe2 he2 => ⟨pl, pe2, _, rfl, rfl, SqL.of (by rw [upd_ne (ne_of_none (s6 _ _ hl5) he2)]; exact s6 _ _ hl5), SqL.of upd_same, _, rfl, ?_⟩⟩
            have s7 : Same H5 (L2.upd H6 pe2 (.lst [])) := s6.trans (Same.new he2)
            generalize L2.upd H6 pe2 (.lst []) = H7 at s7 ⊢
            refine ifT (emp.mpr h2) ?_
            refine pS _ _ ?_
            rw [hu]
            refine ifF rfl ?_
            exact addl _ s7 (by unfold readS; rw [if_neg (by simp [h2]), if_neg (by rw [hu]; simp)])
        · refine ifF rfl ?_
          refine ⟨_, rfl, (by show 0 ≤ sizeLine; decide), fun pe he => ⟨pl, pe, _, rfl, rfl, SqL.of (by rw [upd_ne (ne_of_none hl5 he)]; exact hl5), SqL.of upd_same, _, rfl, ?_⟩⟩
          have s6 : Same H5 (L2.upd H5 pe (.lst [])) := Same.new he
          generalize L2.upd H5 pe (.lst []) = H6 at s6 ⊢
          refine ifP (fun h0 => ?_) (fun h0 => ?_)
          · refine pS _ _ ?_
            rw [hu]
            refine ifT rfl ?_
            exact e (bad (by unfold readS; rw [if_neg (by rw [hu]; simp), if_pos ⟨emp.mp h0, hu⟩])) _ (s5.trans s6)
          · have h2 : st.2 ≠ [] := fun h => by rw [emp.mpr h] at h0; cases h0
            refine ifF rfl ?_
            exact addl _ s6 (by unfold readS; rw [if_neg (by rw [hu]; simp), if_neg (by simp [h2])])
    · rintro σ' H5 ⟨v3, pl, st, fv, rfl, hf5, hl5, nfl5, _, frl5, _, tf, ef, s5⟩
      rw [List.take_of_length_le (by rw [List.length_map]; exact Nat.le_refl _)] at ef
      exact hnx _ _ ⟨v3, pl, st, fv, rfl, hf5, hl5, nfl5, frl5, tf, ef, s5⟩
  rintro _ H5 ⟨v3, pl, st, fv, rfl, hf5, hl5, nfl5, frl5, tf, ef, s5⟩
  obtain ⟨blen, bne⟩ := read_len ef
  have bne := bne ne
  simp only [List.length_nil, Nat.zero_add, Nat.add_zero] at blen
  have iv := read_inv (ls := []) ⟨rfl, fun f hf => (by cases hf), fun l hl => (by cases hl)⟩ ef
  rw [List.nil_append] at iv
  have lfv : fv.length < sizeLine := by
    have := tf.length
    rw [List.length_map] at this
    exact sz_lt1 (by omega)
  have ef' : ((Txt.split text "\n").take (Txt.split text "\n").length).foldlM readS ([], []) = some st := by rw [List.take_length]; exact ef
  refine seq ⟨_, rfl, .inl ⟨rfl, _, SqL.of hf5⟩, _, rfl, ⟨pl, st.2, rfl, SqL.of hl5, bne, by omega, fun z hz' => short z (st_lines ef' z hz'), fun f v H7 hfn tv7 s7 => ?_, fun hn H7 s7 => ?_⟩⟩
  · have hf7 := s7 _ _ hf5
    have ec : readR0 text = some (st.1 ++ [f]) := by rw [e0, ef]; show (fnR st.2).map _ = _; rw [hfn]; rfl
    have good : ∀ g ∈ st.1 ++ [f], GoodFd g := fun g hg => by
      rcases List.mem_append.mp hg with hg | hg
      · exact iv.good g hg
      · rw [List.mem_singleton.mp hg]; exact (fn_out iv.first hfn).1
    have small : ∀ g ∈ st.1 ++ [f], g.rows.length ≤ 150000 := fun g hg => by
      have hl := congrArg List.length iv.is
      rw [List.length_append] at hl
      rcases List.mem_append.mp hg with hg | hg
      · have h1 := mem_flat_len hg
        have h2 := fd_len (f := g)
        omega
      · rw [List.mem_singleton.mp hg]
        have := fnR_len hfn
        omega
    refine ⟨pf, _, v, rfl, rfl, hf7, lfv, ?_⟩
    have tf8 : TpAll K (L2.upd H7 pf (.lst (fv ++ [v]))) (fv ++ [v]) ((st.1 ++ [f]).map Fd.d) := by
      rw [List.map_append]
      exact app_tp (σ := []) hf5 tf s7 tv7
    have hf8 : L2.upd H7 pf (.lst (fv ++ [v])) pf = some (.lst (fv ++ [v])) := upd_same
    have s8 : Same H (L2.upd H7 pf (.lst (fv ++ [v]))) := fun b o eb => by rw [upd_ne (ne_of_none eb frf)]; exact s7 _ _ (s5 _ _ eb)
    generalize L2.upd H7 pf (.lst (fv ++ [v])) = H8 at tf8 hf8 s8 ⊢
    generalize hfv : fv ++ [v] = gv at tf8 hf8
    generalize hc0 : st.1 ++ [f] = c0 at ec good small tf8
    have lc : gv.length = c0.length := by rw [tf8.length, List.length_map]
    dsimp only
    show tSeq _ _ _ [some (V.str text), some (.ref pf), some (.ref pl), v3, none] _
    refine seq_inv (fun σ' H' => ∃ v4, σ' = [some (V.str text), some (.ref pf), some (.ref pl), v3, v4] ∧ H' pf = some (.lst gv) ∧ TpAll K H' gv (c0.map Fd.d) ∧ (∀ g ∈ c0, g.tab = tableOf g.rows) ∧ Same H H') (fun nx hnx => ?_) ?_
    · refine ⟨_, rfl, pf, rfl, ⟨_, SqL.of hf8⟩, for_list (K := K) (a := pf) (xs := gv) (fun i σ' H' => ∃ v4, σ' = [some (V.str text), some (.ref pf), some (.ref pl), v3, v4] ∧ H' pf = some (.lst gv) ∧ TpAll K H' gv (c0.map Fd.d) ∧ (∀ g ∈ c0.take i, g.tab = tableOf g.rows) ∧ Same H H')
        ⟨_, rfl, hf8, tf8, fun g hg => (by cases hg), s8⟩ (fun i σ' H' _ ⟨_, _, h, _⟩ => SqL.of h) ?_ ?_⟩
      · rintro i x σ' H9 hx ⟨v4, rfl, hf9, tf9, hok, s9⟩
        refine gn ?_
        have hi := (List.getElem?_eq_some_iff.mp hx).1
        have eg : c0[i]? = some c0[i] := List.getElem?_eq_getElem (by omega)
        have hgm : c0[i] ∈ c0 := List.getElem_mem (by omega)
        obtain ⟨d, hd, td⟩ := tf9.get hx
        rw [List.getElem?_map, eg] at hd
        have hd : some (c0[i]).d = some d := hd
        injection hd with hd
        subst hd
        have gg := good _ hgm
        have sm := small _ hgm
        have etake : c0.take (i + 1) = c0.take i ++ [c0[i]] := by rw [List.take_succ, eg]; rfl
        generalize c0[i] = g at eg hgm td gg sm etake
        obtain ⟨ga, y0, y1, y2, rfl, hG, t0, t1, t2⟩ := (show Tp K H9 x (.tuple [.int g.many, .tuple (g.rows.map .tuple), .tuple (g.tab.map .tuple)]) from td).tup3
        obtain ⟨rs, ers, hrs⟩ := rows_rw gg.rows
        have lrs : rs.length ≤ 150000 := by rw [ers, List.length_map] at sm; exact sm
        rw [fd_rows ers] at t1
        have tgood := tables_good hrs (by omega)
        refine ⟨_, rfl, ga, _, ((2 : Nat) : Int), y2, rfl, rfl, hG, atI_nat rfl, ?_⟩
        refine ⟨_, rfl, ga, _, ((1 : Nat) : Int), y1, rfl, rfl, hG, atI_nat rfl, y1, rs, rfl, t1, by omega, fun tv H10 tt s10 => ?_⟩
        rw [tbs_d] at tt
        obtain ⟨sh1, pl1⟩ := tab_shaped gg.tab
        obtain ⟨sh2, pl2⟩ := tab_shaped tgood
        refine ⟨_, _, (t2.mono (Tk.same s10)).dp, tt.dp, sh1, sh2, _, rfl, ?_⟩
        have heq := eqv_pl _ _ pl1 pl2
        refine ifP (fun h0 => ?_) (fun h0 => ?_)
        · refine e ?_ _ (s9.trans s10)
          unfold readR
          rw [ec]
          show (if _ then _ else _) = _
          rw [if_neg]
          intro hall
          have h1 := hall g hgm
          rw [ers, tableOf_is] at h1
          rw [heq.mpr (by rw [h1])] at h0
          cases h0
        · have h1 : g.tab = tableOf g.rows := by
            rw [ers, tableOf_is]
            refine tup_inj (heq.mp ?_)
            cases h : PyData.eqv (PyData.tuple (g.tab.map .tuple)) (.tuple (((tabAt 0 rs).map Tb.ds).map .tuple)) with
            | true => rfl
            | false => rw [h] at h0; cases h0
          refine ⟨_, rfl, s10 _ _ hf9, tf9.mono (Tk.same s10), fun z hz' => ?_, s9.trans s10⟩
          rw [etake] at hz'
          rcases List.mem_append.mp hz' with hz' | hz'
          · exact hok z hz'
          · rw [List.mem_singleton.mp hz']; exact h1
      · rintro σ' H9 ⟨v4, rfl, hf9, tf9, hok, s9⟩
        rw [List.take_of_length_le (by omega)] at hok
        exact hnx _ _ ⟨v4, rfl, hf9, tf9, hok, s9⟩
    · rintro _ H9 ⟨v4, rfl, hf9, tf9, hok, s9⟩
      have eR : readR text = some c0 := by
        unfold readR
        rw [ec]
        show (if _ then _ else _) = _
        rw [if_pos hok]
      refine ⟨_, rfl, pf, _, rfl, .inl ⟨SqL.of hf9, fun p6 hp6 => ?_⟩⟩
      exact q _ _ _ eR (Tp.mk hp6 tf9) (s9.trans (Same.new hp6))
  · exact e (bad0 (by rw [e0, ef]; show (fnR st.2).map _ = _; rw [hn]; rfl)) _ (s5.trans s7)
end RL
end Lp

/-! LyU: the law's words, its free rows. -/
namespace Lp
open PySem PySem.Spec PyProof.Rows L2
def t_law_words (K : PySem.W.Frag) : TS :=
  tSeq (tAsg (tDisp [(tC (.str "num"), tC (.int 1)), (tC (.str "var"), tC (.int 1)), (tC (.str "add"), tC (.int 0)), (tC (.str "sub"), tC (.int 0)), (tC (.str "mul"), tC (.int 0)), (tC (.str "less"), tC (.int 0)), (tC (.str "say"), tC (.int 0)), (tC (.str "set"), tC (.int 1))]) (gName 0)) (tSeq (tAsg (tDisp [(tC (.str "unless"), tC (.int 1)), (tC (.str "go"), tC (.int 1)), (tC (.str "turn"), tC (.int 0)), (tC (.str "leap"), tC (.int 2)), (tC (.str "return"), tC (.int 0)), (tC (.str "raise"), tC (.int 2)), (tC (.str "again"), tC (.int 0)), (tC (.str "call"), tC (.int 3))]) (gName 1)) (tSeq (tDrop (tDUpd (tVar 0) (tVar 1))) (tSeq (tDrop (tDUpd (tVar 0) (tDisp [(tC (.str "handler"), tC (.int 4)), (tC (.str "settled"), tC (.int 0)), (tC (.str "mend"), tC (.int 0)), (tC (.str "cleanup"), tC (.int 3)), (tC (.str "resume"), tC (.int 0))]))) (tRet (tVar 0)))))

def t_law_free_rows (K : PySem.W.Frag) (sp_law_words : Sp) (sp_law_take : Sp) : TS :=
  tSeq (tAsg (tCall sp_law_words [] E0 tNil) (gName 2)) (tSeq (tAsg (tCB rSortD (tCons (tVar 2) (tNil))) (gName 3)) (tSeq (tAsg (tLst (tNil)) (gName 4)) (tSeq (tFor (iRng1 (tCons (tCall sp_law_take [] E0 (tCons (tVar 0) (tCons (tC (.int 8)) (tNil)))) (tNil))) (gName 5) (tSeq (tAsg (tOp (rIxL K) (tVar 3) (tCall sp_law_take [] E0 (tCons (tVar 0) (tCons (tCB (rLenQ K) (tCons (tVar 3) (tNil))) (tNil))))) (gName 6)) (tSeq (tAsg (tLc (iRng1 (tCons (tDGet (tVar 2) (tVar 6)) (tNil))) (gName 8) (tYes) (tOp (rIxL K) (tLst (tCons (tCall sp_law_take [] E0 (tCons (tVar 0) (tCons (tC (.int 9)) (tNil)))) (tCons (tCall sp_law_take [] E0 (tCons (tVar 0) (tCons (tVar 1) (tNil)))) (tNil)))) (tCall sp_law_take [] E0 (tCons (tVar 0) (tCons (tC (.int 2)) (tNil))))) [8]) (gName 7)) (tSeq (tIfS (tAnd (tTest (tOp rEq (tVar 6) (tC (.str "handler")))) (tTest (tOp rEq (tCall sp_law_take [] E0 (tCons (tVar 0) (tCons (tC (.int 2)) (tNil)))) (tC (.int 1))))) (tAsg (tC .non) (gSub (tVar 7) (tC (.int 2)) rSetL)) (tNext)) (tDrop (tBM K "list" rAppend (tVar 4) (tCons (tCB (rTupOf K) (tCons (tOp rCat (tLst (tCons (tVar 6) (tNil))) (tVar 7)) (tNil))) (tNil)))))))) (tRet (tCB (rTupOf K) (tCons (tVar 4) (tNil)))))))

namespace RL
open KL (gn seq seq_inv)
/-! ### free rows: words with drawn numbers from nought to N -/
def FInt (N : Int) (d : PyData) : Prop := ∃ n : Int, d = .int n ∧ 0 ≤ n ∧ n ≤ N
def FArg (N : Int) (b : Bool) (d : PyData) : Prop := FInt N d ∨ (b = true ∧ d = .none)
def FArgs (N : Int) (h : Bool) : Nat → List PyData → Prop
  | _, [] => True
  | k, d :: ds => FArg N (h && k == 3) d ∧ FArgs N h (k + 1) ds
structure FreeRow (N : Int) (ds : List PyData) : Prop where
  ex : ∃ w args, ds = .str w :: args ∧ ary w = some args.length ∧ FArgs N (isHand w) 1 args
theorem fga_int {N : Int} {k : Nat} {d : PyData} (h : FArg N (false && k == 3) d) : FInt N d := by
  rcases h with h | ⟨h, _⟩
  · exact h
  · cases h
theorem fargs0 {N : Int} {h : Bool} {k : Nat} {ds : List PyData} (g : FArgs N h k ds) (l : 0 = ds.length) : ds = [] := List.eq_nil_of_length_eq_zero l.symm
theorem fargs1 {N : Int} {k : Nat} {ds : List PyData} (g : FArgs N false k ds) (l : 1 = ds.length) : ∃ m : Nat, ds = [.int (m : Int)] ∧ In0 N (m : Int) := by
  match ds, l, g with
  | [a], _, g =>
    obtain ⟨n, rfl, h0, h1⟩ := fga_int g.1
    obtain ⟨m, rfl⟩ := nat_of h0
    exact ⟨m, rfl, h0, h1⟩
theorem fargs2 {N : Int} {k : Nat} {ds : List PyData} (g : FArgs N false k ds) (l : 2 = ds.length) : ∃ m m2 : Nat, ds = [.int (m : Int), .int (m2 : Int)] ∧ In0 N (m : Int) ∧ In0 N (m2 : Int) := by
  match ds, l, g with
  | [a, b], _, g =>
    obtain ⟨n, rfl, h0, h1⟩ := fga_int g.1
    obtain ⟨m, rfl⟩ := nat_of h0
    obtain ⟨n2, rfl, h02, h12⟩ := fga_int g.2.1
    obtain ⟨m2, rfl⟩ := nat_of h02
    exact ⟨m, m2, rfl, ⟨h0, h1⟩, ⟨h02, h12⟩⟩
theorem fargs3 {N : Int} {k : Nat} {ds : List PyData} (g : FArgs N false k ds) (l : 3 = ds.length) : ∃ m m2 m3 : Nat, ds = [.int (m : Int), .int (m2 : Int), .int (m3 : Int)] ∧ In0 N (m : Int) ∧ In0 N (m2 : Int) ∧ In0 N (m3 : Int) := by
  match ds, l, g with
  | [a, b, c], _, g =>
    obtain ⟨n, rfl, h0, h1⟩ := fga_int g.1
    obtain ⟨m, rfl⟩ := nat_of h0
    obtain ⟨n2, rfl, h02, h12⟩ := fga_int g.2.1
    obtain ⟨m2, rfl⟩ := nat_of h02
    obtain ⟨n3, rfl, h03, h13⟩ := fga_int g.2.2.1
    obtain ⟨m3, rfl⟩ := nat_of h03
    exact ⟨m, m2, m3, rfl, ⟨h0, h1⟩, ⟨h02, h12⟩, ⟨h03, h13⟩⟩
theorem fargsH {N : Int} {ds : List PyData} (g : FArgs N true 1 ds) (l : 4 = ds.length) : ∃ (m m2 : Nat) (k : Option Nat) (m4 : Nat), ds = [.int (m : Int), .int (m2 : Int), kindD k, .int (m4 : Int)] ∧ In0 N (m : Int) ∧ In0 N (m2 : Int) ∧ (∀ j, k = some j → In0 N (j : Int)) ∧ In0 N (m4 : Int) := by
  match ds, l, g with
  | [a, b, c, d], _, g =>
    obtain ⟨n, rfl, h0, h1⟩ := fga_int (k := 1) g.1
    obtain ⟨m, rfl⟩ := nat_of h0
    obtain ⟨n2, rfl, h02, h12⟩ := fga_int (k := 1) g.2.1
    obtain ⟨m2, rfl⟩ := nat_of h02
    obtain ⟨n4, rfl, h04, h14⟩ := fga_int (k := 1) g.2.2.2.1
    obtain ⟨m4, rfl⟩ := nat_of h04
    rcases (show FArg N true c from g.2.2.1) with ⟨n3, rfl, h03, h13⟩ | ⟨_, rfl⟩
    · obtain ⟨m3, rfl⟩ := nat_of h03
      exact ⟨m, m2, some m3, m4, rfl, ⟨h0, h1⟩, ⟨h02, h12⟩, fun j e => (by cases e; exact ⟨h03, h13⟩), ⟨h04, h14⟩⟩
    · exact ⟨m, m2, none, m4, rfl, ⟨h0, h1⟩, ⟨h02, h12⟩, fun j e => (by cases e), ⟨h04, h14⟩⟩
theorem free_rw {N : Int} {ds : List PyData} (g : FreeRow N ds) : ∃ r : Rw, r.ds = ds ∧ r.Nm N := by
  obtain ⟨w, args, rfl, ha, hg⟩ := g.ex
  have hm := ary_mem ha
  simp only [rowsT, List.mem_cons, List.not_mem_nil, or_false, Prod.mk.injEq] at hm
  rcases hm with ⟨rfl, l⟩ | ⟨rfl, l⟩ | ⟨rfl, l⟩ | ⟨rfl, l⟩ | ⟨rfl, l⟩ | ⟨rfl, l⟩ | ⟨rfl, l⟩ | ⟨rfl, l⟩ | ⟨rfl, l⟩ | ⟨rfl, l⟩ | ⟨rfl, l⟩ | ⟨rfl, l⟩ | ⟨rfl, l⟩ | ⟨rfl, l⟩ | ⟨rfl, l⟩ | ⟨rfl, l⟩ | ⟨rfl, l⟩ | ⟨rfl, l⟩ | ⟨rfl, l⟩ | ⟨rfl, l⟩ | ⟨rfl, l⟩
  · obtain ⟨m, rfl, h⟩ := fargs1 hg l.symm; exact ⟨.num m, rfl, h⟩
  · obtain ⟨m, rfl, h⟩ := fargs1 hg l.symm; exact ⟨.var m, rfl, h⟩
  · cases fargs0 hg l.symm; exact ⟨.op .add, rfl, trivial⟩
  · cases fargs0 hg l.symm; exact ⟨.op .sub, rfl, trivial⟩
  · cases fargs0 hg l.symm; exact ⟨.op .mul, rfl, trivial⟩
  · cases fargs0 hg l.symm; exact ⟨.op .less, rfl, trivial⟩
  · cases fargs0 hg l.symm; exact ⟨.say, rfl, trivial⟩
  · obtain ⟨m, rfl, h⟩ := fargs1 hg l.symm; exact ⟨.set m, rfl, h⟩
  · obtain ⟨m, rfl, h⟩ := fargs1 hg l.symm; exact ⟨.«unless» m, rfl, h⟩
  · obtain ⟨m, rfl, h⟩ := fargs1 hg l.symm; exact ⟨.go m, rfl, h⟩
  · cases fargs0 hg l.symm; exact ⟨.turn, rfl, trivial⟩
  · obtain ⟨m, m2, rfl, h, h2⟩ := fargs2 hg l.symm; exact ⟨.leap m m2, rfl, h, h2⟩
  · cases fargs0 hg l.symm; exact ⟨.ret, rfl, trivial⟩
  · obtain ⟨m, m2, rfl, h, h2⟩ := fargs2 hg l.symm; exact ⟨.rais m m2, rfl, h, h2⟩
  · cases fargs0 hg l.symm; exact ⟨.again, rfl, trivial⟩
  · obtain ⟨m, m2, m3, rfl, h, h2, h3⟩ := fargs3 hg l.symm; exact ⟨.call m m2 m3, rfl, h, h2, h3⟩
  · obtain ⟨m, m2, k, m4, rfl, h, h2, h3, h4⟩ := fargsH hg l.symm; exact ⟨.hand m m2 k m4, rfl, h, h2, h3, h4⟩
  · cases fargs0 hg l.symm; exact ⟨.settled, rfl, trivial⟩
  · cases fargs0 hg l.symm; exact ⟨.mend, rfl, trivial⟩
  · obtain ⟨m, m2, m3, rfl, h, h2, h3⟩ := fargs3 hg l.symm; exact ⟨.cup m m2 m3, rfl, h, h2, h3⟩
  · cases fargs0 hg l.symm; exact ⟨.resume, rfl, trivial⟩

theorem fargs_ints {N : Int} {h : Bool} : ∀ {k : Nat} {us : List Int}, (∀ x ∈ us, 0 ≤ x ∧ x ≤ N) → FArgs N h k (us.map .int)
  | _, [], _ => trivial
  | k, x :: us, g => ⟨.inl ⟨x, rfl, g x List.mem_cons_self⟩, fargs_ints fun y hy => g y (List.mem_cons_of_mem _ hy)⟩
/-! ### the law's words -/
def rowsK : List (Key × V) := rowsT.map fun q => (Sum.inr q.1, V.int (q.2 : Int))
structure WordsP (K : PySem.W.Frag) (vs : List V) (H : Hp) (Q : VK) : Prop where
  ex : vs = [] ∧ ∀ (a : Addr) (H' : Hp), H a = none → H' a = some (.dK rowsK) → Same H H' → Q (.ref a) H'
def spWords (K : PySem.W.Frag) : Sp := fun vs H Q _ => WordsP K vs H Q
def wk (l : List (Str × Nat)) : List (Key × V) := l.map fun q => (Sum.inr q.1, V.int (q.2 : Int))
theorem put_wk {l : List (Str × Nat)} {w : Str} {n : Nat} (h : w ∉ l.map (·.1)) : putK (wk l) (Sum.inr w) (V.int (n : Int)) = wk (l ++ [(w, n)]) := by
  unfold putK
  rw [if_neg]
  · unfold wk; rw [List.map_append]; rfl
  · intro hh
    obtain ⟨q, hq, e⟩ := List.any_eq_true.mp hh
    obtain ⟨z, hz, rfl⟩ := List.mem_map.mp hq
    have e := of_decide_eq_true e
    have e : (Sum.inr z.1 : Key) = Sum.inr w := e
    injection e with e
    exact h (List.mem_map.mpr ⟨z, hz, e⟩)
theorem merge_wk : ∀ {m l : List (Str × Nat)}, ((l ++ m).map (·.1)).Nodup → mergeK (wk l) (wk m) = wk (l ++ m)
  | [], l, _ => by rw [List.append_nil]; rfl
  | q :: m, l, h => by
    show mergeK (putK (wk l) (Sum.inr q.1) (V.int (q.2 : Int))) (wk m) = _
    have hq : q.1 ∉ l.map (·.1) := by
      rw [List.map_append, List.map_cons] at h
      have := (List.nodup_append.mp h).2.2
      intro hm
      exact this q.1 hm q.1 List.mem_cons_self rfl
    rw [put_wk hq, show ((q.1, q.2) : Str × Nat) = q from rfl, merge_wk (by rw [List.append_assoc]; exact h), List.append_assoc]; rfl
abbrev W1 : List (Str × Nat) := [("num", 1), ("var", 1), ("add", 0), ("sub", 0), ("mul", 0), ("less", 0), ("say", 0), ("set", 1)]
abbrev W2 : List (Str × Nat) := [("unless", 1), ("go", 1), ("turn", 0), ("leap", 2), ("return", 0), ("raise", 2), ("again", 0), ("call", 3)]
abbrev W3 : List (Str × Nat) := [("handler", 4), ("settled", 0), ("mend", 0), ("cleanup", 3), ("resume", 0)]
theorem rd_law_words {K : PySem.W.Frag} (vs : List V) (H : Hp) (Q : VK) (E : XK) (hh : spWords K vs H Q E) : t_law_words K { nx := fun _ H' => Q .non H', rt := Q } (start ["_law_words_here", "_law_more"] vs) H := by
  obtain ⟨rfl, q⟩ := hh.ex
  refine seq ?_
  intro p hp
  refine ⟨upd_same, wk W1, rfl, (by decide), gn ?_⟩
  dsimp only
  show tSeq _ _ _ [some (V.ref p), none] _
  rw [show mergeK [] (wk W1) = wk W1 from merge_wk (l := []) (by decide +kernel)]
  have s1 : Same H (L2.upd (L2.upd H p (.dK [])) p (.dK (wk W1))) := fun b o e => by rw [upd_ne (ne_of_none e hp), upd_ne (ne_of_none e hp)]; exact e
  have hp1 : L2.upd (L2.upd H p (.dK [])) p (.dK (wk W1)) p = some (.dK (wk W1)) := upd_same
  generalize L2.upd (L2.upd H p (.dK [])) p (.dK (wk W1)) = H1 at s1 hp1 ⊢
  refine seq ?_
  intro p2 hp2
  refine ⟨upd_same, wk W2, rfl, (by decide), gn ?_⟩
  dsimp only
  show tSeq _ _ _ [some (V.ref p), some (.ref p2)] _
  rw [show mergeK [] (wk W2) = wk W2 from merge_wk (l := []) (by decide +kernel)]
  have n12 : p ≠ p2 := ne_of_none hp1 hp2
  have s2 : Same H (L2.upd (L2.upd H1 p2 (.dK [])) p2 (.dK (wk W2))) := fun b o e => by rw [upd_ne (ne_of_none (s1 _ _ e) hp2), upd_ne (ne_of_none (s1 _ _ e) hp2)]; exact s1 _ _ e
  have hq1 : L2.upd (L2.upd H1 p2 (.dK [])) p2 (.dK (wk W2)) p = some (.dK (wk W1)) := by rw [upd_ne n12, upd_ne n12]; exact hp1
  have hq2 : L2.upd (L2.upd H1 p2 (.dK [])) p2 (.dK (wk W2)) p2 = some (.dK (wk W2)) := upd_same
  generalize L2.upd (L2.upd H1 p2 (.dK [])) p2 (.dK (wk W2)) = H2 at s2 hq1 hq2 ⊢
  refine seq ⟨_, rfl, p, rfl, .inl ⟨_, .inl hq1⟩, _, rfl, p2, _, _, rfl, n12, hq1, hq2, (by decide), ?_⟩
  dsimp only
  rw [merge_wk (by decide +kernel)]
  have s3 : Same H (L2.upd H2 p (.dK (wk (W1 ++ W2)))) := fun b o e => by rw [upd_ne (ne_of_none e hp)]; exact s2 _ _ e
  have hr1 : L2.upd H2 p (.dK (wk (W1 ++ W2))) p = some (.dK (wk (W1 ++ W2))) := upd_same
  generalize L2.upd H2 p (.dK (wk (W1 ++ W2))) = H3 at s3 hr1 ⊢
  show tSeq _ _ _ [some (V.ref p), some (.ref p2)] _
  refine seq ⟨_, rfl, p, rfl, .inl ⟨_, .inl hr1⟩, ?_⟩
  intro p3 hp3
  have n13 : p ≠ p3 := ne_of_none hr1 hp3
  refine ⟨upd_same, wk W3, rfl, (by decide), p3, _, _, rfl, n13, (by rw [upd_ne n13, upd_ne n13]; exact hr1), upd_same, (by decide), ?_⟩
  dsimp only
  refine ⟨_, rfl, q p _ hp ?_ ?_⟩
  · rw [show mergeK [] (wk W3) = wk W3 from merge_wk (l := []) (by decide +kernel), merge_wk (by decide +kernel), upd_same]
    rfl
  · exact fun b o e => by rw [upd_ne (ne_of_none e hp), upd_ne (ne_of_none (s3 _ _ e) hp3), upd_ne (ne_of_none (s3 _ _ e) hp3)]; exact s3 _ _ e
end RL
end Lp

/-! LyV: the reading of the law's free rows. -/
namespace Lp
open PySem PySem.Spec PyProof.Rows L2
namespace RL
open KL (gn seq seq_inv)
structure FreeP (K : PySem.W.Frag) (vs : List V) (H : Hp) (Q : VK) : Prop where
  ex : ∃ (b : Addr) (l : List Int) (most : Int), vs = [.ref b, .int most] ∧ H b = some (.lst (l.map V.int)) ∧ 9 ≤ most ∧ most ≤ 2000000 ∧
    Drawn K b H Q (fun rs : List Rw => PyData.tuple (rs.map Rw.d)) (fun rs => rs.length ≤ 7 ∧ ∀ r ∈ rs, r.Nm (most - 1))
def spFree (K : PySem.W.Frag) : Sp := fun vs H Q _ => FreeP K vs H Q
theorem look_val {w : Str} {n : Nat} : ∀ {l : List (Str × Nat)}, l.lookup w = some n → valV (wk l) (Sum.inr w : Key) = some (V.int (n : Int))
  | [], h => by cases h
  | (v, m) :: l, h => by
    have h : (match w == v with | true => some m | false => l.lookup w) = some n := h
    cases e : (w == v) with
    | true =>
      rw [e] at h
      injection h with h
      rw [← h]
      exact valV_pos (p := ((Sum.inr v, V.int (m : Int)) : Key × V)) (by rw [eq_of_beq e])
    | false =>
      rw [e] at h
      have ne : ¬ ((Sum.inr v : Key) = Sum.inr w) := fun z => by
        injection z with z
        rw [z] at e
        have : (w == w) = true := beq_self_eq_true w
        rw [this] at e; cases e
      exact (valV_neg (p := ((Sum.inr v, V.int (m : Int)) : Key × V)) ne).trans (look_val h)
theorem mem_look {w : Str} : ∀ {l : List (Str × Nat)}, w ∈ l.map (·.1) → ∃ n, l.lookup w = some n
  | [], h => by cases h
  | (v, m) :: l, h => by
    show ∃ n, (match w == v with | true => some m | false => l.lookup w) = some n
    cases e : (w == v) with
    | true => exact ⟨m, rfl⟩
    | false =>
      rcases List.mem_cons.mp h with h | h
      · rw [h] at e
        have : (v == v) = true := beq_self_eq_true v
        rw [this] at e; cases e
      · exact mem_look h
theorem tps_int {K : PySem.W.Frag} {H : Hp} : ∀ {us : List Int} {vs : List V}, TpAll K H vs (us.map .int) → vs = us.map V.int
  | [], _, h => by cases h; rfl
  | u :: us, _, h => by
    obtain ⟨v, r, rfl, h1, h2⟩ := TpAll.consE h
    rw [h1.intE, tps_int h2]; rfl
theorem int_tps {K : PySem.W.Frag} {H : Hp} : ∀ {us : List Int}, TpAll K H (us.map V.int) (us.map .int)
  | [] => .nil
  | u :: us => .cons (.int u) int_tps
theorem rd_law_free_rows {K : PySem.W.Frag} (vs : List V) (H : Hp) (Q : VK) (E : XK) (hh : spFree K vs H Q E) : t_law_free_rows K (spWords K) spTake { nx := fun _ H' => Q .non H', rt := Q } (start ["_law_box", "_law_most", "_law_words_here", "_law_names", "_law_rows", "_law_k", "_law_name", "_law_parts", "_law_j"] vs) H := by
  obtain ⟨b, l, most, rfl, hb, m9, m2, q⟩ := hh.ex
  refine seq ⟨rfl, fun pw H1 hw0 hw s1 => gn ?_⟩
  dsimp only
  show tSeq _ _ _ [some (V.ref b), some (.int most), some (.ref pw), none, none, none, none, none, none] _
  have hb1 := s1 _ _ hb
  have kp1 : Kp (Bx b) H H1 := Kp.same s1
  have pwb : pw ≠ b := fun z => by rw [z, hb] at hw0; cases hw0
  refine seq ⟨_, rfl, pw, rowsK, rowsT.map (·.1), rfl, .inl hw, (by unfold rowsK; rw [List.map_map, List.map_map]; rfl), (by decide), fun ys pn hperm _ hn => gn ?_⟩
  dsimp only
  show tSeq _ _ _ [some (V.ref b), some (.int most), some (.ref pw), some (.ref pn), none, none, none, none, none] _
  have hly : ys.length = 21 := by rw [hperm.length_eq]; decide
  have hb2 : L2.upd H1 pn (.lst (ys.map V.str)) b = some (.lst (l.map V.int)) := by rw [upd_ne (ne_of_none hb1 hn)]; exact hb1
  have hw2 : L2.upd H1 pn (.lst (ys.map V.str)) pw = some (.dK rowsK) := by rw [upd_ne (ne_of_none hw hn)]; exact hw
  have hn2 : L2.upd H1 pn (.lst (ys.map V.str)) pn = some (.lst (ys.map V.str)) := upd_same
  have kp2 : Kp (Bx b) H (L2.upd H1 pn (.lst (ys.map V.str))) := kp1.trans (Kp.new hn)
  have pnb : pn ≠ b := Ne.symm (ne_of_none hb1 hn)
  generalize L2.upd H1 pn (.lst (ys.map V.str)) = H2 at hb2 hw2 hn2 kp2 ⊢
  refine seq ⟨(by show 0 ≤ sizeLine; decide), fun pr hr => gn ?_⟩
  dsimp only
  show tSeq _ _ _ [some (V.ref b), some (.int most), some (.ref pw), some (.ref pn), some (.ref pr), none, none, none, none] _
  have hb3 : L2.upd H2 pr (.lst []) b = some (.lst (l.map V.int)) := by rw [upd_ne (ne_of_none hb2 hr)]; exact hb2
  have hw3 : L2.upd H2 pr (.lst []) pw = some (.dK rowsK) := by rw [upd_ne (ne_of_none hw2 hr)]; exact hw2
  have hn3 : L2.upd H2 pr (.lst []) pn = some (.lst (ys.map V.str)) := by rw [upd_ne (ne_of_none hn2 hr)]; exact hn2
  have hr3 : L2.upd H2 pr (.lst []) pr = some (.lst []) := upd_same
  have kp3 : Kp (Bx b) H (L2.upd H2 pr (.lst [])) := kp2.trans (Kp.new hr)
  have prb : pr ≠ b := Ne.symm (ne_of_none hb2 hr)
  have prn : pr ≠ pn := Ne.symm (ne_of_none hn2 hr)
  have prw : pr ≠ pw := Ne.symm (ne_of_none hw2 hr)
  have frr : H pr = none := kp2.free hr (by exact fun z => prb z)
  generalize L2.upd H2 pr (.lst []) = H3 at hb3 hw3 hn3 hr3 kp3 ⊢
  refine seq_inv (fun σ' H' => ∃ (v5 v6 v7 v8 : Option V) (rs : List Rw) (us : List V) (l' : List Int), σ' = [some (V.ref b), some (.int most), some (.ref pw), some (.ref pn), some (.ref pr), v5, v6, v7, v8] ∧ rs.length ≤ 7 ∧ (∀ r ∈ rs, r.Nm (most - 1)) ∧ H' pr = some (.lst us) ∧ TpAll K H' us (rs.map Rw.d) ∧ H' b = some (.lst (l'.map V.int)) ∧ Kp (Bx b) H H') (fun nx hnx => ?_) ?_
  · refine ⟨_, rfl, b, l, 8, rfl, hb3, by decide, by decide, fun r8 l1 H4 r80 r81 hb4 kp4 => ⟨_, rfl, by omega, by omega, for_range (lo := 0) (n := r8.toNat) (fun i σ' H' => ∃ (v5 v6 v7 v8 : Option V) (rs : List Rw) (us : List V) (l' : List Int), σ' = [some (V.ref b), some (.int most), some (.ref pw), some (.ref pn), some (.ref pr), v5, v6, v7, v8] ∧ rs.length = i ∧ (∀ r ∈ rs, r.Nm (most - 1)) ∧ H' pr = some (.lst us) ∧ TpAll K H' us (rs.map Rw.d) ∧ H' b = some (.lst (l'.map V.int)) ∧ Kp (Bx b) H H' ∧ H' pw = some (.dK rowsK) ∧ H' pn = some (.lst (ys.map V.str)))
      ⟨none, none, none, none, [], [], l1, rfl, rfl, fun r hr => (by cases hr), kp4 _ _ hr3 prb, .nil, hb4, kp3.trans kp4, kp4 _ _ hw3 pwb, kp4 _ _ hn3 pnb⟩ ?_ ?_⟩⟩
    · rintro i σ' H5 hi ⟨v5, v6, v7, v8, rs, us, l', rfl, hl, hnm, hr5, tr5, hb5, kp5, hw5, hn5⟩
      refine gn ?_
      have lus : us.length < sizeLine := by
        have := tr5.length
        rw [List.length_map] at this
        exact sz_lt1 (by omega)
      refine seq ⟨_, rfl, _, rfl, _, rfl, pn, _, rfl, .inl (SqL.of hn5), b, l', _, rfl, hb5, by rw [List.length_map, hly]; decide, by rw [List.length_map, hly]; decide, fun r l2 H6 r0 r1 hb6 kp6 => ?_⟩
      rw [List.length_map, hly] at r1
      obtain ⟨j, rfl⟩ := Int.eq_ofNat_of_zero_le r0
      have hj : j < ys.length := by omega
      have ey : ys[j]? = some ys[j] := List.getElem?_eq_getElem hj
      have my : ys[j] ∈ rowsT.map (·.1) := hperm.mem_iff.mp (List.getElem_mem hj)
      generalize ys[j] = y at ey my
      obtain ⟨n, en⟩ := mem_look my
      have hn6 := kp6 _ _ hn5 pnb
      have hw6 := kp6 _ _ hw5 pwb
      have hr6 := kp6 _ _ hr5 prb
      have tr6 := tr5.mono (kp6.tk1 hb5)
      have kp56 := kp5.trans kp6
      have n4 := (ary_fn (w := y) (n := n) en).2.2.2
      refine ⟨pn, _, (j : Int), V.str y, rfl, rfl, SqL.of hn6, atI_nat (by rw [List.getElem?_map, ey]; rfl), gn ?_⟩
      dsimp only
      show tSeq _ _ _ [some (V.ref b), some (.int most), some (.ref pw), some (.ref pn), some (.ref pr), some (.int (0 + (i : Int))), some (V.str y), v7, v8] _
      refine seq ⟨_, rfl, _, rfl, pw, V.int (n : Int), rfl, (by rw [← look_val en]; exact DGet.k (k := Sum.inr y) hw6), _, rfl, by omega, by omega, fun D hD => lc_draw (K := K) (b := b) (α := Int) PyData.int (fun x => 0 ≤ x ∧ x ≤ most - 1) ((n : Int)).toNat (by omega) hb6 hD (fun _ => rfl) ?_ ?_⟩
      · rintro t G l3 ht hbG kpG Q' q'
        refine ⟨_, rfl, b, l3, 9, rfl, hbG, by decide, by decide, fun r9 l4 G1 r90 r91 hbG1 kpG1 => ?_⟩
        refine ⟨_, rfl, _, rfl, b, l4, most, rfl, hbG1, by omega, by omega, fun rm l5 G2 rm0 rm1 hbG2 kpG2 => ?_⟩
        refine ⟨(by show 2 ≤ sizeLine; decide), fun pe he => ?_⟩
        have peb : pe ≠ b := Ne.symm (ne_of_none hbG2 he)
        refine ⟨_, rfl, b, l5, 2, rfl, by rw [upd_ne (ne_of_none hbG2 he)]; exact hbG2, by decide, by decide, fun r2 l6 G3 r20 r21 hbG3 kpG3 => ?_⟩
        have hpe : G3 pe = some (.lst [V.int r9, V.int rm]) := kpG3 _ _ upd_same peb
        have kk : Kp (Bx b) G G3 := ((kpG1.trans kpG2).trans (Kp.new he)).trans kpG3
        by_cases e2 : r2 = 0
        · subst e2
          exact ⟨pe, _, ((0 : Nat) : Int), V.int r9, rfl, rfl, SqL.of hpe, atI_nat rfl, q' _ r9 l6 G3 ⟨r90, by omega⟩ (.int r9) hbG3 kk⟩
        · obtain rfl : r2 = 1 := by omega
          exact ⟨pe, _, ((1 : Nat) : Int), V.int rm, rfl, rfl, SqL.of hpe, atI_nat rfl, q' _ rm l6 G3 ⟨rm0, by omega⟩ (.int rm) hbG3 kk⟩
      · rintro items ws l3 H7 hlen hgood hD7 tw hb7 kp7
        refine gn ?_
        dsimp only
        show tSeq _ _ _ [some (V.ref b), some (.int most), some (.ref pw), some (.ref pn), some (.ref pr), some (.int (0 + (i : Int))), some (V.str y), some (.ref D), v8] _
        have hlen : items.length = n := by omega
        have ews := tps_int tw
        subst ews
        have Db : D ≠ b := fun z => by rw [z, hb6] at hD; cases hD
        have hr7 := kp7 _ _ hr6 prb
        have hw7 := kp7 _ _ hw6 pwb
        have hn7 := kp7 _ _ hn6 pnb
        have tr7 := tr6.mono (kp7.tk1 hb6)
        have kp67 := kp56.trans kp7
        have prD : pr ≠ D := ne_of_none hr6 hD
        have pwD : pw ≠ D := ne_of_none hw6 hD
        have pnD : pn ≠ D := ne_of_none hn6 hD
        have frD : H D = none := kp56.free hD (by exact fun z => Db z)
        -- the row is made and appended
        have fin : ∀ (H8 : Hp) (zs : List V) (as : List PyData) (l8 : List Int), H8 D = some (.lst zs) → TpAll K H8 zs as → as.length = n → FArgs (most - 1) (isHand y) 1 as → H8 pr = some (.lst us) → TpAll K H8 us (rs.map Rw.d) → H8 b = some (.lst (l8.map V.int)) → Kp (Bx b) H H8 → H8 pw = some (.dK rowsK) → H8 pn = some (.lst (ys.map V.str)) →
            tDrop (tBM K "list" rAppend (tVar 4) (tCons (tCB (rTupOf K) (tCons (tOp rCat (tLst (tCons (tVar 6) (tNil))) (tVar 7)) (tNil))) (tNil))) { nx := fun σ' H' => ∃ (v5 v6 v7 v8 : Option V) (rs : List Rw) (us : List V) (l' : List Int), σ' = [some (V.ref b), some (.int most), some (.ref pw), some (.ref pn), some (.ref pr), v5, v6, v7, v8] ∧ rs.length = i + 1 ∧ (∀ r ∈ rs, r.Nm (most - 1)) ∧ H' pr = some (.lst us) ∧ TpAll K H' us (rs.map Rw.d) ∧ H' b = some (.lst (l'.map V.int)) ∧ Kp (Bx b) H H' ∧ H' pw = some (.dK rowsK) ∧ H' pn = some (.lst (ys.map V.str)), rt := Q } [some (V.ref b), some (.int most), some (.ref pw), some (.ref pn), some (.ref pr), some (.int (0 + (i : Int))), some (V.str y), some (.ref D), v8] H8 := by
          intro H8 zs as l8 hD8 tz las fa hr8 tr8 hb8 kp8 hw8 hn8
          have lz : zs.length = n := by rw [tz.length, las]
          obtain ⟨w, hwd, hwn⟩ := free_rw (N := most - 1) (ds := .str y :: as) ⟨y, as, rfl, by rw [las]; exact en, fa⟩
          refine ⟨_, rfl, .inl ⟨rfl, _, SqL.of hr8⟩, _, rfl, (by show 1 ≤ sizeLine; decide), fun p1 h1 => ?_⟩
          have hD9 : L2.upd H8 p1 (.lst [V.str y]) D = some (.lst zs) := by rw [upd_ne (ne_of_none hD8 h1)]; exact hD8
          refine ⟨_, rfl, p1, D, _, _, rfl, rfl, upd_same, hD9, (by show 1 + zs.length ≤ sizeLine; exact sz_le1 (by omega)), fun p2 h2 => ?_⟩
          refine ⟨p2, _, rfl, .inl ⟨SqL.of upd_same, fun p3 h3 => ?_⟩⟩
          have s8 : Same H8 (L2.upd (L2.upd (L2.upd H8 p1 (.lst [V.str y])) p2 (.lst ([V.str y] ++ zs))) p3 (.tup ([V.str y] ++ zs))) := ((Same.new h1).trans (Same.new h2)).trans (Same.new h3)
          have t3 : Tp K (L2.upd (L2.upd (L2.upd H8 p1 (.lst [V.str y])) p2 (.lst ([V.str y] ++ zs))) p3 (.tup ([V.str y] ++ zs))) (.ref p3) (.tuple (.str y :: as)) := .tup (.inl (.inl upd_same)) (.cons (.str y) (tz.mono (Tk.same s8)))
          generalize L2.upd (L2.upd (L2.upd H8 p1 (.lst [V.str y])) p2 (.lst ([V.str y] ++ zs))) p3 (.tup ([V.str y] ++ zs)) = H9 at s8 t3 ⊢
          have hr9 := s8 _ _ hr8
          refine ⟨pr, _, .ref p3, rfl, rfl, hr9, lus, _, _, _, _, rs ++ [w], us ++ [.ref p3], l8, rfl, by rw [List.length_append, hl]; rfl, fun z hz => ?_, upd_same, ?_, ?_, ?_, ?_, ?_⟩
          · rcases List.mem_append.mp hz with hz | hz
            · exact hnm z hz
            · rw [List.mem_singleton.mp hz]; exact hwn
          · rw [List.map_append]
            refine ((tr8.mono (Tk.same s8)).snoc ?_).mono (Tk.lst hr9)
            rw [← Rw.d_ds, hwd]; exact t3
          · rw [upd_ne (Ne.symm prb)]; exact s8 _ _ hb8
          · exact (kp8.trans (Kp.same s8)).late frr
          · rw [upd_ne (Ne.symm prw)]; exact s8 _ _ hw8
          · rw [upd_ne (Ne.symm prn)]; exact s8 _ _ hn8
        have lasI : (items.map PyData.int).length = n := by rw [List.length_map, hlen]
        have pA : PB (tTest (tOp rEq (tVar 6) (tC (.str "handler")))) [some (V.ref b), some (.int most), some (.ref pw), some (.ref pn), some (.ref pr), some (.int (0 + (i : Int))), some (V.str y), some (.ref D), v8] H7 (isHand y) := by
          have := pb_eqS (σ := [some (V.ref b), some (.int most), some (.ref pw), some (.ref pn), some (.ref pr), some (.int (0 + (i : Int))), some (V.str y), some (.ref D), v8]) (i := 6) (H := H7) (z := y) (w := "handler") rfl
          rw [str_eq] at this
          exact this
        refine seq (pA _ ?_)
        refine ifP (fun hu => ?_) (fun hu => ?_)
        · refine ⟨_, rfl, b, l3, 2, rfl, hb7, by decide, by decide, fun r2 l4 H8 r20 r21 hb8 kp8 => ⟨rfl, _, rfl, ?_⟩⟩
          have hD8 := kp8 _ _ hD7 Db
          have hr8 := kp8 _ _ hr7 prb
          have hw8 := kp8 _ _ hw7 pwb
          have hn8 := kp8 _ _ hn7 pnb
          have tr8 := tr7.mono (kp8.tk1 hb7)
          have kp78 := kp67.trans kp8
          refine ifP (fun h1 => ?_) (fun h1 => ?_)
          · have e4 : n = 4 := by
              have hy : y = "handler" := of_decide_eq_true hu
              rw [hy] at en
              have e5 : rowsT.lookup ("handler" : Str) = some 4 := by decide
              rw [e5] at en
              injection en with en
              exact en.symm
            have hl4 : items.length = 4 := by omega
            obtain ⟨a0, a1, a2, a3, rfl⟩ : ∃ a0 a1 a2 a3, items = [a0, a1, a2, a3] := by
              match items, hl4 with
              | [a0, a1, a2, a3], _ => exact ⟨a0, a1, a2, a3, rfl⟩
            refine ⟨_, rfl, D, _, 2, 2, rfl, rfl, hD8, rfl, ?_⟩
            have g := fun x hx => hgood x hx
            refine fin _ [.int a0, .int a1, .non, .int a3] [.int a0, .int a1, .none, .int a3] l4 upd_same (.cons (.int _) (.cons (.int _) (.cons .non (.cons (.int _) .nil)))) (by rw [e4]; rfl) ?_ (by rw [upd_ne prD]; exact hr8) (tr8.mono (Tk.lst hD8)) (by rw [upd_ne (Ne.symm Db)]; exact hb8) (kp78.late frD) (by rw [upd_ne pwD]; exact hw8) (by rw [upd_ne pnD]; exact hn8)
            exact ⟨.inl ⟨a0, rfl, g a0 (by simp)⟩, .inl ⟨a1, rfl, g a1 (by simp)⟩, .inr ⟨by rw [hu]; rfl, rfl⟩, .inl ⟨a3, rfl, g a3 (by simp)⟩, trivial⟩
          · exact fin H8 _ _ l4 hD8 int_tps lasI (fargs_ints hgood) hr8 tr8 hb8 kp78 hw8 hn8
        · exact ifF rfl (fin H7 _ _ l3 hD7 int_tps lasI (fargs_ints hgood) hr7 tr7 hb7 kp67 hw7 hn7)
    · rintro σ' H5 ⟨v5, v6, v7, v8, rs, us, l', rfl, hl, hnm, hr5, tr5, hb5, kp5, _, _⟩
      exact hnx _ _ ⟨v5, v6, v7, v8, rs, us, l', rfl, by omega, hnm, hr5, tr5, hb5, kp5⟩
  · rintro _ H5 ⟨v5, v6, v7, v8, rs, us, l', rfl, hl, hnm, hr5, tr5, hb5, kp5⟩
    refine ⟨_, rfl, pr, _, rfl, .inl ⟨SqL.of hr5, fun p6 hp6 => ?_⟩⟩
    exact q.mk rs (hx := ⟨hl, hnm⟩) rfl tr5 hb5 kp5 p6 hp6
end RL
end Lp

/-! LyW: codes that may be listed and read. -/
namespace Lp
open PySem PySem.Spec PyProof.Rows L2
theorem In0.mono {N M i : Int} (h : In0 N i) (hm : N ≤ M) : In0 M i := ⟨h.1, by have := h.2; omega⟩
theorem Rw.Nm.mono {N M : Int} (hm : N ≤ M) {r : Rw} (h : r.Nm N) : r.Nm M := by
  have g := fun {i : Int} (h : In0 N i) => In0.mono h hm
  cases r with
  | num n => exact g h
  | var k => exact g h
  | set k => exact g h
  | «unless» q => exact g h
  | go z => exact g h
  | leap q D => exact ⟨g h.1, g h.2⟩
  | rais kd m => exact ⟨g h.1, g h.2⟩
  | call f n m => exact ⟨g h.1, g h.2.1, g h.2.2⟩
  | hand b x k D => exact ⟨g h.1, g h.2.1, fun j e => g (h.2.2.1 j e), g h.2.2.2⟩
  | cup b x D => exact ⟨g h.1, g h.2.1, g h.2.2⟩
  | _ => trivial
/-- a code whose numbers are from nought to N -/
structure CodeN (N : Int) (c : List Fc) : Prop where
  ne : c ≠ []
  few : c.length ≤ 10
  many : ∀ f ∈ c, f.many ≤ 999999
  rows : ∀ f ∈ c, f.rows.length ≤ 2000
  nm : ∀ f ∈ c, ∀ r ∈ f.rows, r.Nm N
theorem PgOk.codeN {p : Pg} (ok : PgOk p) : CodeN 999999 p.code := by
  have h0 := ok.wf.f0
  have h4 := ok.f4
  refine ⟨?_, by simp [Pg.code]; omega, fun f hf => ?_, fun f hf => ?_, fun f hf r hr => ?_⟩
  · unfold Pg.code
    intro h
    rw [List.map_eq_nil_iff.mp h] at h0
    cases h0
  · have := (ok.nm f hf).1; omega
  · have := (ok.nm f hf).2.1; omega
  · exact ((ok.nm f hf).2.2 r hr).mono (by decide)
theorem CodeN.fdOk {N : Int} (hN : N ≤ 2000000) {c : List Fc} (ok : CodeN N c) (h2 : 2000 ≤ N) : (∀ f ∈ c.map Fc.fd, FdOk f) ∧ (c.map Fc.fd).length ≤ 10 := by
  refine ⟨fun g hg => ?_, by rw [List.length_map]; exact ok.few⟩
  obtain ⟨f, hf, rfl⟩ := List.mem_map.mp hg
  have h1 := ok.many f hf
  have hr0 := ok.rows f hf
  have h3 := ok.nm f hf
  have ht := tab_nm (N := N) f.rows 0 (Int.le_refl 0) (by omega) h3
  refine ⟨⟨by show (0 : Int) ≤ (f.many : Int); omega, by show (f.many : Int) < _; omega⟩, fun r hr => ?_, fun r hr => ?_, ?_, ?_⟩
  · obtain ⟨w, hw, rfl⟩ := List.mem_map.mp hr
    exact w.rowOk (by omega) (h3 w hw)
  · obtain ⟨t, ht', rfl⟩ := List.mem_map.mp hr
    exact t.rowOk (by omega) (ht t ht')
  · show (f.rows.map Rw.ds).length ≤ 2100
    rw [List.length_map]; omega
  · show (f.tab.map Tb.ds).length ≤ 2100
    rw [List.length_map]
    have := tabAt_len f.rows 0
    show (tabAt 0 f.rows).length ≤ 2100
    omega
theorem CodeN.good {c : List Fc} (ok : CodeN 999999 c) : (∀ f ∈ c.map Fc.fd, GoodFd f) ∧ (∀ f ∈ c.map Fc.fd, f.tab = tableOf f.rows) := by
  refine ⟨fun g hg => ?_, fun g hg => ?_⟩
  · obtain ⟨f, hf, rfl⟩ := List.mem_map.mp hg
    have h1 := ok.many f hf
    have hr0 := ok.rows f hf
    have h3 := ok.nm f hf
    refine ⟨⟨by show (0 : Int) ≤ (f.many : Int); omega, by show (f.many : Int) ≤ _; omega⟩, fun r hr => ?_, tables_good h3 (by omega)⟩
    obtain ⟨w, hw, rfl⟩ := List.mem_map.mp hr
    exact rw_good (N := 999999) (by omega) w (h3 w hw)
  · obtain ⟨f, hf, rfl⟩ := List.mem_map.mp hg
    exact (tableOf_is f.rows).symm
theorem CodeN.read {c : List Fc} (ok : CodeN 999999 c) : readR (listingD (c.map Fc.fd)) = some (c.map Fc.fd) :=
  read_in (by intro h; exact ok.ne (List.map_eq_nil_iff.mp h)) ok.good.1 ok.good.2
theorem CodeN.small {N : Int} {c : List Fc} (ok : CodeN N c) : (codeD c).depth < 5 ∧ wid (codeD c) ≤ 1000000 :=
  codeD_small c (fun f hf => by have := ok.rows f hf; omega) (by have := ok.few; omega)
/-- a listing is not too long -/
theorem listing_len {fs : List Fd} (ok : ∀ f ∈ fs, FdOk f) (few : fs.length ≤ 10) : (listingD fs).length ≤ 5300000 := by
  have h1 := KL.lines_short ok
  have h2 := KL.lines_few ok
  have h3 := join_len (sep := "\n") h1
  have : ("\n" : Str).length = 1 := by decide
  rw [this] at h3
  unfold listingD
  omega
theorem listing_lines {fs : List Fd} (h0 : fs ≠ []) (g : ∀ f ∈ fs, GoodFd f) : Txt.split (listingD fs) "\n" = fs.flatMap Fd.lines := by
  unfold listingD
  rw [nl_is]
  refine split_join ?_ fun l hl => ?_
  · cases fs with
    | nil => exact absurd rfl h0
    | cons f c => rw [List.flatMap_cons]; unfold Fd.lines; simp
  · obtain ⟨f, hf, hl⟩ := List.mem_flatMap.mp hl
    exact lines_off (g f hf) l hl
theorem CodeN.bounds {c : List Fc} (ok : CodeN 999999 c) : (listingD (c.map Fc.fd)).length + 2 ≤ sizeLine ∧ (Txt.split (listingD (c.map Fc.fd)) "\n").length ≤ 150000 := by
  obtain ⟨h1, h2⟩ := ok.fdOk (by decide) (by decide)
  have h3 := listing_len h1 h2
  refine ⟨by rw [sizeLine_eq]; omega, ?_⟩
  rw [listing_lines (by intro h; exact ok.ne (List.map_eq_nil_iff.mp h)) ok.good.1]
  have := KL.lines_few h1
  omega
end Lp

/-! LyX: try, and isinstance of what was caught. -/
namespace Lp
open PySem PySem.Spec PyProof.Rows L2
section
variable {X : Cx} {k : Nat} {x n : Str} {ps : List Str} {sp : Sp} {W : WX} {p pos pos' np : Pos} {e : Expr} {es : List Expr} {t : TA} {C : Addr} {i : Nat} {body suite : List Stmt} {b₀ : Stmt} {tb : WX → TS} {ts : Addr → Value → Option Addr → TS}
theorem pcW (c : CalX X.prog X.w X.K X.mg X.base k x ps sp) (hr : Room k X.A) (tk : Takes X W) (ha : PA X (e :: es) t) (hg : Gl X x := by rfl) (hdb : (x == ("__debug__" : Str)) = false := by decide)
    (he : starEach (e :: es) X.env = (false, eval e X.env) :: starEach es X.env := by rfl) (hpl : (backTo pos (starEach es X.env)).any (·.1) = false := by rfl) : PE X (.Call (.Name x p) (e :: es) [] pos) (tCallS sp (WE W) t) := by
  obtain ⟨f, fd, F, b, kp, hm⟩ := c
  exact pe_callS F hr hg hm kp b (fun σ => passAt tk σ) ha hdb he hpl
/-- try: .. except C as n: .. -/
def tTryAs (K : PySem.W.Frag) (C : Addr) (i : Nat) (tb : WX → TS) (ts : Addr → Value → Option Addr → TS) : TS := fun D σ H => tb (wAs K (.ref C) i ts (fun _ _ _ _ => False) D) D σ H
theorem ps_tryAs (hs : X.stack = X.env :: X.outer) (hf : X.env.frame = some X.env.locals) (hN : X.N.Nodup) (hi : X.N[i]? = some n) (hln : X.env.kindOf n = some .local) (hc : Names X x (.ref C))
    (hb : ∀ (W : WX) (pn : List (Addr × Obj)) (xe : Value → Shared → Prop), Takes (X.tr pn xe) W → PassesOwn (model X.prog X.w) X.A X.env xe → PSs (X.tr pn xe) body (tb W))
    (hsu : ∀ (a : Addr) (oe : Obj) (cls : Value) (d : Option Addr) (pn : List (Addr × Obj)), Zc cls d oe → (∃ vs, oe.data = .fields vs) → PSs (X.suite a ((a, oe) :: pn)) (b₀ :: suite) (ts a cls d)) :
    PS X (.Try body [.ExceptHandler (some (.Name x np)) (some n) (b₀ :: suite) pos'] [] [] pos) (tTryAs X.K C i tb ts) := ps_try_as hs hf hN hi hln hc takes0 hb hsu
/-- try: .. except C: .. -/
def tTryOnly (K : PySem.W.Frag) (C : Addr) (tb : WX → TS) (ts : Addr → Value → Option Addr → TS) : TS := fun D σ H => tb (wOnly K (.ref C) ts (fun _ _ _ _ => False) D) D σ H
theorem ps_tryOnly (hs : X.stack = X.env :: X.outer) (hf : X.env.frame = some X.env.locals) (hc : Names X x (.ref C))
    (hb : ∀ (W : WX) (pn : List (Addr × Obj)) (xe : Value → Shared → Prop), Takes (X.tr pn xe) W → PassesOwn (model X.prog X.w) X.A X.env xe → PSs (X.tr pn xe) body (tb W))
    (hsu : ∀ (a : Addr) (oe : Obj) (cls : Value) (d : Option Addr) (pn : List (Addr × Obj)), Zc cls d oe → (∃ vs, oe.data = .fields vs) → PSs (X.suite a ((a, oe) :: pn)) (b₀ :: suite) (ts a cls d)) :
    PS X (.Try body [.ExceptHandler (some (.Name x np)) none (b₀ :: suite) pos'] [] [] pos) (tTryOnly X.K C tb ts) := ps_try_only hs hf hc takes0 hb hsu
end
/-- isinstance(e, c), e what the suite holds: an error of an own class D -/
def rIsEx (K : PySem.W.Frag) (a : Addr) (cls : Value) (d : Option Addr) : List V → Hp → VK → Prop := fun xs H Q => ∃ D, cls = .ref D ∧ d = none ∧ ExcC K D ∧ rIsE K D a xs H Q
theorem call_isEx {X : Cx} {a : Addr} {oe : Obj} {cls : Value} {d : Option Addr} {pn : List (Addr × Obj)} (hz : Zc cls d oe) (hf : ∃ vs, oe.data = .fields vs) : CallR (X.suite a ((a, oe) :: pn)) (.builtin "isinstance") (rIsEx X.K a cls d) := by
  intro pins s σ H xs us Q I r h
  obtain ⟨D, rfl, rfl, C, h⟩ := h
  exact call_isE C hz hf pins s σ H xs us Q I r h
/-- what the hook looks at -/
def excB (K : PySem.W.Frag) (x : Str) : Bool :=
  decide (PySem.W.findIn K (.ref (He.ga K x)) "__getattribute__" = some (some (.builtin "BaseException.__getattribute__"))) && (decide (PySem.W.findIn K (.ref (He.ga K x)) "__getattr__" = some none) && (decide (PySem.W.subIn K (.ref (He.ga K x)) (.type "BaseException") = some true) &&
    (PySem.W.hasDictIn K (He.ga K x) && (decide (PySem.W.findIn K (.ref (He.ga K x)) "__class__" = some (some (.builtin "object.__class__"))) && (decide (PySem.W.specialIn K (.builtin "object.__class__") "__get__" = some (some (.builtin "getset_descriptor.__get__"))) &&
      (decide (PySem.W.takesIn K (.builtin "object.__class__") = some true) && decide (PySem.W.mroIn K (He.ga K x) (.type "object") = some true)))))))
theorem excB_ok {K : PySem.W.Frag} {x : Str} (h : excB K x = true) : ExcC K (He.ga K x) := by
  obtain ⟨h1, h⟩ := Bool.and_eq_true_iff.mp h
  obtain ⟨h2, h⟩ := Bool.and_eq_true_iff.mp h
  obtain ⟨h3, h⟩ := Bool.and_eq_true_iff.mp h
  obtain ⟨h4, h⟩ := Bool.and_eq_true_iff.mp h
  obtain ⟨h5, h⟩ := Bool.and_eq_true_iff.mp h
  obtain ⟨h6, h⟩ := Bool.and_eq_true_iff.mp h
  obtain ⟨h7, h8⟩ := Bool.and_eq_true_iff.mp h
  exact ⟨of_decide_eq_true h1, of_decide_eq_true h2, of_decide_eq_true h3, h4, of_decide_eq_true h5, of_decide_eq_true h6, of_decide_eq_true h7, of_decide_eq_true h8⟩
/-- an error of the class x is one of y, or not -/
def kitB (K : PySem.W.Frag) (x y : Str) (b : Bool) : Bool := decide (PySem.W.kitOne K (.ref (He.ga K x)) (.ref (He.ga K y)) = some b)
def kitT (K : PySem.W.Frag) (x : Str) (y : String) (b : Bool) : Bool := decide (PySem.W.kitOne K (.ref (He.ga K x)) (.type y) = some b)
theorem kitB_ok {K : PySem.W.Frag} {x y : Str} {b : Bool} (h : kitB K x y b = true) : PySem.W.kitOne K (.ref (He.ga K x)) (.ref (He.ga K y)) = some b := of_decide_eq_true h
theorem kitT_ok {K : PySem.W.Frag} {x : Str} {y : String} {b : Bool} (h : kitT K x y b = true) : PySem.W.kitOne K (.ref (He.ga K x)) (.type y) = some b := of_decide_eq_true h
theorem rIsE_ref {K : PySem.W.Frag} {D a C : Addr} {b : Bool} {H : Hp} {Q : VK} (h : PySem.W.kitOne K (.ref D) (.ref C) = some b) (q : Q (.bl b) H) : rIsE K D a [.ref a, .ref C] H Q := ⟨.ref C, .ref C, b, rfl, fun u r => r, h, q⟩
theorem rIsE_ty {K : PySem.W.Frag} {D a : Addr} {n : String} {b : Bool} {H : Hp} {Q : VK} (h : PySem.W.kitOne K (.ref D) (.type n) = some b) (q : Q (.bl b) H) : rIsE K D a [.ref a, .ty n] H Q := ⟨.ty n, .type n, b, rfl, fun u r => r, h, q⟩
end Lp

/-! LyY: a spoilt text, as long as it may be. -/
namespace Lp
open PySem PySem.Spec PyProof.Rows L2
def t_law_spoilt (K : PySem.W.Frag) (sp_law_take : Sp) : TS :=
  tSeq (tAsg (tCall sp_law_take [] E0 (tCons (tVar 0) (tCons (tC (.int 8)) (tNil)))) (gName 2)) (tSeq (tAsg (tM1 rSplit (tVar 1) (tC (.str "\n"))) (gName 3)) (tSeq (tAsg (tCall sp_law_take [] E0 (tCons (tVar 0) (tCons (tCB (rLenQ K) (tCons (tVar 3) (tNil))) (tNil)))) (gName 4)) (tSeq (tIfS (tTest (tOp rGt (tVar 2) (tC (.int 4)))) (tSeq (tIfS (tTest (tOp rEq (tCall sp_law_take [] E0 (tCons (tVar 0) (tCons (tC (.int 2)) (tNil)))) (tC (.int 1)))) (tSeq (tAsg (tLc (iRng1 (tCons (tCB (rLenQ K) (tCons (tVar 3) (tNil))) (tNil))) (gName 9) (tTest (tOp rEq (tSl rSlS (tOp (rIxL K) (tVar 3) (tVar 9)) tNoPart (tPart (tC (.int 5)))) (tC (.str "table")))) (tVar 9) [9]) (gName 8)) (tAsg (tIf (tTest (tOp (rNeE K) (tVar 8) (tLst (tNil)))) (tOp (rIxL K) (tVar 8) (tOp rMdI (tVar 4) (tCB (rLenQ K) (tCons (tVar 8) (tNil))))) (tVar 4)) (gName 4))) (tNext)) (tSeq (tAsg (tM1 rSplit (tOp (rIxL K) (tVar 3) (tVar 4)) (tC (.str " "))) (gName 5)) (tSeq (tAsg (tCall sp_law_take [] E0 (tCons (tVar 0) (tCons (tCB (rLenQ K) (tCons (tVar 5) (tNil))) (tNil)))) (gName 6)) (tSeq (tAsg (tLst (tCons (tOp rCat (tOp rCat (tSl (rSlL K) (tVar 5) tNoPart (tPart (tVar 6))) (tLst (tCons (tC (.str "-")) (tNil)))) (tSl (rSlL K) (tVar 5) (tPart (tOp rAdI (tVar 6) (tC (.int 1)))) tNoPart)) (tCons (tOp rCat (tVar 5) (tLst (tCons (tOp (rIxL K) (tLst (tCons (tC (.str "0")) (tCons (tC (.str "")) (tCons (tOp (rIxL K) (tVar 5) (tVar 6)) (tNil))))) (tCall sp_law_take [] E0 (tCons (tVar 0) (tCons (tC (.int 3)) (tNil))))) (tNil)))) (tCons (tSl (rSlL K) (tVar 5) tNoPart (tPart (tUn rNeg (tC (.int 1))))) (tNil))))) (gName 7)) (tSeq (tAsg (tM1 (rJoin K) (tC (.str " ")) (tOp (rIxL K) (tVar 7) (tOp rSbI (tVar 2) (tC (.int 5))))) (gSub (tVar 3) (tVar 4) rSetL)) (tRet (tM1 (rJoin K) (tC (.str "\n")) (tVar 3)))))))) (tNext)) (tSeq (tIfS (tTest (tOp rEq (tVar 2) (tC (.int 0)))) (tRet (tM1 (rJoin K) (tC (.str "\n")) (tOp rCat (tSl (rSlL K) (tVar 3) tNoPart (tPart (tVar 4))) (tSl (rSlL K) (tVar 3) (tPart (tOp rAdI (tVar 4) (tC (.int 1)))) tNoPart)))) (tNext)) (tSeq (tIfS (tTest (tOp rEq (tVar 2) (tC (.int 1)))) (tRet (tM1 (rJoin K) (tC (.str "\n")) (tOp rCat (tOp rCat (tSl (rSlL K) (tVar 3) tNoPart (tPart (tVar 4))) (tLst (tCons (tOp (rIxL K) (tVar 3) (tVar 4)) (tNil)))) (tSl (rSlL K) (tVar 3) (tPart (tVar 4)) tNoPart)))) (tNext)) (tSeq (tIfS (tTest (tOp rEq (tVar 2) (tC (.int 2)))) (tRet (tM1 (rJoin K) (tC (.str "\n")) (tOp rCat (tOp rCat (tSl (rSlL K) (tVar 3) tNoPart (tPart (tVar 4))) (tListRev K (tSl (rSlL K) (tVar 3) (tPart (tVar 4)) (tPart (tOp rAdI (tVar 4) (tC (.int 2))))))) (tSl (rSlL K) (tVar 3) (tPart (tOp rAdI (tVar 4) (tC (.int 2)))) tNoPart)))) (tNext)) (tSeq (tFor (iRng1 (tCons (tOp rAdI (tC (.int 1)) (tCall sp_law_take [] E0 (tCons (tVar 0) (tCons (tC (.int 3)) (tNil))))) (tNil))) (gName 9) (tSeq (tAsg (tCall sp_law_take [] E0 (tCons (tVar 0) (tCons (tOp rAdI (tCB (rLenStr) (tCons (tVar 1) (tNil))) (tC (.int 1))) (tNil)))) (gName 6)) (tSeq (tAsg (tOp rIxS (tC (.str "0123456789- \nabcdefghijklmnopqrstuvwxyz+.")) (tCall sp_law_take [] E0 (tCons (tVar 0) (tCons (tC (.int 41)) (tNil))))) (gName 10)) (tSeq (tAsg (tCall sp_law_take [] E0 (tCons (tVar 0) (tCons (tC (.int 3)) (tNil)))) (gName 11)) (tAsg (tOp rAddS (tOp rAddS (tSl rSlS (tVar 1) tNoPart (tPart (tVar 6))) (tOp (rIxL K) (tLst (tCons (tC (.str "")) (tCons (tVar 10) (tCons (tVar 10) (tNil))))) (tVar 11))) (tSl rSlS (tVar 1) (tPart (tOp rAdI (tVar 6) (tOp (rIxL K) (tLst (tCons (tC (.int 1)) (tCons (tC (.int 0)) (tCons (tC (.int 1)) (tNil))))) (tVar 11)))) tNoPart)) (gName 1)))))) (tRet (tVar 1)))))))))

namespace RL
open KL (gn seq seq_inv)
/-! ### lists of texts, weighed -/
def wt (L : List Str) : Nat := (L.map (·.length)).sum
theorem wt_app (a b : List Str) : wt (a ++ b) = wt a + wt b := by unfold wt; rw [List.map_append, List.sum_append]
theorem wt_cons (a : Str) (b : List Str) : wt (a :: b) = a.length + wt b := by unfold wt; rw [List.map_cons, List.sum_cons]
theorem wt_take (L : List Str) (n : Nat) : wt (L.take n) ≤ wt L := by
  have := wt_app (L.take n) (L.drop n)
  rw [List.take_append_drop] at this
  omega
theorem wt_drop (L : List Str) (n : Nat) : wt (L.drop n) ≤ wt L := by
  have := wt_app (L.take n) (L.drop n)
  rw [List.take_append_drop] at this
  omega
theorem wt_rev : ∀ (L : List Str), wt L.reverse = wt L
  | [] => rfl
  | a :: r => by
    rw [List.reverse_cons, wt_app, wt_rev r, wt_cons, wt_cons]
    show wt r + (a.length + 0) = _
    omega
theorem wt_mem {L : List Str} {x : Str} (h : x ∈ L) : x.length ≤ wt L := by
  induction L with
  | nil => cases h
  | cons a r ih =>
    rw [wt_cons]
    rcases List.mem_cons.mp h with rfl | h
    · omega
    · have := ih h
      omega
theorem wt_set : ∀ (L : List Str) (k : Nat) (x : Str), wt (L.set k x) ≤ wt L + x.length
  | [], k, x => by simp [wt]
  | a :: r, 0, x => by rw [List.set_cons_zero, wt_cons, wt_cons]; omega
  | a :: r, k + 1, x => by
    rw [List.set_cons_succ, wt_cons, wt_cons]
    have := wt_set r k x
    omega
/-- at most n texts of w signs in all, no line's end among them -/
structure Wl (n w : Nat) (L : List Str) : Prop where
  few : L.length ≤ n
  wgt : wt L ≤ w
  off : ∀ x ∈ L, 10 ∉ sg x
theorem Wl.mono {n w n' w' : Nat} {L : List Str} (h : Wl n w L) (a : n ≤ n') (b : w ≤ w') : Wl n' w' L := ⟨Nat.le_trans h.few a, Nat.le_trans h.wgt b, h.off⟩
theorem Wl.app {n w n' w' : Nat} {L M : List Str} (h : Wl n w L) (g : Wl n' w' M) : Wl (n + n') (w + w') (L ++ M) :=
  ⟨by rw [List.length_append]; exact Nat.add_le_add h.few g.few, by rw [wt_app]; exact Nat.add_le_add h.wgt g.wgt, fun x hx => (List.mem_append.mp hx).elim (h.off x) (g.off x)⟩
theorem Wl.cut {n w : Nat} {L : List Str} (h : Wl n w L) (lo hi : Option Int) : ∃ M, cutV (L.map V.str) lo hi = M.map V.str ∧ Wl n w M := by
  refine ⟨(L.drop (HT.sIx (L.map V.str).length 0 lo)).take (HT.sIx (L.map V.str).length (L.map V.str).length hi - HT.sIx (L.map V.str).length 0 lo), ?_, ?_⟩
  · unfold cutV; rw [List.map_take, List.map_drop]
  · refine ⟨?_, Nat.le_trans (wt_take _ _) (Nat.le_trans (wt_drop _ _) h.wgt), fun x hx => h.off x (List.mem_of_mem_drop (List.mem_of_mem_take hx))⟩
    rw [List.length_take, List.length_drop]
    have := h.few
    omega
theorem Wl.rev {n w : Nat} {L : List Str} (h : Wl n w L) : Wl n w L.reverse := ⟨by rw [List.length_reverse]; exact h.few, by rw [wt_rev]; exact h.wgt, fun x hx => h.off x (List.mem_reverse.mp hx)⟩
theorem Wl.one {w : Nat} {s : Str} (h : s.length ≤ w) (o : 10 ∉ sg s) : Wl 1 w [s] := ⟨Nat.le_refl _, by rw [wt_cons]; exact h, fun x hx => by rw [List.mem_singleton.mp hx]; exact o⟩
/-- how many lines' ends -/
def nlc (t : Str) : Nat := (sg t).count 10
theorem cut_len (c : Nat) : ∀ l : List Nat, (cut c l).length = l.count c + 1
  | [] => rfl
  | d :: r => by
    have ih := cut_len c r
    unfold cut
    by_cases e : d = c
    · rw [if_pos e, List.length_cons, ih, e, List.count_cons_self]
    · rw [if_neg e, List.count_cons_of_ne e]
      have := cut_ne c r
      cases q : cut c r with
      | nil => exact absurd q this
      | cons p ps => rw [q] at ih; exact ih
theorem split_nl (t : Str) : (Txt.split t "\n").length = nlc t + 1 := by
  have h := congrArg List.length (split_cut t 10)
  rw [List.length_map, cut_len] at h
  rw [nl_is]; exact h
theorem count_none {c : Nat} {l : List Nat} (h : c ∉ l) : l.count c = 0 := List.count_eq_zero.mpr h
theorem join_nlc : ∀ {L : List Str}, (∀ x ∈ L, 10 ∉ sg x) → nlc (Txt.join "\n" L) ≤ L.length
  | [], _ => by rw [join_is]; exact Nat.le_refl _
  | [p], h => by
    rw [join_is]
    show (sg p).count 10 ≤ 1
    rw [count_none (h p List.mem_cons_self)]; omega
  | p :: q :: r, h => by
    have ih := join_nlc (L := q :: r) fun x hx => h x (List.mem_cons_of_mem _ hx)
    unfold nlc at ih ⊢
    rw [join_cons (by simp), sg_app, sg_app, List.count_append, List.count_append, count_none (h p List.mem_cons_self), List.length_cons]
    have : (sg ("\n" : Str)).count 10 = 1 := by decide
    omega
theorem join_wt (sep : Str) (L : List Str) : (Txt.join sep L).length ≤ wt L + L.length * sep.length := by
  rw [join_is]; exact StrLaws.join_length_le sep L
theorem mem_join {c : Nat} {sep p : Str} : ∀ {L : List Str}, p ∈ L → c ∈ sg p → c ∈ sg (Txt.join sep L)
  | [], h, _ => by cases h
  | [q], h, hc => by rw [join_is]; rw [List.mem_singleton.mp h] at hc; exact hc
  | q :: r :: s, h, hc => by
    rw [join_cons (by simp), sg_app, sg_app]
    rcases List.mem_cons.mp h with rfl | h
    · exact List.mem_append_left _ (List.mem_append_left _ hc)
    · exact List.mem_append_right _ (mem_join (L := r :: s) h hc)
theorem split_wl (t : Str) : Wl (nlc t + 1) (t.length + 1) (Txt.split t "\n") := by
  refine ⟨by rw [split_nl]; exact Nat.le_refl _, ?_, ?_⟩
  · have := split_weight t "\n" (by decide)
    unfold wt
    omega
  · rw [nl_is]; exact StrLaws.split_free t 10
theorem words_wl {t : Str} (h : 10 ∉ sg t) : Wl (t.length + 2) (t.length + 1) (Txt.split t " ") := by
  refine ⟨split_few t " ", ?_, fun x hx hm => h ?_⟩
  · have := split_weight t " " (by decide)
    unfold wt
    omega
  · have := mem_join (sep := " ") hx hm
    rw [sp_is, join_split'] at this
    exact this
/-! ### readings, the box aside -/
def Bxd (b : Addr) (H : Hp) : Prop := ∃ l : List Int, H b = some (.lst (l.map V.int))
theorem Bxd.new {b p : Addr} {H : Hp} {o : HO} (h : Bxd b H) (hp : H p = none) : Bxd b (L2.upd H p o) := by
  obtain ⟨l, h⟩ := h
  exact ⟨l, by rw [upd_ne (ne_of_none h hp)]; exact h⟩
theorem Bxd.ne {b p : Addr} {H : Hp} (h : Bxd b H) (hp : H p = none) : p ≠ b := by
  obtain ⟨l, h⟩ := h
  exact Ne.symm (ne_of_none h hp)
/-- te gives a text of at most w signs, none a line's end -/
def GS (te : TE) (σ : L2.St) (b : Addr) (H0 : Hp) (w : Nat) : Prop := ∀ H, Kp (Bx b) H0 H → Bxd b H → ∀ Q : VK, (∀ s H', s.length ≤ w → 10 ∉ sg s → Kp (Bx b) H H' → Bxd b H' → Q (.str s) H') → te σ H Q
/-- te gives a list of at most n texts of w signs in all -/
def GL (te : TE) (σ : L2.St) (b : Addr) (H0 : Hp) (n w : Nat) : Prop := ∀ H, Kp (Bx b) H0 H → Bxd b H → ∀ Q : VK, (∀ p L H', p ≠ b → H' p = some (.lst (L.map V.str)) → Wl n w L → Kp (Bx b) H H' → Bxd b H' → Q (.ref p) H') → te σ H Q
/-- a part of a slice that changes nothing -/
def GO (t : TO) (σ : L2.St) : Prop := ∀ H (Q : Option Int → Hp → Prop), (∀ o, Q o H) → t σ H Q
section
variable {K : PySem.W.Frag} {σ : L2.St} {b : Addr} {H0 : Hp} {n w n1 w1 n2 w2 i : Nat} {p : Addr} {L : List Str} {te ta tb : TE} {tl th : TO}
theorem GO.no : GO tNoPart σ := fun H Q q => q none
theorem GO.var {z : Int} (h : σ[i]? = some (some (.int z))) : GO (tPart (tVar i)) σ := fun H Q q => ⟨_, h, _, rfl, q _⟩
theorem GO.add {z c : Int} (h : σ[i]? = some (some (.int z))) : GO (tPart (tOp rAdI (tVar i) (tC (.int c)))) σ := fun H Q q => ⟨_, h, _, _, rfl, rfl, _, rfl, q _⟩
theorem GO.neg {c : Int} : GO (tPart (tUn rNeg (tC (.int c)))) σ := fun H Q q => ⟨_, rfl, _, rfl, q _⟩
theorem GL.sl (hs : σ[i]? = some (some (.ref p))) (hp : p ≠ b) (h : H0 p = some (.lst (L.map V.str))) (g : Wl n w L) (gl : GO tl σ) (gh : GO th σ) : GL (tSl (rSlL K) (tVar i) tl th) σ b H0 n w := fun H k bx Q q =>
  ⟨_, hs, gl H _ fun lo => gh H _ fun hi => ⟨p, _, rfl, SqL.of (k _ _ h hp), fun p2 h2 => by
    obtain ⟨M, e, gM⟩ := g.cut lo hi
    rw [e]
    exact q p2 M _ (bx.ne h2) upd_same gM (Kp.new h2) (bx.new h2)⟩⟩
theorem GL.cat (ga : GL ta σ b H0 n1 w1) (gb : GL tb σ b H0 n2 w2) (hz : n1 + n2 ≤ 9000000) : GL (tOp rCat ta tb) σ b H0 (n1 + n2) (w1 + w2) := fun H k bx Q q =>
  ga H k bx _ fun p1 L1 H1 n1b h1 g1 k1 bx1 => gb H1 (k.trans k1) bx1 _ fun p2 L2 H2 n2b h2 g2 k2 bx2 =>
    ⟨p1, p2, _, _, rfl, rfl, k2 _ _ h1 n1b, h2, by rw [List.length_map, List.length_map, sizeLine_eq]; have := g1.few; have := g2.few; omega, fun p3 h3 => by
      rw [← List.map_append]
      exact q p3 _ _ (bx2.ne h3) upd_same (g1.app g2) ((k1.trans k2).trans (Kp.new h3)) (bx2.new h3)⟩
theorem GL.one (g : GS te σ b H0 w) : GL (tLst (tCons te tNil)) σ b H0 1 w := fun H k bx Q q =>
  g H k bx _ fun s H1 hs ho k1 bx1 => ⟨(by show 1 ≤ sizeLine; decide), fun p2 h2 => q p2 [s] _ (bx1.ne h2) upd_same (Wl.one hs ho) (k1.trans (Kp.new h2)) (bx1.new h2)⟩
theorem GL.rev (ga : GL ta σ b H0 n w) : GL (tListRev K ta) σ b H0 n w := fun H k bx Q q =>
  ga H k bx _ fun p1 L1 H1 n1b h1 g1 k1 bx1 => ⟨p1, _, rfl, SqL.of h1, fun p2 h2 => by
    rw [← List.map_reverse]
    exact q p2 _ _ (bx1.ne h2) upd_same g1.rev (k1.trans (Kp.new h2)) (bx1.new h2)⟩
theorem GL.var (hs : σ[i]? = some (some (.ref p))) (hp : p ≠ b) (h : H0 p = some (.lst (L.map V.str))) (g : Wl n w L) : GL (tVar i) σ b H0 n w := fun H k bx Q q => ⟨_, hs, q p L H hp (k _ _ h hp) g (Kp.refl _ _) bx⟩
theorem GS.c {s : Str} (h : s.length ≤ w) (o : 10 ∉ sg s) : GS (tC (.str s)) σ b H0 w := fun H k bx Q q => q s H h o (Kp.refl _ _) bx
theorem GS.ix {j : Nat} {z : Str} {ti : Nat} (hs : σ[i]? = some (some (.ref p))) (hp : p ≠ b) (h : H0 p = some (.lst (L.map V.str))) (ht : σ[ti]? = some (some (.int (j : Int)))) (e : L[j]? = some z) (hz : z.length ≤ w) (o : 10 ∉ sg z) : GS (tOp (rIxL K) (tVar i) (tVar ti)) σ b H0 w := fun H k bx Q q =>
  ⟨_, hs, _, ht, p, _, _, _, rfl, rfl, SqL.of (k _ _ h hp), atI_nat (by rw [List.getElem?_map, e]; rfl), q z H hz o (Kp.refl _ _) bx⟩
/-- what is joined at the end -/
theorem ret_join {D : Ends} {H : Hp} (g : GL te σ b H n w) (bx : Bxd b H) (hz : w + n ≤ 16000000) (q : ∀ t H', t.length ≤ w + n → nlc t ≤ n → Kp (Bx b) H H' → Bxd b H' → D.rt (.str t) H') : tRet (tM1 (rJoin K) (tC (.str "\n")) te) D σ H := by
  refine ⟨⟨_, rfl⟩, g H (Kp.refl _ _) bx _ fun p L H1 _ h1 g1 k1 bx1 => ?_⟩
  have e1 : ("\n" : Str).length = 1 := by decide
  have := g1.few; have hw := g1.wgt
  have h2 := join_wt "\n" L
  unfold wt at hw
  refine ⟨_, p, L, rfl, rfl, .inl (SqL.of h1), by rw [e1]; omega, q _ H1 ?_ (Nat.le_trans (join_nlc g1.off) g1.few) k1 bx1⟩
  rw [e1] at h2
  unfold wt at h2
  omega
end
end RL
end Lp

/-! LyZ: the reading of _law_spoilt. -/
namespace Lp
open PySem PySem.Spec PyProof.Rows L2
namespace RL
open KL (gn seq seq_inv)
structure SpoP (K : PySem.W.Frag) (vs : List V) (H : Hp) (Q : VK) : Prop where
  ex : ∃ (b : Addr) (t : Str), vs = [.ref b, .str t] ∧ Bxd b H ∧ t.length ≤ 1990000 ∧ nlc t ≤ 16000 ∧ ∀ t' H', t'.length ≤ 12000000 → nlc t' ≤ 60000 → Kp (Bx b) H H' → Bxd b H' → Q (.str t') H'
def spSpo (K : PySem.W.Frag) : Sp := fun vs H Q _ => SpoP K vs H Q
theorem r_take {σ : L2.St} {b : Addr} {H : Hp} {m : Int} {tm : TE} {Q : VK} (hs : σ[0]? = some (some (.ref b))) (bx : Bxd b H) (htm : ∀ Q' : VK, Q' (.int m) H → tm σ H Q') (m0 : 0 < m) (m2 : m ≤ 2000000)
    (q : ∀ r H', 0 ≤ r → r < m → Kp (Bx b) H H' → Bxd b H' → Q (.int r) H') : tCall spTake [] E0 (tCons (tVar 0) (tCons tm (tNil))) σ H Q := by
  obtain ⟨l, hl⟩ := bx
  exact ⟨_, hs, htm _ ⟨b, l, m, rfl, hl, m0, m2, fun r l' H' r0 r1 hb kp => q r H' r0 r1 kp ⟨l', hb⟩⟩⟩
theorem sg_mk (l : List Nat) : sg ⟨l.toArray⟩ = l := rfl
theorem cutS_pre {t : Str} {a : Nat} (h : a ≤ t.length) : sg (cutS t none (some (a : Int))) = (sg t).take a := by
  unfold cutS
  rw [sg_mk, HT.sIx_nat]
  show ((sg t).drop 0).take (min a t.length - 0) = _
  rw [List.drop_zero, Nat.min_eq_left h, Nat.sub_zero]
theorem cutS_suf' {t : Str} {a : Nat} : sg (cutS t (some (a : Int)) none) = ((sg t).drop (min a t.length)).take (t.length - min a t.length) := by
  unfold cutS
  rw [sg_mk, HT.sIx_nat]
  rfl
theorem edit_ok {t x : Str} {a z : Nat} (ha : a ≤ t.length) (hx : x.length ≤ 1) : (cutS t none (some (a : Int)) ++ x ++ cutS t (some ((a + z : Nat) : Int)) none).length ≤ t.length + 1 ∧ nlc (cutS t none (some (a : Int)) ++ x ++ cutS t (some ((a + z : Nat) : Int)) none) ≤ nlc t + 1 := by
  have hl := sg_len t
  constructor
  · rw [← sg_len, sg_app, sg_app, cutS_pre ha, cutS_suf', List.length_append, List.length_append, List.length_take, List.length_take, List.length_drop, sg_len x]
    omega
  · unfold nlc
    rw [sg_app, sg_app, cutS_pre ha, cutS_suf', List.count_append, List.count_append]
    have h1 : (sg x).count 10 ≤ 1 := Nat.le_trans List.count_le_length (by rw [sg_len]; exact hx)
    have h2 : ((sg t).take a).count 10 + ((sg t).drop a).count 10 = (sg t).count 10 := by rw [← List.count_append, List.take_append_drop]
    have h3 : (((sg t).drop (min (a + z) t.length)).take (t.length - min (a + z) t.length)).count 10 ≤ ((sg t).drop a).count 10 := by
      refine Nat.le_trans ((List.take_sublist _ _).count_le 10) ?_
      have e : (sg t).drop (min (a + z) t.length) = ((sg t).drop a).drop (min (a + z) t.length - a) := by rw [List.drop_drop]; congr 1; omega
      rw [e]
      exact (List.drop_sublist _ _).count_le 10
    omega
/-- one of three texts, the third a word -/
theorem GS.pick {K : PySem.W.Frag} {σ : L2.St} {b p : Addr} {H0 : Hp} {L : List Str} {z : Str} {w j : Nat} (h0 : σ[0]? = some (some (.ref b))) (hs : σ[5]? = some (some (.ref p))) (hp : p ≠ b) (h : H0 p = some (.lst (L.map V.str))) (ht : σ[6]? = some (some (.int (j : Int)))) (e : L[j]? = some z) (hz : z.length ≤ w) (w1 : 1 ≤ w) (o : 10 ∉ sg z) :
    GS (tOp (rIxL K) (tLst (tCons (tC (.str "0")) (tCons (tC (.str "")) (tCons (tOp (rIxL K) (tVar 5) (tVar 6)) (tNil))))) (tCall spTake [] E0 (tCons (tVar 0) (tCons (tC (.int 3)) (tNil))))) σ b H0 w := fun H k bx Q q => by
  refine ⟨_, hs, _, ht, p, _, _, V.str z, rfl, rfl, SqL.of (k _ _ h hp), atI_nat (by rw [List.getElem?_map, e]; rfl), (by show 3 ≤ sizeLine; decide), fun p3 h3 => ?_⟩
  refine r_take h0 (bx.new h3) (fun Q' q' => q') (by decide) (by decide) fun r H1 r0 r1 k1 bx1 => ?_
  have hp3 := k1 _ _ upd_same (bx.ne h3)
  have kk : Kp (Bx b) H H1 := (Kp.new h3).trans k1
  by_cases e0 : r = 0
  · subst e0
    exact ⟨p3, _, ((0 : Nat) : Int), V.str "0", rfl, rfl, SqL.of hp3, atI_nat rfl, q _ H1 (by show 1 ≤ w; exact w1) (by decide) kk bx1⟩
  · by_cases e1 : r = 1
    · subst e1
      exact ⟨p3, _, ((1 : Nat) : Int), V.str "", rfl, rfl, SqL.of hp3, atI_nat rfl, q _ H1 (Nat.zero_le _) (by decide) kk bx1⟩
    · obtain rfl : r = 2 := by omega
      exact ⟨p3, _, ((2 : Nat) : Int), V.str z, rfl, rfl, SqL.of hp3, atI_nat rfl, q _ H1 hz o kk bx1⟩
theorem rd_law_spoilt {K : PySem.W.Frag} (vs : List V) (H : Hp) (Q : VK) (E : XK) (hh : spSpo K vs H Q E) : t_law_spoilt K spTake { nx := fun _ H' => Q .non H', rt := Q } (start ["_law_box", "_law_line_here", "_law_way", "_law_lines", "_law_k", "_law_words_here", "_law_at", "_law_others", "_law_some", "_law_j", "_law_sign", "_law_cut"] vs) H := by
  obtain ⟨b, t, rfl, bx0, hT, hN, q⟩ := hh.ex
  refine seq (r_take rfl bx0 (fun Q' q' => q') (by decide) (by decide) fun way H1 w0 w1 kp1 bx1 => gn ?_)
  dsimp only
  show tSeq _ _ _ [some (V.ref b), some (.str t), some (.int way), none, none, none, none, none, none, none, none, none] _
  refine seq ⟨_, rfl, ⟨_, rfl⟩, t, ("\n" : Str), rfl, rfl, by decide, (by rw [sizeLine_eq]; omega), fun pl hl => gn ?_⟩
  dsimp only
  show tSeq _ _ _ [some (V.ref b), some (.str t), some (.int way), some (.ref pl), none, none, none, none, none, none, none, none] _
  have gL := split_wl t
  have lne : 1 ≤ (Txt.split t "\n").length := by rw [split_nl]; omega
  have lfew : (Txt.split t "\n").length ≤ 16001 := by rw [split_nl]; omega
  have lshort : ∀ z ∈ Txt.split t "\n", z.length ≤ t.length := fun z hz => part_short hz
  have gL : Wl 16001 1990001 (Txt.split t "\n") := gL.mono (by omega) (by omega)
  generalize Txt.split t "\n" = L at hl gL lne lfew lshort ⊢
  have plb := bx1.ne hl
  have frl : H pl = none := kp1.free hl (by exact fun z => plb z)
  have hp2 : L2.upd H1 pl (.lst (L.map V.str)) pl = some (.lst (L.map V.str)) := upd_same
  have bx2 := bx1.new (o := .lst (L.map V.str)) hl
  have kp2 : Kp (Bx b) H (L2.upd H1 pl (.lst (L.map V.str))) := kp1.trans (Kp.new hl)
  generalize L2.upd H1 pl (.lst (L.map V.str)) = H2 at hp2 bx2 kp2 ⊢
  refine seq (r_take (m := (L.length : Int)) rfl bx2 (fun Q' q' => ⟨_, rfl, pl, _, rfl, .inl (SqL.of hp2), by rw [List.length_map]; exact q'⟩) (by omega) (by omega) fun k0 H3 k00 k01 kp3 bx3 => gn ?_)
  dsimp only
  show tSeq _ _ _ [some (V.ref b), some (.str t), some (.int way), some (.ref pl), some (.int k0), none, none, none, none, none, none, none] _
  have hp3 := kp3 _ _ hp2 plb
  have kp3 := kp2.trans kp3
  have pW : PB (tTest (tOp rGt (tVar 2) (tC (.int 4)))) [some (V.ref b), some (.str t), some (.int way), some (.ref pl), some (.int k0), none, none, none, none, none, none, none] H3 (decide (4 < way)) := fun Q' q' => ⟨_, rfl, _, _, rfl, rfl, _, rfl, q'⟩
  refine seq (r_if pW (fun hw => ?_) (fun hw => ?_))
  · have hw := of_decide_eq_true hw
    -- another line, it may be
    refine seq_inv (fun σ' H' => ∃ (k : Int) (v8 : Option V), σ' = [some (V.ref b), some (.str t), some (.int way), some (.ref pl), some (.int k), none, none, none, v8, none, none, none] ∧ 0 ≤ k ∧ k < (L.length : Int) ∧ H' pl = some (.lst (L.map V.str)) ∧ Kp (Bx b) H H' ∧ Bxd b H') (fun nx hnx => ?_) ?_
    · refine r_take (m := 2) rfl bx3 (fun Q' q' => q') (by decide) (by decide) fun r2 H4 _ _ kp4 bx4 => ⟨rfl, _, rfl, ?_⟩
      have hp4 := kp4 _ _ hp3 plb
      have kp4 := kp3.trans kp4
      refine ifP (fun _ => ?_) (fun _ => hnx _ _ ⟨k0, none, rfl, k00, k01, hp4, kp4, bx4⟩)
      refine seq ⟨_, rfl, pl, _, rfl, .inl (SqL.of hp4), _, rfl, by omega, by rw [List.length_map]; omega, fun D hD => lc_range (lo := 0) (n := (((L.map V.str).length : Nat) : Int).toNat) (fun i H' => ∃ js : List Int, (∀ j ∈ js, 0 ≤ j ∧ j < (L.length : Int)) ∧ js.length ≤ i ∧ H' D = some (.lst (js.map V.int)) ∧ Same H4 H') ⟨[], fun j hj => (by cases hj), Nat.le_refl _, upd_same, Same.new hD⟩ ?_ ?_⟩
      · rintro i H5 hi ⟨js, hj, hjl, hD5, s5⟩
        rw [List.length_map, Int.toNat_natCast] at hi
        have e0 : (0 : Int) + (i : Int) = (i : Int) := by omega
        rw [e0]
        have ei : L[i]? = some L[i] := List.getElem?_eq_getElem hi
        have hz := lshort _ (List.getElem_mem hi)
        generalize L[i] = z at ei hz
        refine ⟨rfl, ?_⟩
        refine ⟨_, rfl, _, rfl, pl, _, (i : Int), V.str z, rfl, rfl, SqL.of (s5 _ _ hp4), atI_nat (by rw [List.getElem?_map, ei]; rfl), 5, rfl, z, rfl, by rw [sizeLine_eq]; omega, rfl, _, rfl, ?_⟩
        refine ifP (fun _ => ?_) (fun _ => ⟨js, hj, by omega, hD5, s5⟩)
        refine ⟨_, rfl, _, hD5, by rw [List.length_map]; exact sz_lt1 (by omega), js ++ [(i : Int)], fun j hjm => ?_, by rw [List.length_append]; simp; omega, by rw [upd_same, List.map_append]; rfl, fun x o e => by rw [upd_ne (ne_of_none e hD)]; exact s5 _ _ e⟩
        rcases List.mem_append.mp hjm with hjm | hjm
        · exact hj j hjm
        · rw [List.mem_singleton.mp hjm]; omega
      · rintro H5 ⟨js, hj, hjl, hD5, s5⟩
        refine gn ?_
        dsimp only
        have hp5 := s5 _ _ hp4
        have bx5 : Bxd b H5 := by obtain ⟨l, h⟩ := bx4; exact ⟨l, s5 _ _ h⟩
        have kp5 := kp4.trans (Kp.same (B := Bx b) s5)
        refine ⟨_, rfl, (by show 0 ≤ sizeLine; decide), fun pe he => ⟨D, pe, _, rfl, rfl, SqL.of (by rw [upd_ne (ne_of_none hD5 he)]; exact hD5), SqL.of upd_same, _, rfl, ?_⟩⟩
        have hD6 : L2.upd H5 pe (.lst []) D = some (.lst (js.map V.int)) := by rw [upd_ne (ne_of_none hD5 he)]; exact hD5
        have hp6 : L2.upd H5 pe (.lst []) pl = some (.lst (L.map V.str)) := by rw [upd_ne (ne_of_none hp5 he)]; exact hp5
        have bx6 := bx5.new (o := .lst []) he
        have kp6 : Kp (Bx b) H (L2.upd H5 pe (.lst [])) := kp5.trans (Kp.new he)
        generalize L2.upd H5 pe (.lst []) = H6 at hD6 hp6 bx6 kp6 ⊢
        refine ifP (fun h0 => ?_) (fun h0 => ?_)
        · have jpos : 0 < js.length := by
            cases js with
            | nil => cases h0
            | cons _ _ => simp
          have m0 : 0 ≤ k0 % (js.length : Int) := Int.emod_nonneg _ (by omega)
          have m1 : k0 % (js.length : Int) < (js.length : Int) := Int.emod_lt_of_pos _ (by omega)
          obtain ⟨m, hm⟩ := Int.eq_ofNat_of_zero_le m0
          have hmj : m < js.length := by omega
          have em : js[m]? = some js[m] := List.getElem?_eq_getElem hmj
          have hjm := hj _ (List.getElem_mem hmj)
          generalize js[m] = jj at em hjm
          refine ⟨_, rfl, _, rfl, _, rfl, D, _, rfl, .inl (SqL.of hD6), k0, _, rfl, rfl, (by rw [List.length_map]; omega), D, _, _, V.int jj, rfl, rfl, SqL.of hD6, ?_, ?_⟩
          · rw [List.length_map, hm]
            exact atI_nat (by rw [List.getElem?_map, em]; rfl)
          · exact gn (hnx _ _ ⟨jj, some (.ref D), rfl, hjm.1, hjm.2, hp6, kp6, bx6⟩)
        · exact ⟨_, rfl, gn (hnx _ _ ⟨k0, some (.ref D), rfl, k00, k01, hp6, kp6, bx6⟩)⟩
    rintro _ H4 ⟨k, v8, rfl, kk0, kk1, hp4, kp4, bx4⟩
    obtain ⟨kn, rfl⟩ := Int.eq_ofNat_of_zero_le kk0
    have hkn : kn < L.length := by omega
    have ek : L[kn]? = some L[kn] := List.getElem?_eq_getElem hkn
    have hz := lshort _ (List.getElem_mem hkn)
    have hzo := gL.off _ (List.getElem_mem hkn)
    generalize L[kn] = z at ek hz hzo
    refine seq ⟨_, rfl, _, rfl, pl, _, (kn : Int), V.str z, rfl, rfl, SqL.of hp4, atI_nat (by rw [List.getElem?_map, ek]; rfl), ⟨_, rfl⟩, z, (" " : Str), rfl, rfl, by decide, (by rw [sizeLine_eq]; omega), fun pw hpw => gn ?_⟩
    dsimp only
    have gW : Wl 1990002 1990001 (Txt.split z " ") := (words_wl hzo).mono (by omega) (by omega)
    have wne : 1 ≤ (Txt.split z " ").length := split_pos z " "
    generalize Txt.split z " " = W at hpw gW wne ⊢
    show tSeq _ _ _ [some (V.ref b), some (.str t), some (.int way), some (.ref pl), some (.int (kn : Int)), some (.ref pw), none, none, v8, none, none, none] _
    have pwb := bx4.ne hpw
    have hw5 : L2.upd H4 pw (.lst (W.map V.str)) pw = some (.lst (W.map V.str)) := upd_same
    have hp5 : L2.upd H4 pw (.lst (W.map V.str)) pl = some (.lst (L.map V.str)) := by rw [upd_ne (ne_of_none hp4 hpw)]; exact hp4
    have bx5 := bx4.new (o := .lst (W.map V.str)) hpw
    have kp5 : Kp (Bx b) H (L2.upd H4 pw (.lst (W.map V.str))) := kp4.trans (Kp.new hpw)
    generalize L2.upd H4 pw (.lst (W.map V.str)) = H5 at hw5 hp5 bx5 kp5 ⊢
    have wfew := gW.few
    refine seq (r_take (m := (W.length : Int)) rfl bx5 (fun Q' q' => ⟨_, rfl, pw, _, rfl, .inl (SqL.of hw5), by rw [List.length_map]; exact q'⟩) (by omega) (by omega) fun at' H6 a0 a1 kp6 bx6 => gn ?_)
    dsimp only
    obtain ⟨an, rfl⟩ := Int.eq_ofNat_of_zero_le a0
    show tSeq _ _ _ [some (V.ref b), some (.str t), some (.int way), some (.ref pl), some (.int (kn : Int)), some (.ref pw), some (.int (an : Int)), none, v8, none, none, none] _
    have hw6 := kp6 _ _ hw5 pwb
    have hp6 := kp6 _ _ hp5 plb
    have kp6 := kp5.trans kp6
    have han : an < W.length := by omega
    have ea : W[an]? = some W[an] := List.getElem?_eq_getElem han
    have hy := wt_mem (List.getElem_mem han)
    have hyo := gW.off _ (List.getElem_mem han)
    have wwgt := gW.wgt
    generalize W[an] = y at ea hy hyo
    have GA : GL (tOp rCat (tOp rCat (tSl (rSlL K) (tVar 5) tNoPart (tPart (tVar 6))) (tLst (tCons (tC (.str "-")) (tNil)))) (tSl (rSlL K) (tVar 5) (tPart (tOp rAdI (tVar 6) (tC (.int 1)))) tNoPart)) [some (V.ref b), some (.str t), some (.int way), some (.ref pl), some (.int (kn : Int)), some (.ref pw), some (.int (an : Int)), none, v8, none, none, none] b H6 (1990002 + 1 + 1990002) (1990001 + 1 + 1990001) :=
      GL.cat (GL.cat (GL.sl rfl pwb hw6 gW GO.no (GO.var rfl)) (GL.one (GS.c (by decide) (by decide))) (by decide)) (GL.sl rfl pwb hw6 gW (GO.add rfl) GO.no) (by decide)
    have GB : GL (tOp rCat (tVar 5) (tLst (tCons (tOp (rIxL K) (tLst (tCons (tC (.str "0")) (tCons (tC (.str "")) (tCons (tOp (rIxL K) (tVar 5) (tVar 6)) (tNil))))) (tCall spTake [] E0 (tCons (tVar 0) (tCons (tC (.int 3)) (tNil))))) (tNil)))) [some (V.ref b), some (.str t), some (.int way), some (.ref pl), some (.int (kn : Int)), some (.ref pw), some (.int (an : Int)), none, v8, none, none, none] b H6 (1990002 + 1) (1990001 + 1990001) :=
      GL.cat (GL.var rfl pwb hw6 gW) (GL.one (GS.pick rfl rfl pwb hw6 rfl ea (by omega) (by decide) hyo)) (by decide)
    have GC : GL (tSl (rSlL K) (tVar 5) tNoPart (tPart (tUn rNeg (tC (.int 1))))) [some (V.ref b), some (.str t), some (.int way), some (.ref pl), some (.int (kn : Int)), some (.ref pw), some (.int (an : Int)), none, v8, none, none, none] b H6 1990002 1990001 :=
      GL.sl rfl pwb hw6 gW GO.no GO.neg
    refine seq (GA H6 (Kp.refl _ _) bx6 _ fun pA LA H7 nAb hA7 gA k7 bx7 => GB H7 k7 bx7 _ fun pB LB H8 nBb hB8 gB k8 bx8 => GC H8 (k7.trans k8) bx8 _ fun pC LC H9 nCb hC9 gC k9 bx9 => ?_)
    refine ⟨(by show 3 ≤ sizeLine; decide), fun po hpo => gn ?_⟩
    dsimp only
    show tSeq _ _ _ [some (V.ref b), some (.str t), some (.int way), some (.ref pl), some (.int (kn : Int)), some (.ref pw), some (.int (an : Int)), some (.ref po), v8, none, none, none] _
    have kN := Kp.new (B := Bx b) (o := .lst [V.ref pA, .ref pB, .ref pC]) hpo
    have hA := kN _ _ (k9 _ _ (k8 _ _ hA7 nAb) nAb) nAb
    have hB := kN _ _ (k9 _ _ hB8 nBb) nBb
    have hC := kN _ _ hC9 nCb
    have hO : L2.upd H9 po (.lst [V.ref pA, .ref pB, .ref pC]) po = some (.lst [V.ref pA, .ref pB, .ref pC]) := upd_same
    have hp7 := kN _ _ (k9 _ _ (k8 _ _ (k7 _ _ hp6 plb) plb) plb) plb
    have bxN := bx9.new (o := .lst [V.ref pA, .ref pB, .ref pC]) hpo
    have kpN := (((kp6.trans k7).trans k8).trans k9).trans kN
    generalize L2.upd H9 po (.lst [V.ref pA, .ref pB, .ref pC]) = HA at hA hB hC hO hp7 bxN kpN ⊢
    -- the words, joined
    have fin : ∀ (D : Ends) (px : Addr) (M : List Str), (∀ v H', Q v H' → D.rt v H') → HA px = some (.lst (M.map V.str)) → Wl 4000000 4000000 M → (way - 5 = 0 ∧ px = pA ∨ way - 5 = 1 ∧ px = pB ∨ way - 5 = 2 ∧ px = pC) →
        tSeq (tAsg (tM1 (rJoin K) (tC (.str " ")) (tOp (rIxL K) (tVar 7) (tOp rSbI (tVar 2) (tC (.int 5))))) (gSub (tVar 3) (tVar 4) rSetL)) (tRet (tM1 (rJoin K) (tC (.str "\n")) (tVar 3))) D [some (V.ref b), some (.str t), some (.int way), some (.ref pl), some (.int (kn : Int)), some (.ref pw), some (.int (an : Int)), some (.ref po), v8, none, none, none] HA := by
      intro D px M hD hx gM hpx
      have e1 : (" " : Str).length = 1 := by decide
      have mf := gM.few
      have mw := gM.wgt
      have jw := join_wt " " M
      rw [e1] at jw
      have jo : 10 ∉ sg (Txt.join " " M) := join_off sp_off gM.off
      have ix : atI [V.ref pA, .ref pB, .ref pC] (way - 5) = some (.ref px) := by
        rcases hpx with ⟨h, rfl⟩ | ⟨h, rfl⟩ | ⟨h, rfl⟩ <;> rw [h] <;> rfl
      refine seq ⟨⟨_, rfl⟩, _, rfl, _, rfl, _, _, rfl, rfl, po, _, _, _, rfl, rfl, SqL.of hO, ix, _, px, M, rfl, rfl, .inl (SqL.of hx), by rw [e1]; unfold wt at mw; omega, ?_⟩
      refine ⟨_, rfl, _, rfl, pl, _, (kn : Int), kn, rfl, rfl, hp7, ?_, ?_⟩
      · unfold ixN
        rw [if_pos (by omega), if_pos (by rw [List.length_map]; omega)]
        simp
      · dsimp only
        have esl : (L.map V.str).set kn (V.str (Txt.join " " M)) = (L.set kn (Txt.join " " M)).map V.str := by rw [List.map_set]
        rw [esl]
        have gS : Wl 16001 9990001 (L.set kn (Txt.join " " M)) := by
          refine ⟨by rw [List.length_set]; exact gL.few, ?_, fun x hx => ?_⟩
          · have := wt_set L kn (Txt.join " " M)
            have := gL.wgt
            omega
          · rcases List.mem_or_eq_of_mem_set hx with hx | rfl
            · exact gL.off x hx
            · exact jo
        have kS : Kp (Bx b) H (L2.upd HA pl (.lst ((L.set kn (Txt.join " " M)).map V.str))) := kpN.late frl
        have bxS : Bxd b (L2.upd HA pl (.lst ((L.set kn (Txt.join " " M)).map V.str))) := by
          obtain ⟨l, h⟩ := bxN
          exact ⟨l, by rw [upd_ne (Ne.symm plb)]; exact h⟩
        refine ret_join (w := 9990001) (n := 16001) (GL.var rfl plb upd_same gS) bxS (by decide) fun t' H' h1 h2 k' bx' => ?_
        exact hD _ _ (q t' H' (by omega) (by omega) (kS.trans k') bx')
    have hD : ∀ (v : V) (H' : Hp), Q v H' → Q v H' := fun _ _ h => h
    by_cases e5 : way = 5
    · exact fin _ pA LA hD hA (gA.mono (by decide) (by decide)) (.inl ⟨by omega, rfl⟩)
    · by_cases e6 : way = 6
      · exact fin _ pB LB hD hB (gB.mono (by decide) (by decide)) (.inr (.inl ⟨by omega, rfl⟩))
      · exact fin _ pC LC hD hC (gC.mono (by decide) (by decide)) (.inr (.inr ⟨by omega, rfl⟩))
  · have hS : ∀ (te : TE) (n w : Nat) (D : Ends), (∀ v H', Q v H' → D.rt v H') → n ≤ 48003 → w ≤ 6000003 → GL te [some (V.ref b), some (.str t), some (.int way), some (.ref pl), some (.int k0), none, none, none, none, none, none, none] b H3 n w → tRet (tM1 (rJoin K) (tC (.str "\n")) te) D [some (V.ref b), some (.str t), some (.int way), some (.ref pl), some (.int k0), none, none, none, none, none, none, none] H3 := fun te n w D hD h1 h2 g =>
      ret_join g bx3 (by omega) fun t' H' a1 a2 k' bx' => hD _ _ (q t' H' (by omega) (by omega) (kp3.trans k') bx')
    obtain ⟨kn, rfl⟩ := Int.eq_ofNat_of_zero_le k00
    have ek : L[kn]? = some L[kn] := List.getElem?_eq_getElem (by omega)
    have hz := lshort _ (List.getElem_mem (show kn < L.length by omega))
    have hzo := gL.off _ (List.getElem_mem (show kn < L.length by omega))
    generalize L[kn] = z at ek hz hzo
    have GV := fun {tl th : TO} (gl : GO tl [some (V.ref b), some (.str t), some (.int way), some (.ref pl), some (.int (kn : Int)), none, none, none, none, none, none, none]) (gh : GO th _) => GL.sl (K := K) (i := 3) rfl plb hp3 gL gl gh
    have pE : ∀ c : Int, PB (tTest (tOp rEq (tVar 2) (tC (.int c)))) [some (V.ref b), some (.str t), some (.int way), some (.ref pl), some (.int (kn : Int)), none, none, none, none, none, none, none] H3 (decide (V.int way = V.int c)) := fun c => pb_eqI rfl
    refine seq (r_if (pE 0) (fun _ => hS _ _ _ _ (fun _ _ h => h) (by decide) (by decide) (GL.cat (GV GO.no (GO.var rfl)) (GV (GO.add rfl) GO.no) (by decide))) fun h0 => ?_)
    refine seq (r_if (pE 1) (fun _ => hS _ _ _ _ (fun _ _ h => h) (by decide) (by decide) (GL.cat (GL.cat (GV GO.no (GO.var rfl)) (GL.one (GS.ix (j := kn) (z := z) (w := 1990000) rfl plb hp3 rfl ek (by omega) hzo)) (by decide)) (GV (GO.var rfl) GO.no) (by decide))) fun h1 => ?_)
    refine seq (r_if (pE 2) (fun _ => hS _ _ _ _ (fun _ _ h => h) (by decide) (by decide) (GL.cat (GL.cat (GV GO.no (GO.var rfl)) (GL.rev (GV (GO.var rfl) (GO.add rfl))) (by decide)) (GV (GO.add rfl) GO.no) (by decide))) fun h2 => ?_)
    -- signs
    dsimp only [tNext]
    show tSeq (tFor _ _ _) (tRet _) _ [some (V.ref b), some (.str t), some (.int way), some (.ref pl), some (.int (kn : Int)), none, none, none, none, none, none, none] H3
    refine seq_inv (fun σ' H' => ∃ (t' : Str) (v6 v9 v10 v11 : Option V), σ' = [some (V.ref b), some (.str t'), some (.int way), some (.ref pl), some (.int (kn : Int)), none, v6, none, none, v9, v10, v11] ∧ t'.length ≤ t.length + 3 ∧ nlc t' ≤ nlc t + 3 ∧ Kp (Bx b) H H' ∧ Bxd b H') (fun nx hnx => ?_) ?_
    · refine r_take (m := 3) rfl bx3 (fun Q' q' => q') (by decide) (by decide) fun r3 H4 r30 r31 kp4 bx4 => ⟨1, r3, rfl, rfl, _, rfl, by omega, by omega, for_range (lo := 0) (n := (1 + r3).toNat) (fun i σ' H' => ∃ (t' : Str) (v6 v9 v10 v11 : Option V), σ' = [some (V.ref b), some (.str t'), some (.int way), some (.ref pl), some (.int (kn : Int)), none, v6, none, none, v9, v10, v11] ∧ t'.length ≤ t.length + i ∧ nlc t' ≤ nlc t + i ∧ Kp (Bx b) H H' ∧ Bxd b H')
        ⟨t, none, none, none, none, rfl, Nat.le_refl _, Nat.le_refl _, kp3.trans kp4, bx4⟩ ?_ ?_⟩
      · rintro i σ' H5 hi ⟨t', v6, v9, v10, v11, rfl, l5, n5, kp5, bx5⟩
        refine gn ?_
        have hi3 : i < 3 := by omega
        have zl : t'.length ≤ sizeLine := by rw [sizeLine_eq]; omega
        refine seq (r_take (m := (t'.length : Int) + 1) rfl bx5 (fun Q' q' => ⟨_, rfl, t', rfl, zl, _, _, rfl, rfl, q'⟩) (by omega) (by omega) fun a H6 a0 a1 kp6 bx6 => gn ?_)
        dsimp only
        obtain ⟨an, rfl⟩ := Int.eq_ofNat_of_zero_le a0
        show tSeq _ _ _ [some (V.ref b), some (.str t'), some (.int way), some (.ref pl), some (.int (kn : Int)), none, some (.int (an : Int)), none, none, some (.int (0 + (i : Int))), v10, v11] _
        refine seq (r_take (m := 41) rfl bx6 (fun Q' q' => q') (by decide) (by decide) fun s H7 s0 s1 kp7 bx7 => ?_)
        obtain ⟨sn, rfl⟩ := Int.eq_ofNat_of_zero_le s0
        have hsl : ("0123456789- \nabcdefghijklmnopqrstuvwxyz+." : Str).cps.toList.length = 41 := by decide +kernel
        have esn : ("0123456789- \nabcdefghijklmnopqrstuvwxyz+." : Str).cps.toList[sn]? = some (("0123456789- \nabcdefghijklmnopqrstuvwxyz+." : Str).cps.toList[sn]'(by rw [hsl]; omega)) := List.getElem?_eq_getElem _
        generalize ("0123456789- \nabcdefghijklmnopqrstuvwxyz+." : Str).cps.toList[sn]'(by rw [hsl]; omega) = c at esn
        refine ⟨_, _, c, rfl, rfl, by rw [← sg_len, show (sg ("0123456789- \nabcdefghijklmnopqrstuvwxyz+." : Str)).length = 41 from hsl, sizeLine_eq]; decide, atI_nat esn, gn ?_⟩
        dsimp only
        show tSeq _ _ _ [some (V.ref b), some (.str t'), some (.int way), some (.ref pl), some (.int (kn : Int)), none, some (.int (an : Int)), none, none, some (.int (0 + (i : Int))), some (.str ⟨#[c]⟩), v11] _
        refine seq (r_take (m := 3) rfl bx7 (fun Q' q' => q') (by decide) (by decide) fun u H8 u0 u1 kp8 bx8 => gn ?_)
        dsimp only
        show tAsg _ _ _ [some (V.ref b), some (.str t'), some (.int way), some (.ref pl), some (.int (kn : Int)), none, some (.int (an : Int)), none, none, some (.int (0 + (i : Int))), some (.str ⟨#[c]⟩), some (.int u)] _
        have kp8 := ((kp5.trans kp6).trans kp7).trans kp8
        obtain ⟨x, zz, hx, hxl, hzz⟩ : ∃ (x : Str) (zz : Nat), atI [V.str "", .str ⟨#[c]⟩, .str ⟨#[c]⟩] u = some (.str x) ∧ x.length ≤ 1 ∧ atI [V.int 1, .int 0, .int 1] u = some (.int (zz : Int)) := by
          by_cases e0 : u = 0
          · subst e0; exact ⟨"", 1, rfl, by decide, rfl⟩
          · by_cases e1 : u = 1
            · subst e1; exact ⟨⟨#[c]⟩, 0, rfl, Nat.le_refl _, rfl⟩
            · obtain rfl : u = 2 := by omega
              exact ⟨⟨#[c]⟩, 1, rfl, Nat.le_refl _, rfl⟩
        have ed := edit_ok (t := t') (x := x) (a := an) (z := zz) (by omega) hxl
        have lx1 : (cutS t' none (some (an : Int)) ++ x).length ≤ sizeLine := by
          have := cutS_length t' none (some (an : Int))
          rw [Str.length_append, sizeLine_eq]
          omega
        refine ⟨_, rfl, _, rfl, _, rfl, t', rfl, zl, _, rfl, _, rfl, (by show 3 ≤ sizeLine; decide), fun p1 h1 => ⟨_, rfl, p1, _, u, _, rfl, rfl, SqL.of upd_same, hx, _, _, rfl, rfl, by rw [← Str.length_append]; exact lx1, ?_⟩⟩
        refine ⟨_, rfl, _, rfl, (by show 3 ≤ sizeLine; decide), fun p2 h2 => ⟨_, rfl, p2, _, u, _, rfl, rfl, SqL.of upd_same, hzz, _, _, rfl, rfl, _, rfl, t', rfl, zl, _, _, rfl, rfl, ?_, gn ?_⟩⟩
        · have := cutS_length t' (some ((an : Int) + (zz : Int))) none
          have := cutS_length t' none (some (an : Int))
          rw [Str.length_append, sizeLine_eq]
          omega
        · dsimp only
          have ez : (an : Int) + (zz : Int) = ((an + zz : Nat) : Int) := by omega
          rw [ez]
          exact ⟨_, _, _, _, _, rfl, by omega, by omega, (kp8.trans (Kp.new h1)).trans (Kp.new h2), (bx8.new h1).new h2⟩
      · rintro σ' H5 ⟨t', v6, v9, v10, v11, rfl, l5, n5, kp5, bx5⟩
        exact hnx _ _ ⟨t', v6, v9, v10, v11, rfl, by omega, by omega, kp5, bx5⟩
    · rintro _ H5 ⟨t', v6, v9, v10, v11, rfl, l5, n5, kp5, bx5⟩
      exact ⟨_, rfl, q t' H5 (by omega) (by omega) kp5 bx5⟩
end RL
end Lp

/-! LzA: listings of any good code. -/
namespace Lp
open PySem PySem.Spec PyProof.Rows L2
namespace RL
open KL (gn seq seq_inv SE app_str fn_len tListing row_join spWord spLine)
structure FdW (f : Fd) : Prop where
  many : 0 ≤ f.many ∧ f.many < 10 ^ 9
  rows : ∀ r ∈ f.rows, RowOk r
  tab : ∀ r ∈ f.tab, RowOk r
theorem flat_take {α β : Type} {g : α → List β} : ∀ {l : List α} {n : Nat}, ((l.take n).flatMap g).length ≤ (l.flatMap g).length
  | [], n => by rw [List.take_nil]; exact Nat.le_refl _
  | a :: l, 0 => by simp
  | a :: l, n + 1 => by
    rw [List.take_succ_cons, List.flatMap_cons, List.flatMap_cons, List.length_append, List.length_append]
    have := flat_take (g := g) (l := l) (n := n)
    omega
structure ListGP (K : PySem.W.Frag) (vs : List V) (H : Hp) (Q : VK) : Prop where
  ex : ∃ (v : V) (fs : List Fd), vs = [v] ∧ Tp K H v (.tuple (fs.map Fd.d)) ∧ (∀ f ∈ fs, FdW f) ∧ (fs.flatMap Fd.lines).length ≤ 900000 ∧ wt (fs.flatMap Fd.lines) + (fs.flatMap Fd.lines).length ≤ 16000000 ∧ ∀ H', Same H H' → Q (.str (listingD fs)) H'
def spListG (K : PySem.W.Frag) : Sp := fun vs H Q _ => ListGP K vs H Q
theorem rd_allG {K : PySem.W.Frag} {le : TE} {rest : List (Option V)} (hle : ∀ (v1 v2 v3 : Option V) (r : V) (ds : List PyData) (H : Hp), Tp K H r (.tuple ds) → RowOk ds → SE le (v1 :: v2 :: v3 :: some r :: rest) H (rowL ds)) {v : V} {fs : List Fd} {H : Hp} {Q : VK}
    (tv : Tp K H v (.tuple (fs.map Fd.d))) (ok : ∀ f ∈ fs, FdW f) (few : (fs.flatMap Fd.lines).length ≤ 900000) (wgt : wt (fs.flatMap Fd.lines) + (fs.flatMap Fd.lines).length ≤ 16000000) (q : ∀ H', Same H H' → Q (.str (listingD fs)) H') : tListing K le { nx := fun _ H' => Q .non H', rt := Q } (some v :: none :: none :: none :: rest) H := by
  obtain ⟨a, xs, rfl, hT, tx⟩ := tv.tupE
  have lx : xs.length = fs.length := by rw [tx.length, List.length_map]
  refine ⟨(by show 0 ≤ sizeLine; decide), fun p hp => gn ?_⟩
  simp only [List.set_cons_succ, List.set_cons_zero]
  have s1 : Same H (L2.upd H p (.lst [])) := Same.new hp
  have hp1 : L2.upd H p (.lst []) p = some (.lst (([] : List Str).map V.str)) := upd_same
  generalize L2.upd H p (.lst []) = H1 at s1 hp1 ⊢
  -- what stood stands
  refine seq_inv (fun σ' H' => ∃ v2 v3, σ' = some (.ref a) :: some (.ref p) :: v2 :: v3 :: rest ∧ H' p = some (.lst ((fs.flatMap Fd.lines).map V.str)) ∧ Same H H') (fun nx hnx => ?_) ?_
  · refine ⟨_, rfl, a, rfl, ⟨_, s1.sqT hT⟩, for_tup (K := K) (a := a) (xs := xs) (fun i σ' H' => ∃ v2 v3, σ' = some (.ref a) :: some (.ref p) :: v2 :: v3 :: rest ∧ H' p = some (.lst (((fs.take i).flatMap Fd.lines).map V.str)) ∧ Same H H') ⟨_, _, rfl, by simpa using hp1, s1⟩ (fun i σ' H' _ ⟨_, _, _, _, s'⟩ => s'.sqT hT) ?_ ?_⟩
    · rintro i x σ' H2 hx ⟨v2, v3, rfl, hp2, s2⟩
      refine gn ?_
      simp only [List.set_cons_succ, List.set_cons_zero]
      have hi : i < fs.length := by have := (List.getElem?_eq_some_iff.mp hx).1; omega
      have ef : fs[i]? = some fs[i] := List.getElem?_eq_getElem hi
      obtain ⟨x', hx', txx⟩ := tx.get' (i := i) (d := fs[i].d) (by rw [List.getElem?_map, ef]; rfl)
      obtain rfl : x' = x := by rw [hx] at hx'; exact (Option.some.inj hx').symm
      have okf := ok _ (List.getElem_mem hi)
      have etake : fs.take (i + 1) = fs.take i ++ [fs[i]] := by rw [List.take_succ, ef]; rfl
      generalize fs[i] = f at txx okf etake
      have lpre : ((fs.take i).flatMap Fd.lines).length + (1 + (f.rows.length + f.tab.length)) ≤ 900000 := by
        have h1 := flat_take (g := Fd.lines) (l := fs) (n := i + 1)
        rw [etake, List.flatMap_append, List.length_append] at h1
        have h2 : ([f].flatMap Fd.lines).length = 1 + (f.rows.length + f.tab.length) := by rw [List.flatMap_cons, List.flatMap_nil, List.append_nil]; exact fd_len
        omega
      obtain ⟨fa, y0, y1, y2, rfl, hF, t0, t1, t2⟩ := (show Tp K H x' (.tuple [.int f.many, .tuple (f.rows.map .tuple), .tuple (f.tab.map .tuple)]) from txx).tup3
      cases t0.intE
      obtain ⟨ra, rxs, rfl, hR, trs⟩ := t1.tupE
      obtain ⟨ta, txs, rfl, hTb, tts⟩ := t2.tupE
      have lr : rxs.length = f.rows.length := by rw [trs.length, List.length_map]
      have lt : txs.length = f.tab.length := by rw [tts.length, List.length_map]
      have fl := fn_len okf.many
      have stay : ∀ {G G' : Hp}, Same H G → (∀ b o, b ≠ p → G b = some o → G' b = some o) → Same H G' := fun s k b o e => k b o (ne_of_none e hp) (s b o e)
      have len9 : ("function " : Str).length = 9 := by decide
      have len6 : ("table " : Str).length = 6 := by decide
      refine seq (app_str (K := K) (s := fnL f.many) rfl hp2 (by omega) (te := tOp rAddS (tC (.str "function ")) (tCB rStr1 (tCons (tOp (rIxT K) (tVar 2) (tC (.int 0))) (tNil)))) (fun G sG Q' q' => rd_ixT (i := 2) (j := 0) rfl ((s2.trans sG).sqT hF) rfl (.inl ⟨f.many, rfl, log_small okf.many.1 okf.many.2, _, _, rfl, rfl, by rw [len9]; exact sz_le1 (by omega), q' G (Same.refl _)⟩)) fun H3 hp3 k3 tk3 => ?_)
      have s3 := stay s2 k3
      dsimp only
      refine seq_inv (fun σ' H' => ∃ v3, σ' = some (.ref a) :: some (.ref p) :: some (.ref fa) :: v3 :: rest ∧ H' p = some (.lst (((fs.take i).flatMap Fd.lines ++ [fnL f.many] ++ f.rows.map rowL).map V.str)) ∧ Same H H') (fun nx2 hnx2 => ?_) ?_
      · refine ⟨_, rfl, fa, _, ((1 : Nat) : Int), _, rfl, rfl, s3.sqT hF, atI_nat rfl, ra, rfl, ⟨_, s3.sqT hR⟩, for_tup (K := K) (a := ra) (xs := rxs) (fun j σ' H' => ∃ v3, σ' = some (.ref a) :: some (.ref p) :: some (.ref fa) :: v3 :: rest ∧ H' p = some (.lst (((fs.take i).flatMap Fd.lines ++ [fnL f.many] ++ (f.rows.take j).map rowL).map V.str)) ∧ Same H H') ⟨_, rfl, by simpa using hp3, s3⟩ (fun j σ' H' _ ⟨_, _, _, s'⟩ => s'.sqT hR) ?_ ?_⟩
        · rintro j y σ' H4 hy ⟨v3, rfl, hp4, s4⟩
          refine gn ?_
          simp only [List.set_cons_succ, List.set_cons_zero]
          obtain ⟨d, hd, td⟩ := trs.get hy
          rw [List.getElem?_map] at hd
          cases er : f.rows[j]? with
          | none => rw [er] at hd; cases hd
          | some r =>
            rw [er] at hd
            obtain rfl : PyData.tuple r = d := Option.some.inj hd
            have hj := (List.getElem?_eq_some_iff.mp er).1
            refine app_str (K := K) (s := rowL r) rfl hp4 ?_ (hle _ _ _ y r H4 (td.mono (Tk.same s4)) (okf.rows r (List.mem_of_getElem? er))) fun H5 hp5 k5 tk5 => ⟨_, rfl, ?_, stay s4 k5⟩
            · have hj2 := hj
              simp only [List.length_append, List.length_map, List.length_take, List.length_cons, List.length_nil]
              omega
            · rw [hp5, List.take_succ, er, List.map_append (f := rowL), ← List.append_assoc]; rfl
        · rintro σ' H4 ⟨v3, rfl, hp4, s4⟩
          rw [List.take_of_length_le (l := f.rows) (by omega)] at hp4
          exact hnx2 _ _ ⟨v3, rfl, hp4, s4⟩
      rintro _ H4 ⟨v3, rfl, hp4, s4⟩
      refine ⟨_, rfl, fa, _, ((2 : Nat) : Int), _, rfl, rfl, s4.sqT hF, atI_nat rfl, ta, rfl, ⟨_, s4.sqT hTb⟩, for_tup (K := K) (a := ta) (xs := txs) (fun j σ' H' => ∃ v3, σ' = some (.ref a) :: some (.ref p) :: some (.ref fa) :: v3 :: rest ∧ H' p = some (.lst (((fs.take i).flatMap Fd.lines ++ [fnL f.many] ++ f.rows.map rowL ++ (f.tab.take j).map tabL).map V.str)) ∧ Same H H') ⟨_, rfl, by simpa using hp4, s4⟩ (fun j σ' H' _ ⟨_, _, _, s'⟩ => s'.sqT hTb) ?_ ?_⟩
      · rintro j y σ' H5 hy ⟨v3, rfl, hp5, s5⟩
        refine gn ?_
        simp only [List.set_cons_succ, List.set_cons_zero]
        obtain ⟨d, hd, td⟩ := tts.get hy
        rw [List.getElem?_map] at hd
        cases er : f.tab[j]? with
        | none => rw [er] at hd; cases hd
        | some r =>
          rw [er] at hd
          obtain rfl : PyData.tuple r = d := Option.some.inj hd
          have okr := okf.tab r (List.mem_of_getElem? er)
          have lr := row_len okr
          have hj := (List.getElem?_eq_some_iff.mp er).1
          refine app_str (K := K) (s := tabL r) (te := tOp rAddS (tC (.str "table ")) le) rfl hp5 ?_ (fun G sG Q' q' => hle _ _ _ y r H5 (td.mono (Tk.same s5)) okr G sG _ fun G2 s2' => ⟨_, _, rfl, rfl, by rw [len6]; exact sz_le1 (by omega), q' G2 s2'⟩) fun H6 hp6 k6 tk6 => ⟨_, rfl, ?_, stay s5 k6⟩
          · have hj2 := hj
            simp only [List.length_append, List.length_map, List.length_take, List.length_cons, List.length_nil]
            omega
          · rw [hp6, List.take_succ, er, List.map_append (f := tabL), ← List.append_assoc]; rfl
      · rintro σ' H5 ⟨v3, rfl, hp5, s5⟩
        rw [List.take_of_length_le (l := f.tab) (by omega)] at hp5
        refine ⟨_, _, rfl, ?_, s5⟩
        rw [hp5, etake, List.flatMap_append]
        simp [Fd.lines]
    · rintro σ' H2 ⟨v2, v3, rfl, hp2, s2⟩
      rw [List.take_of_length_le (by omega)] at hp2
      exact hnx _ _ ⟨v2, v3, rfl, hp2, s2⟩
  rintro _ H2 ⟨v2, v3, rfl, hp2, s2⟩
  refine ⟨⟨_, rfl⟩, _, rfl, _, p, _, rfl, rfl, .inl (SqL.of hp2), ?_, q H2 s2⟩
  have : ("\n" : Str).length = 1 := by decide
  rw [this]
  unfold wt at wgt
  omega
theorem rd_law_listedG {K : PySem.W.Frag} (vs : List V) (H : Hp) (Q : VK) (E : XK) (hh : spListG K vs H Q E) : t_law_listed K (spWord K) { nx := fun _ H' => Q .non H', rt := Q } (start ["_law_code_here", "_law_lines", "_law_function", "_law_row", "_law_part_here"] vs) H := by
  obtain ⟨v, fs, rfl, tv, ok, few, wgt, q⟩ := hh.ex
  exact rd_allG (K := K) (rest := [none]) (le := tM1 (rJoin K) (tC (.str " ")) (tLc (iTup K (tVar 3)) (gName 4) (tYes) (tCall (spWord K) [] E0 (tCons (tVar 4) (tNil))) [4])) (fun v1 v2 v3 r ds H t okr => row_join (K := K) (i := 3) (k := 4) rfl t okr (by show 4 < 5; decide) (fun _ => rfl)) tv ok few wgt q
end RL
end Lp

/-! LzB: the law's look at a code that was read. -/
namespace Lp
open PySem PySem.Spec PyProof.Rows L2
def t_law_good_number (K : PySem.W.Frag) : TS :=
  tRet (tAndV (tCB (rIsi K) (tCons (tVar 0) (tCons (tC (.ty "int")) (tNil)))) (tAndV (tNotV (tCB (rIsi K) (tCons (tVar 0) (tCons (tC (.ty "bool")) (tNil))))) (tAndV (tOp rLe (tC (.int 0)) (tVar 0)) (tOp rLe (tVar 0) (tC (.int 999999))))))

def t_law_good_row (K : PySem.W.Frag) (sp_law_words : Sp) (sp_law_good_number : Sp) : TS :=
  tSeq (tAsg (tCall sp_law_words [] E0 tNil) (gName 1)) (tSeq (tIfS (tOr (tNot (tB (tCB (rIsi K) (tCons (tVar 0) (tCons (tC (.ty "tuple")) (tNil)))))) (tOr (tTest (tOp rEq (tCB (rLenQ K) (tCons (tVar 0) (tNil))) (tC (.int 0)))) (tNot (tB (tCB (rIsi K) (tCons (tOp (rIxT K) (tVar 0) (tC (.int 0))) (tCons (tC (.ty "str")) (tNil)))))))) (tRet (tC (.bl false))) (tNext)) (tSeq (tIfS (tOr (tB (tDNotIn (tOp (rIxT K) (tVar 0) (tC (.int 0))) (tVar 1))) (tTest (tOp rNe (tCB (rLenQ K) (tCons (tVar 0) (tNil))) (tOp rAdI (tDGet (tVar 1) (tOp (rIxT K) (tVar 0) (tC (.int 0)))) (tC (.int 1)))))) (tRet (tC (.bl false))) (tNext)) (tSeq (tFor (iRng2 (tCons (tC (.int 1)) (tCons (tCB (rLenQ K) (tCons (tVar 0) (tNil))) (tNil)))) (gName 2) (tSeq (tAsg (tAndV (tOp rEq (tOp (rIxT K) (tVar 0) (tC (.int 0))) (tC (.str "handler"))) (tAndV (tOp rEq (tVar 2) (tC (.int 3))) (tOp rIsN (tOp (rIxT K) (tVar 0) (tVar 2)) (tC .non)))) (gName 3)) (tIfS (tAnd (tNot (tB (tVar 3))) (tNot (tB (tCall sp_law_good_number [] E0 (tCons (tOp (rIxT K) (tVar 0) (tVar 2)) (tNil)))))) (tRet (tC (.bl false))) (tNext)))) (tRet (tC (.bl true))))))

def t_law_good_code (K : PySem.W.Frag) (sp_law_good_number : Sp) (sp_law_good_row : Sp) (sp_law_alike : Sp) (sp_law_table : Sp) : TS :=
  tSeq (tIfS (tOr (tNot (tB (tCB (rIsi K) (tCons (tVar 0) (tCons (tC (.ty "tuple")) (tNil)))))) (tTest (tOp rEq (tCB (rLenQ K) (tCons (tVar 0) (tNil))) (tC (.int 0))))) (tRet (tC (.bl false))) (tNext)) (tSeq (tFor (iTup K (tVar 0)) (gName 1) (tSeq (tIfS (tOr (tNot (tB (tCB (rIsi K) (tCons (tVar 1) (tCons (tC (.ty "tuple")) (tNil)))))) (tOr (tTest (tOp rNe (tCB (rLenQ K) (tCons (tVar 1) (tNil))) (tC (.int 3)))) (tNot (tB (tCall sp_law_good_number [] E0 (tCons (tOp (rIxT K) (tVar 1) (tC (.int 0))) (tNil))))))) (tRet (tC (.bl false))) (tNext)) (tSeq (tIfS (tNot (tB (tCB (rIsi K) (tCons (tOp (rIxT K) (tVar 1) (tC (.int 1))) (tCons (tC (.ty "tuple")) (tNil)))))) (tRet (tC (.bl false))) (tNext)) (tSeq (tIfS (tTest (tOp (rNeE K) (tLc (iTup K (tOp (rIxT K) (tVar 1) (tC (.int 1)))) (gName 2) (tNot (tB (tCall sp_law_good_row [] E0 (tCons (tVar 2) (tNil))))) (tVar 2) [2]) (tLst (tNil)))) (tRet (tC (.bl false))) (tNext)) (tIfS (tNot (tB (tCall sp_law_alike [] E0 (tCons (tOp (rIxT K) (tVar 1) (tC (.int 2))) (tCons (tCall sp_law_table [] E0 (tCons (tOp (rIxT K) (tVar 1) (tC (.int 1))) (tNil))) (tNil)))))) (tRet (tC (.bl false))) (tNext)))))) (tRet (tC (.bl true))))

namespace RL
open KL (gn seq seq_inv)
structure GNumP (vs : List V) (H : Hp) (Q : VK) : Prop where
  ex : ∃ n : Int, vs = [.int n] ∧ 0 ≤ n ∧ n ≤ 999999 ∧ Q (.bl true) H
def spGNum : Sp := fun vs H Q _ => GNumP vs H Q
theorem rd_law_good_number {K : PySem.W.Frag} (vs : List V) (H : Hp) (Q : VK) (E : XK) (hh : spGNum vs H Q E) : t_law_good_number K { nx := fun _ H' => Q .non H', rt := Q } (start ["_law_part_here"] vs) H := by
  obtain ⟨n, rfl, h0, h1, q⟩ := hh.ex
  refine rIs (i := 0) rfl (.base (.int n)) kit_ii ⟨_, rfl, ifT rfl ?_⟩
  refine rIs (i := 0) rfl (.base (.int n)) kit_ib ⟨_, rfl, _, rfl, ifT rfl ?_⟩
  refine ⟨_, rfl, _, _, rfl, rfl, _, rfl, ifT (dT h0) ?_⟩
  refine ⟨_, rfl, _, _, rfl, rfl, ?_⟩
  show Q (V.bl (decide (n ≤ 999999))) H
  rw [dT h1]; exact q
structure GRowP (K : PySem.W.Frag) (vs : List V) (H : Hp) (Q : VK) : Prop where
  ex : ∃ (v : V) (ds : List PyData), vs = [v] ∧ Tp K H v (.tuple ds) ∧ GoodRow ds ∧ ∀ H', Same H H' → Q (.bl true) H'
def spGRow (K : PySem.W.Frag) : Sp := fun vs H Q _ => GRowP K vs H Q
theorem gargs_at {h : Bool} : ∀ {k : Nat} {ds : List PyData} {i : Nat} {d : PyData}, GoodArgs h k ds → ds[i]? = some d → GoodArg (h && (k + i) == 3) d
  | _, [], i, d, _, e => by cases e
  | k, d0 :: ds, 0, d, g, e => by
    injection e with e
    rw [← e]; exact g.1
  | k, d0 :: ds, i + 1, d, g, e => by
    have := gargs_at (i := i) g.2 (show ds[i]? = some d from e)
    rw [show k + (i + 1) = k + 1 + i by omega]; exact this
theorem rd_law_good_row {K : PySem.W.Frag} (vs : List V) (H : Hp) (Q : VK) (E : XK) (hh : spGRow K vs H Q E) : t_law_good_row K (spWords K) spGNum { nx := fun _ H' => Q .non H', rt := Q } (start ["_law_row", "_law_words_here", "_law_k", "_law_free"] vs) H := by
  obtain ⟨v, ds, rfl, tv, g, q⟩ := hh.ex
  obtain ⟨w, args, rfl, ha, hg⟩ := g.ex
  obtain ⟨a, xs, rfl, hT, tx⟩ := tv.tupE
  obtain ⟨x0, xr, rfl, t0, tr⟩ := TpAll.consE tx
  cases t0.strE
  have n4 := (ary_fn ha).2.2.2
  have lr := tr.length
  refine seq ⟨rfl, fun pw H1 hw0 hw s1 => gn ?_⟩
  dsimp only
  show tSeq _ _ _ [some (V.ref a), some (.ref pw), none, none] _
  have hT1 := s1.sqT hT
  have pT : PB (tB (tCB (rIsi K) (tCons (tVar 0) (tCons (tC (.ty "tuple")) (tNil))))) [some (V.ref a), some (.ref pw), none, none] H1 true := fun Q' q' => rIs rfl (tyT hT1) kit_tt ⟨_, rfl, q'⟩
  have pL : PB (tTest (tOp rEq (tCB (rLenQ K) (tCons (tVar 0) (tNil))) (tC (.int 0)))) [some (V.ref a), some (.ref pw), none, none] H1 (decide (V.int ((V.str w :: xr).length : Nat) = V.int 0)) := fun Q' q' => ⟨_, rfl, a, _, rfl, .inr hT1, rfl, _, rfl, q'⟩
  have pL0 : decide (V.int ((V.str w :: xr).length : Nat) = V.int 0) = false := decide_eq_false fun h => by
    injection h with h
    rw [List.length_cons] at h
    omega
  rw [pL0] at pL
  have pS : PB (tB (tCB (rIsi K) (tCons (tOp (rIxT K) (tVar 0) (tC (.int 0))) (tCons (tC (.ty "str")) (tNil))))) [some (V.ref a), some (.ref pw), none, none] H1 true := fun Q' q' => ⟨_, rfl, a, _, ((0 : Nat) : Int), _, rfl, rfl, hT1, atI_nat rfl, _, .ty "str", _, _, true, rfl, .ty "str", .base (.str w), kit_ss, _, rfl, q'⟩
  refine seq (r_ifF (pb_is (pb_or (pb_not pT) (pb_or pL (pb_not pS))) rfl) ?_)
  dsimp only [tNext]
  show tSeq _ _ _ [some (V.ref a), some (.ref pw), none, none] _
  have hget : DGet H1 pw (V.str w) (some (V.int (args.length : Nat))) := by rw [← look_val ha]; exact DGet.k (k := Sum.inr w) hw
  have pD : PB (tB (tDNotIn (tOp (rIxT K) (tVar 0) (tC (.int 0))) (tVar 1))) [some (V.ref a), some (.ref pw), none, none] H1 false := fun Q' q' => ⟨_, rfl, a, _, ((0 : Nat) : Int), _, rfl, rfl, hT1, atI_nat rfl, _, rfl, pw, _, rfl, hget, _, rfl, q'⟩
  have pN : PB (tTest (tOp rNe (tCB (rLenQ K) (tCons (tVar 0) (tNil))) (tOp rAdI (tDGet (tVar 1) (tOp (rIxT K) (tVar 0) (tC (.int 0)))) (tC (.int 1))))) [some (V.ref a), some (.ref pw), none, none] H1 (!decide (V.int ((V.str w :: xr).length : Nat) = V.int ((args.length : Nat) + 1))) :=
    fun Q' q' => ⟨_, rfl, a, _, rfl, .inr hT1, _, rfl, _, rfl, a, _, ((0 : Nat) : Int), _, rfl, rfl, hT1, atI_nat rfl, pw, _, rfl, hget, _, _, rfl, rfl, rfl, _, rfl, q'⟩
  have pN0 : (!decide (V.int ((V.str w :: xr).length : Nat) = V.int ((args.length : Nat) + 1))) = false := by
    rw [decide_eq_true (by rw [List.length_cons, lr]; rfl)]; rfl
  rw [pN0] at pN
  refine seq (r_ifF (pb_is (pb_or pD pN) rfl) ?_)
  dsimp only [tNext]
  show tSeq (tFor _ _ _) _ _ [some (V.ref a), some (.ref pw), none, none] _
  refine seq ⟨_, rfl, a, _, rfl, .inr hT1, 1, _, rfl, ⟨by decide, by decide, by omega, by rw [List.length_cons, lr]; omega⟩, for_it walk_range (fun i σ' H' => ∃ v2 v3 : Option V, σ' = [some (V.ref a), some (.ref pw), v2, v3] ∧ Same H H') ⟨_, _, rfl, s1⟩ (fun _ _ _ _ _ => trivial) ?_ ?_⟩
  · rintro i x σ' H2 H3 hi ⟨v2, v3, rfl, s2⟩ ⟨rfl, rfl⟩
    refine gn ?_
    have hi : i < args.length := by rw [List.length_cons, lr] at hi; omega
    have ed : args[i]? = some args[i] := List.getElem?_eq_getElem hi
    obtain ⟨y, hy, ty⟩ := tr.get' ed
    have gd := gargs_at hg ed
    generalize args[i] = d at ed ty gd
    have hT3 := s2.sqT hT
    have at1 : atI (V.str w :: xr) (1 + (i : Int)) = some y := by
      have : (1 : Int) + (i : Int) = ((i + 1 : Nat) : Int) := by omega
      rw [this]
      exact atI_nat hy
    -- what may be free
    have e3 : decide (V.int (1 + (i : Int)) = V.int 3) = ((1 + i) == 3) := by
      by_cases h : 1 + i = 3
      · have h2 : (1 : Int) + (i : Int) = 3 := by omega
        rw [h2, h]; rfl
      · have h2 : ¬ (V.int (1 + (i : Int)) = V.int 3) := fun z => by injection z with z; omega
        rw [decide_eq_false h2]
        exact (beq_eq_false_iff_ne.mpr h).symm
    refine seq ?_
    refine ⟨_, rfl, a, _, ((0 : Nat) : Int), _, rfl, rfl, hT3, atI_nat rfl, rfl, _, rfl, ?_⟩
    rw [str_eq]
    have fin : ∀ f : Bool, (f = false → GoodInt d) → tIfS (tAnd (tNot (tB (tVar 3))) (tNot (tB (tCall spGNum [] E0 (tCons (tOp (rIxT K) (tVar 0) (tVar 2)) (tNil)))))) (tRet (tC (.bl false))) (tNext) { nx := fun σ' H' => ∃ v2 v3 : Option V, σ' = [some (V.ref a), some (.ref pw), v2, v3] ∧ Same H H', ct := fun σ' H' => ∃ v2 v3 : Option V, σ' = [some (V.ref a), some (.ref pw), v2, v3] ∧ Same H H', bk := fun σ' H' => tRet (tC (.bl true)) { nx := fun _ H' => Q .non H', rt := Q } σ' H', rt := Q } [some (V.ref a), some (.ref pw), some (.int (1 + (i : Int))), some (.bl f)] H3 := fun f hf => by
      have pf : PB (tNot (tB (tVar 3))) [some (V.ref a), some (.ref pw), some (.int (1 + (i : Int))), some (.bl f)] H3 (!f) := pb_not (pb_var rfl)
      cases f with
      | true => exact r_ifF (fun Q' q' => pf _ (ifF rfl q')) ⟨_, _, rfl, s2⟩
      | false =>
        obtain ⟨n, rfl, n0, n1⟩ := hf rfl
        cases ty.intE
        have pB : PB (tNot (tB (tCall spGNum [] E0 (tCons (tOp (rIxT K) (tVar 0) (tVar 2)) (tNil))))) [some (V.ref a), some (.ref pw), some (.int (1 + (i : Int))), some (.bl false)] H3 false := fun Q' q' => ⟨_, rfl, _, rfl, a, _, _, _, rfl, rfl, hT3, at1, ⟨n, rfl, n0, n1, _, rfl, q'⟩⟩
        exact r_ifF (pb_is (pb_and pf pB) rfl) ⟨_, _, rfl, s2⟩
    refine ifP (fun h1 => ?_) (fun h1 => gn (fin false fun _ => ?_))
    · refine ⟨_, rfl, rfl, _, rfl, ?_⟩
      rw [e3]
      refine ifP (fun h2 => ?_) (fun h2 => gn (fin false fun _ => ?_))
      · refine ⟨_, rfl, _, rfl, a, _, _, _, rfl, rfl, hT3, at1, rfl, gn (fin _ fun hf => ?_)⟩
        rcases gd with gd | ⟨_, rfl⟩
        · exact gd
        · cases ty.nonE
          simp at hf
      · rcases gd with gd | ⟨hb, _⟩
        · exact gd
        · rw [h2, Bool.and_false] at hb; cases hb
    · rcases gd with gd | ⟨hb, _⟩
      · exact gd
      · have : isHand w = false := h1
        rw [this, Bool.false_and] at hb; cases hb
  · rintro σ' H2 ⟨v2, v3, rfl, s2⟩
    exact q _ s2
/-! ### the code -/
structure GCodeP (K : PySem.W.Frag) (vs : List V) (H : Hp) (Q : VK) : Prop where
  ex : ∃ (v : V) (c : List Fd), vs = [v] ∧ Tp K H v (.tuple (c.map Fd.d)) ∧ c ≠ [] ∧ (∀ f ∈ c, GoodFd f) ∧ (∀ f ∈ c, f.tab = tableOf f.rows) ∧ (∀ f ∈ c, f.rows.length ≤ 150000) ∧ ∀ H', Same H H' → Q (.bl true) H'
def spGCode (K : PySem.W.Frag) : Sp := fun vs H Q _ => GCodeP K vs H Q
theorem rd_law_good_code {K : PySem.W.Frag} (vs : List V) (H : Hp) (Q : VK) (E : XK) (hh : spGCode K vs H Q E) : t_law_good_code K spGNum (spGRow K) (spAlike K 5) (spTable (K := K)) { nx := fun _ H' => Q .non H', rt := Q } (start ["_law_code_here", "_law_function", "_law_row"] vs) H := by
  obtain ⟨v, c, rfl, tv, ne, good, tabs, small, q⟩ := hh.ex
  obtain ⟨a, xs, rfl, hT, tx⟩ := tv.tupE
  have lx : xs.length = c.length := by rw [tx.length, List.length_map]
  have cpos : 0 < c.length := by
    cases c with
    | nil => exact absurd rfl ne
    | cons _ _ => simp
  have pT : PB (tB (tCB (rIsi K) (tCons (tVar 0) (tCons (tC (.ty "tuple")) (tNil))))) [some (V.ref a), none, none] H true := fun Q' q' => rIs rfl (tyT hT) kit_tt ⟨_, rfl, q'⟩
  have pL : PB (tTest (tOp rEq (tCB (rLenQ K) (tCons (tVar 0) (tNil))) (tC (.int 0)))) [some (V.ref a), none, none] H (decide (V.int (xs.length : Nat) = V.int 0)) := fun Q' q' => ⟨_, rfl, a, _, rfl, .inr hT, rfl, _, rfl, q'⟩
  have pL0 : decide (V.int (xs.length : Nat) = V.int 0) = false := decide_eq_false fun h => by
    injection h with h
    omega
  rw [pL0] at pL
  refine seq (r_ifF (pb_is (pb_or (pb_not pT) pL) rfl) ?_)
  dsimp only [tNext]
  show tSeq (tFor _ _ _) _ _ [some (V.ref a), none, none] _
  refine seq ⟨_, rfl, a, rfl, ⟨_, hT⟩, for_tup (K := K) (a := a) (xs := xs) (fun i σ' H' => ∃ v1 : Option V, σ' = [some (V.ref a), v1, none] ∧ Same H H') ⟨_, rfl, Same.refl _⟩ (fun i σ' H' _ ⟨_, _, s⟩ => s.sqT hT) ?_ ?_⟩
  · rintro i x σ' H1 hx ⟨v1, rfl, s1⟩
    refine gn ?_
    have hi := (List.getElem?_eq_some_iff.mp hx).1
    have eg : c[i]? = some c[i] := List.getElem?_eq_getElem (by omega)
    have hgm : c[i] ∈ c := List.getElem_mem (by omega)
    obtain ⟨d, hd, td⟩ := tx.get hx
    rw [List.getElem?_map, eg] at hd
    have hd : some (c[i]).d = some d := hd
    injection hd with hd
    subst hd
    have gg := good _ hgm
    have gt := tabs _ hgm
    have sm := small _ hgm
    generalize c[i] = f at td gg gt sm
    obtain ⟨ga, y0, y1, y2, rfl, hG, t0, t1, t2⟩ := (show Tp K H x (.tuple [.int f.many, .tuple (f.rows.map .tuple), .tuple (f.tab.map .tuple)]) from td).tup3
    cases t0.intE
    obtain ⟨ra, rxs, rfl, hR, trs⟩ := t1.tupE
    have hG1 := s1.sqT hG
    have hR1 := s1.sqT hR
    show tSeq _ _ _ [some (V.ref a), some (.ref ga), none] _
    have qT : PB (tB (tCB (rIsi K) (tCons (tVar 1) (tCons (tC (.ty "tuple")) (tNil))))) [some (V.ref a), some (.ref ga), none] H1 true := fun Q' q' => rIs rfl (tyT hG1) kit_tt ⟨_, rfl, q'⟩
    have qL : PB (tTest (tOp rNe (tCB (rLenQ K) (tCons (tVar 1) (tNil))) (tC (.int 3)))) [some (V.ref a), some (.ref ga), none] H1 false := fun Q' q' => ⟨_, rfl, ga, _, rfl, .inr hG1, rfl, _, rfl, q'⟩
    have qN : PB (tB (tCall spGNum [] E0 (tCons (tOp (rIxT K) (tVar 1) (tC (.int 0))) (tNil)))) [some (V.ref a), some (.ref ga), none] H1 true := fun Q' q' => rd_ixT (j := 0) rfl hG1 rfl ⟨f.many, rfl, gg.many.1, gg.many.2, _, rfl, q'⟩
    refine seq (r_ifF (pb_is (pb_or (pb_not qT) (pb_or qL (pb_not qN))) rfl) ?_)
    dsimp only [tNext]
    show tSeq _ _ _ [some (V.ref a), some (.ref ga), none] _
    have qR : PB (tB (tCB (rIsi K) (tCons (tOp (rIxT K) (tVar 1) (tC (.int 1))) (tCons (tC (.ty "tuple")) (tNil))))) [some (V.ref a), some (.ref ga), none] H1 true := fun Q' q' => ⟨_, rfl, ga, _, ((1 : Nat) : Int), _, rfl, rfl, hG1, atI_nat rfl, _, .ty "tuple", _, _, true, rfl, .ty "tuple", tyT hR1, kit_tt, _, rfl, q'⟩
    refine seq (r_ifF (pb_is (pb_not qR) rfl) ?_)
    dsimp only [tNext]
    show tSeq _ _ _ [some (V.ref a), some (.ref ga), none] _
    refine seq ?_
    -- no row is bad
    refine ⟨_, rfl, ga, _, ((1 : Nat) : Int), _, rfl, rfl, hG1, atI_nat rfl, ra, rfl, ⟨_, hR1⟩, fun D hD => lc_tup (K := K) (a := ra) (xs := rxs) (fun j H' => H' D = some (.lst []) ∧ Same H1 H') ⟨upd_same, Same.new hD⟩ (fun j H' _ ⟨_, s'⟩ => s'.sqT hR1) ?_ ?_⟩
    · rintro j y H2 hy ⟨hv, s2⟩
      obtain ⟨d, hd, td⟩ := trs.get hy
      rw [List.getElem?_map] at hd
      cases er : f.rows[j]? with
      | none => rw [er] at hd; cases hd
      | some r =>
        rw [er] at hd
        obtain rfl : PyData.tuple r = d := Option.some.inj hd
        refine ⟨rfl, ?_⟩
        refine ⟨_, rfl, ⟨y, r, rfl, td.mono (Tk.same (s1.trans s2)), gg.rows r (List.mem_of_getElem? er), fun H3 s3 => ⟨_, rfl, ifF rfl ⟨s3 _ _ hv, s2.trans s3⟩⟩⟩⟩
    · rintro H2 ⟨hv, s2⟩
      refine ⟨(by show 0 ≤ sizeLine; decide), fun pe he => ⟨D, pe, [], rfl, rfl, SqL.of (by rw [upd_ne (ne_of_none hv he)]; exact hv), SqL.of upd_same, _, rfl, ?_⟩⟩
      have s3 : Same H (L2.upd H2 pe (.lst [])) := (s1.trans s2).trans (Same.new he)
      generalize L2.upd H2 pe (.lst []) = H3 at s3 ⊢
      refine ifF rfl ?_
      dsimp only [tNext]
      have hG3 := s3.sqT hG
      obtain ⟨rs, ers, hrs⟩ := rows_rw gg.rows
      have lrs : rs.length ≤ 150000 := by rw [ers, List.length_map] at sm; exact sm
      have t1' := t1.mono (Tk.same s3)
      rw [fd_rows ers] at t1'
      refine ⟨_, rfl, ga, _, ((2 : Nat) : Int), y2, rfl, rfl, hG3, atI_nat rfl, ?_⟩
      refine rd_ixT (j := 1) rfl hG3 rfl ⟨_, rs, rfl, t1', by omega, fun tv' H4 tt s4 => ?_⟩
      have e2 : (PyData.tuple (f.tab.map .tuple)) = .tuple ((tabAt 0 rs).map Tb.d) := by rw [gt, ers, tableOf_is, tbs_d]
      have t2' := t2.mono (Tk.same (s3.trans s4))
      rw [e2] at t2'
      have sml := tab_small (tabAt 0 rs)
      have tl := tabAt_len rs 0
      refine ⟨y2, tv', _, rfl, t2'.dp, tt.dp, by omega, by omega, _, rfl, ifF rfl ⟨_, rfl, s3.trans s4⟩⟩
  · rintro σ' H1 ⟨v1, rfl, s1⟩
    exact q _ s1
end RL
end Lp

/-! LzC: the law's line; what is refused. -/
namespace Lp
open PySem PySem.Spec PyProof.Rows L2
def t_law_line (K : PySem.W.Frag) (sp_law_take : Sp) (sp_law_free_rows : Sp) (sp_law_listed : Sp) (sp_law_table : Sp) (sp_law_coded : Sp) (sp_law_program : Sp) (sp_law_spoilt : Sp) : TS :=
  tSeq (tIfS (tTest (tOp rEq (tCall sp_law_take [] E0 (tCons (tVar 0) (tCons (tC (.int 3)) (tNil)))) (tC (.int 1)))) (tSeq (tAsg (tCall sp_law_free_rows [] E0 (tCons (tVar 0) (tCons (tC (.int 1000001)) (tNil)))) (gName 1)) (tAsg (tCall sp_law_listed [] E0 (tCons (tTup (tCons (tTup (tCons (tCall sp_law_take [] E0 (tCons (tVar 0) (tCons (tC (.int 5)) (tNil)))) (tCons (tVar 1) (tCons (tCall sp_law_table [] E0 (tCons (tVar 1) (tNil))) (tNil))))) (tNil))) (tNil))) (gName 2))) (tAsg (tCall sp_law_listed [] E0 (tCons (tCall sp_law_coded [] E0 (tCons (tCall sp_law_program [] E0 (tCons (tVar 0) (tNil))) (tNil))) (tNil))) (gName 2))) (tSeq (tIfS (tTest (tOp rEq (tCall sp_law_take [] E0 (tCons (tVar 0) (tCons (tC (.int 6)) (tNil)))) (tC (.int 1)))) (tRet (tVar 2)) (tNext)) (tRet (tCall sp_law_spoilt [] E0 (tCons (tVar 0) (tCons (tVar 2) (tNil))))))

def t_law_refused (K : PySem.W.Frag) (C_LeapError : Addr) (sp_read_listing : Sp) (C_Unread : Addr) (C_Stray : Addr) (C_Unknown : Addr) (C_Uneven : Addr) : TS :=
  tSeq (tAsg (tC (.bl false)) (gName 1)) (tSeq (tTryAs K C_LeapError 2 (fun W => tDrop (tCallS sp_read_listing (WE W) (tCons (tVar 0) (tNil)))) (fun a cls d => tSeq (tAsg (tAndV (tCB (rIsEx K a cls d) (tCons (tVar 2) (tCons (tC (.ref C_Unread)) (tNil)))) (tAndV (tCB (rIsEx K a cls d) (tCons (tVar 2) (tCons (tC (.ty "ValueError")) (tNil)))) (tNotV (tCB (rIsEx K a cls d) (tCons (tVar 2) (tCons (tC (.ref C_Stray)) (tNil))))))) (gName 1)) (tAsg (tAndV (tVar 1) (tAndV (tNotV (tCB (rIsEx K a cls d) (tCons (tVar 2) (tCons (tC (.ref C_Unknown)) (tNil))))) (tNotV (tCB (rIsEx K a cls d) (tCons (tVar 2) (tCons (tC (.ref C_Uneven)) (tNil))))))) (gName 1)))) (tRet (tVar 1)))

namespace RL
open KL (gn seq seq_inv)
/-! ### rows without a line's end -/
theorem woff_int {n : Int} (h : 0 ≤ n) : 10 ∉ sg (word (.int n)) := by
  obtain ⟨m, rfl⟩ := Int.eq_ofNat_of_zero_le h
  intro hm
  have := num_digits m 10 hm
  omega
theorem woff_kind {N : Int} {k : Option Nat} (h : ∀ j, k = some j → In0 N (j : Int)) : 10 ∉ sg (word (kindD k)) := by
  cases k with
  | none => exact (show 10 ∉ sg ("-" : Str) by decide)
  | some j => exact woff_int (h j rfl).1
theorem woff1 {a : PyData} {ds : List PyData} (ha : 10 ∉ sg (word a)) (h : ∀ d ∈ ds, 10 ∉ sg (word d)) : ∀ d ∈ a :: ds, 10 ∉ sg (word d) := fun d hd => (List.mem_cons.mp hd).elim (fun e => e ▸ ha) (h d)
theorem woff0 : ∀ d ∈ ([] : List PyData), 10 ∉ sg (word d) := fun d hd => by cases hd
theorem woff_s {s : Str} (h : 10 ∉ sg s) : 10 ∉ sg (word (.str s)) := h
theorem Rw.woff {N : Int} (r : Rw) (h : r.Nm N) : ∀ d ∈ r.ds, 10 ∉ sg (word d) := by
  have i := fun {i : Int} (h : In0 N i) => woff_int h.1
  cases r with
  | num n => exact woff1 (woff_s (by decide)) (woff1 (i h) woff0)
  | var k => exact woff1 (woff_s (by decide)) (woff1 (i h) woff0)
  | op o => exact woff1 (woff_s (by cases o <;> decide)) woff0
  | say => exact woff1 (woff_s (by decide)) woff0
  | set k => exact woff1 (woff_s (by decide)) (woff1 (i h) woff0)
  | «unless» q => exact woff1 (woff_s (by decide)) (woff1 (i h) woff0)
  | go z => exact woff1 (woff_s (by decide)) (woff1 (i h) woff0)
  | turn => exact woff1 (woff_s (by decide)) woff0
  | leap q D => exact woff1 (woff_s (by decide)) (woff1 (i h.1) (woff1 (i h.2) woff0))
  | ret => exact woff1 (woff_s (by decide)) woff0
  | rais kd m => exact woff1 (woff_s (by decide)) (woff1 (i h.1) (woff1 (i h.2) woff0))
  | again => exact woff1 (woff_s (by decide)) woff0
  | call f n m => exact woff1 (woff_s (by decide)) (woff1 (i h.1) (woff1 (i h.2.1) (woff1 (i h.2.2) woff0)))
  | hand b x k D => exact woff1 (woff_s (by decide)) (woff1 (i h.1) (woff1 (i h.2.1) (woff1 (woff_kind h.2.2.1) (woff1 (i h.2.2.2) woff0))))
  | settled => exact woff1 (woff_s (by decide)) woff0
  | mend => exact woff1 (woff_s (by decide)) woff0
  | cup b x D => exact woff1 (woff_s (by decide)) (woff1 (i h.1) (woff1 (i h.2.1) (woff1 (i h.2.2) woff0)))
  | resume => exact woff1 (woff_s (by decide)) woff0
theorem Tb.woff {N : Int} (t : Tb) (h : t.Nm N) : ∀ d ∈ t.ds, 10 ∉ sg (word d) := by
  obtain ⟨b, x, kd, p, D⟩ := t
  have i := fun {i : Int} (h : In0 N i) => woff_int h.1
  cases kd with
  | none => exact woff1 (i h.b) (woff1 (i h.x) (woff1 (woff_s (by show 10 ∉ sg (Str.ofString _); decide)) (woff1 (show 10 ∉ sg ("-" : Str) by decide) (woff1 (i h.p) (woff1 (i h.D) woff0)))))
  | some k => exact woff1 (i h.b) (woff1 (i h.x) (woff1 (woff_s (by show 10 ∉ sg (Str.ofString _); decide)) (woff1 (woff_kind (h.kd k rfl)) (woff1 (i h.p) (woff1 (i h.D) woff0)))))
/-- a code of some four functions, listed, is not too long -/
structure ListOk (fs : List Fd) : Prop where
  w : ∀ f ∈ fs, FdW f
  few : (fs.flatMap Fd.lines).length ≤ 900000
  wgt : wt (fs.flatMap Fd.lines) + (fs.flatMap Fd.lines).length ≤ 16000000
theorem codeT {N : Int} (h2 : 2000 ≤ N) (hN : N ≤ 2000000) {c : List Fc} (ok : CodeN N c) (h4 : c.length ≤ 4) (hr : ∀ f ∈ c, f.rows.length ≤ 1892) :
    ListOk (c.map Fc.fd) ∧ (listingD (c.map Fc.fd)).length ≤ 1990000 ∧ nlc (listingD (c.map Fc.fd)) ≤ 16000 := by
  have o1 := (ok.fdOk hN h2).1
  have l1 : ((c.map Fc.fd).flatMap Fd.lines).length ≤ 3785 * c.length := by
    clear h4 o1
    have hr' := hr
    clear hr ok
    induction c with
    | nil => simp
    | cons f c ih =>
      have ih := ih fun g hg => hr' g (List.mem_cons_of_mem _ hg)
      have hf := hr' f List.mem_cons_self
      rw [List.map_cons, List.flatMap_cons, List.length_append, fd_len, List.length_cons]
      have e1 : f.fd.rows.length = f.rows.length := by show (f.rows.map _).length = _; rw [List.length_map]
      have e2 : f.fd.tab.length ≤ f.rows.length := by
        show ((tabAt 0 f.rows).map _).length ≤ _
        rw [List.length_map]; exact tabAt_len _ _
      omega
  have l2 : wt ((c.map Fc.fd).flatMap Fd.lines) ≤ ((c.map Fc.fd).flatMap Fd.lines).length * 120 := sum_le (n := 120) (KL.lines_short o1)
  have e1 : ("\n" : Str).length = 1 := by decide
  have l3 := join_wt "\n" ((c.map Fc.fd).flatMap Fd.lines)
  rw [e1] at l3
  have off : ∀ l ∈ (c.map Fc.fd).flatMap Fd.lines, 10 ∉ sg l := fun l hl => by
    obtain ⟨g, hg, hl⟩ := List.mem_flatMap.mp hl
    obtain ⟨f, hf, rfl⟩ := List.mem_map.mp hg
    have h3 := ok.nm f hf
    have ht := tab_nm (N := N) f.rows 0 (Int.le_refl 0) (by have := hr f hf; omega) h3
    rcases List.mem_cons.mp hl with rfl | hl
    · have : 10 ∉ sg (word (.int (f.many : Int))) := woff_int (by omega)
      show 10 ∉ sg (fnL (f.many : Int))
      rw [fnL_is]
      refine join_off (by decide) fun p hp => ?_
      simp only [List.mem_cons, List.not_mem_nil, or_false] at hp
      rcases hp with rfl | rfl
      · decide
      · exact this
    · rcases List.mem_append.mp hl with hl | hl
      · obtain ⟨r, hr', rfl⟩ := List.mem_map.mp hl
        obtain ⟨w, hw, rfl⟩ := List.mem_map.mp hr'
        exact rowL_off (Rw.woff w (h3 w hw))
      · obtain ⟨r, hr', rfl⟩ := List.mem_map.mp hl
        obtain ⟨t, ht', rfl⟩ := List.mem_map.mp hr'
        unfold tabL
        rw [sg_app]
        intro hm
        rcases List.mem_append.mp hm with hm | hm
        · exact absurd hm (by decide)
        · exact rowL_off (Tb.woff t (ht t ht')) hm
  have l4 := join_nlc off
  refine ⟨⟨fun f hf => ⟨(o1 f hf).many, (o1 f hf).rows, (o1 f hf).tab⟩, by omega, by omega⟩, ?_, ?_⟩
  · unfold listingD; omega
  · unfold listingD; omega
/-! ### the law's line -/
structure LineP (K : PySem.W.Frag) (vs : List V) (H : Hp) (Q : VK) : Prop where
  ex : ∃ (b : Addr) (l : List Int), vs = [.ref b] ∧ H b = some (.lst (l.map V.int)) ∧ ∀ t H', t.length ≤ 12000000 → nlc t ≤ 60000 → Kp (Bx b) H H' → Q (.str t) H'
def spLine19 (K : PySem.W.Frag) : Sp := fun vs H Q _ => LineP K vs H Q
theorem rd_law_line {K : PySem.W.Frag} (vs : List V) (H : Hp) (Q : VK) (E : XK) (hh : spLine19 K vs H Q E) : t_law_line K spTake (spFree K) (spListG K) (spTable (K := K)) (spCodedL (K := K) 5) (spProgram K) (spSpo K) { nx := fun _ H' => Q .non H', rt := Q } (start ["_law_box", "_law_rows", "_law_line_here"] vs) H := by
  obtain ⟨b, l, rfl, hb, q⟩ := hh.ex
  refine seq_inv (fun σ' H' => ∃ (v1 : Option V) (t : Str), σ' = [some (V.ref b), v1, some (.str t)] ∧ t.length ≤ 1990000 ∧ nlc t ≤ 16000 ∧ Kp (Bx b) H H' ∧ Bxd b H') (fun nx hnx => ?_) ?_
  · refine ⟨_, rfl, b, l, 3, rfl, hb, by decide, by decide, fun r l1 H1 _ _ hb1 kp1 => ⟨rfl, _, rfl, ?_⟩⟩
    refine ifP (fun _ => ?_) (fun _ => ?_)
    · refine seq ⟨_, rfl, b, l1, 1000001, rfl, hb1, by decide, by decide, fun vf rs l2 H2 ⟨fl, fn⟩ tf hb2 kp2 => gn ?_⟩
      dsimp only
      refine ⟨_, rfl, b, l2, 5, rfl, hb2, by decide, by decide, fun m l3 H3 m0 m1 hb3 kp3 => ?_⟩
      obtain ⟨m, rfl⟩ := Int.eq_ofNat_of_zero_le m0
      have tf3 := tf.mono (kp3.tk1 hb2)
      refine ⟨_, rfl, _, rfl, vf, rs, rfl, tf3, by omega, fun vt H4 tt s4 => ?_⟩
      refine ⟨(by show 3 ≤ sizeLine; decide), fun f1 hf1 => ⟨(by show 1 ≤ sizeLine; decide), fun f2 hf2 => ?_⟩⟩
      have s5 : Same H3 (L2.upd (L2.upd H4 f1 (.tup [.int (m : Int), vf, vt])) f2 (.tup [.ref f1])) := (s4.trans (Same.new hf1)).trans (Same.new hf2)
      have tF : Tp K (L2.upd (L2.upd H4 f1 (.tup [.int (m : Int), vf, vt])) f2 (.tup [.ref f1])) (.ref f2) (codeD [⟨m, rs⟩]) := by
        have s9 : Same H4 (L2.upd (L2.upd H4 f1 (.tup [.int (m : Int), vf, vt])) f2 (.tup [.ref f1])) := (Same.new hf1).trans (Same.new hf2)
        refine .tup (.inl (.inl upd_same)) (.cons (.tup (.inl (.inl ?_)) (.cons (.int _) (.cons (tf3.mono (Tk.same s5)) (.cons (tt.mono (Tk.same s9)) .nil)))) .nil)
        rw [upd_ne (ne_of_none upd_same hf2)]; exact upd_same
      generalize L2.upd (L2.upd H4 f1 (.tup [.int (m : Int), vf, vt])) f2 (.tup [.ref f1]) = H5 at s5 tF ⊢
      have okF : CodeN 1000000 [⟨m, rs⟩] := ⟨by simp, by show 1 ≤ 10; decide, fun f hf => (by rw [List.mem_singleton.mp hf]; show m ≤ 999999; omega), fun f hf => (by rw [List.mem_singleton.mp hf]; show rs.length ≤ 2000; omega), fun f hf => (by rw [List.mem_singleton.mp hf]; exact fn)⟩
      obtain ⟨o1, o2, o3⟩ := codeT (by decide) (by decide) okF (by show 1 ≤ 4; decide) fun f hf => (by rw [List.mem_singleton.mp hf]; show rs.length ≤ 1892; omega)
      rw [code_fd] at tF
      refine ⟨_, _, rfl, tF, o1.w, o1.few, o1.wgt, fun H6 s6 => gn (hnx _ _ ⟨_, _, rfl, o2, o3, ((kp1.trans kp2).trans kp3).trans (Kp.same (s5.trans s6)), ⟨l3, s6 _ _ (s5 _ _ hb3)⟩⟩)⟩
    · refine ⟨_, rfl, b, l1, rfl, hb1, fun v p l2 H2 ok tp hb2 kp2 => ⟨v, p, rfl, tp, ok.pgC, fun cv H3 tc s3 => ?_⟩⟩
      obtain ⟨o1, o2, o3⟩ := codeT (by decide) (by decide) ok.codeN (by have := ok.f4; simp [Pg.code]; omega) fun f hf => (ok.nm f hf).2.1
      rw [code_fd] at tc
      refine ⟨_, _, rfl, tc, o1.w, o1.few, o1.wgt, fun H4 s4 => gn (hnx _ _ ⟨_, _, rfl, o2, o3, (kp1.trans kp2).trans (Kp.same (s3.trans s4)), ⟨l2, s4 _ _ (s3 _ _ hb2)⟩⟩)⟩
  · rintro _ H1 ⟨v1, t, rfl, h1, h2, kp1, bx1⟩
    refine seq (r_take (m := 6) rfl bx1 (fun Q' q' => q') (by decide) (by decide) fun r H2 _ _ kp2 bx2 => ⟨rfl, _, rfl, ?_⟩)
    refine ifP (fun _ => ?_) (fun _ => ?_)
    · exact ⟨_, rfl, q t H2 (by omega) (by omega) (kp1.trans kp2)⟩
    · dsimp only [tNext]
      exact ⟨_, rfl, _, rfl, ⟨b, t, rfl, bx2, h1, h2, fun t' H' a1 a2 k' _ => q t' H' a1 a2 ((kp1.trans kp2).trans k')⟩⟩
/-! ### refused -/
/-- what the classes are to an Unread -/
structure RefK (K : PySem.W.Frag) (CU CL CS CK CE : Addr) : Prop where
  exl : PySem.W.exmOne K (.ref CU) (.ref CL) = some true
  exu : PySem.W.exmOne K (.ref CU) (.ref CU) = some true
  ec : ExcC K CU
  u : PySem.W.kitOne K (.ref CU) (.ref CU) = some true
  v : PySem.W.kitOne K (.ref CU) (.type "ValueError") = some true
  s : PySem.W.kitOne K (.ref CU) (.ref CS) = some false
  k : PySem.W.kitOne K (.ref CU) (.ref CK) = some false
  e : PySem.W.kitOne K (.ref CU) (.ref CE) = some false
structure RefP (K : PySem.W.Frag) (vs : List V) (H : Hp) (Q : VK) : Prop where
  ex : ∃ t : Str, vs = [.str t] ∧ t.length ≤ 12000000 ∧ nlc t ≤ 60000 ∧ readR t = none ∧ ∀ H', Same H H' → Q (.bl true) H'
def spRef (K : PySem.W.Frag) : Sp := fun vs H Q _ => RefP K vs H Q
theorem rd_law_refused {K : PySem.W.Frag} {CU CL CS CK CE : Addr} (T : RefK K CU CL CS CK CE) (vs : List V) (H : Hp) (Q : VK) (E : XK) (hh : spRef K vs H Q E) : t_law_refused K CL (spRead K CU) CU CS CK CE { nx := fun _ H' => Q .non H', rt := Q } (start ["_law_line_here", "_law_refused_here", "e"] vs) H := by
  obtain ⟨t, rfl, h1, h2, hn, q⟩ := hh.ex
  refine seq (gn ?_)
  dsimp only
  show tSeq _ _ _ [some (V.str t), some (.bl false), none] _
  refine seq ?_
  refine ⟨_, rfl, ⟨t, rfl, by rw [sizeLine_eq]; omega, by rw [split_nl]; omega, fun c v H' hc => (by rw [hn] at hc; cases hc), fun _ H' s' => ?_⟩⟩
  refine ⟨true, T.exl, fun _ a ha => ?_, fun h => by cases h⟩
  show tSeq _ _ _ [some (V.str t), some (.bl false), some (.ref a)] _
  refine seq ?_
  refine ⟨_, rfl, CU, rfl, rfl, T.ec, rIsE_ref T.u ⟨_, rfl, ifT rfl ?_⟩⟩
  refine ⟨_, rfl, CU, rfl, rfl, T.ec, rIsE_ty T.v ⟨_, rfl, ifT rfl ?_⟩⟩
  refine ⟨_, rfl, CU, rfl, rfl, T.ec, rIsE_ref T.s ⟨_, rfl, gn ?_⟩⟩
  dsimp only
  refine ⟨_, rfl, _, rfl, ifT rfl ?_⟩
  refine ⟨_, rfl, CU, rfl, rfl, T.ec, rIsE_ref T.k ⟨_, rfl, _, rfl, ifT rfl ?_⟩⟩
  refine ⟨_, rfl, CU, rfl, rfl, T.ec, rIsE_ref T.e ⟨_, rfl, gn ?_⟩⟩
  exact ⟨_, rfl, q H' s'⟩
end RL
end Lp

namespace Lr
open PySem PySem.Spec PyProof.Rows L2 Lp
open RL KL
def topS (i : Nat) : Stmt := PySem.Challenge.pw_leaps_k19_whole_listings_read.main.body.getD i (.Pass ⟨0, 0, 0, 0⟩)
def spLaw (K : PySem.W.Frag) : Sp := fun vs H Q _ => ∃ (a : Addr) (ns : List Int), vs = [.ref a] ∧ SqL K H a (ns.map V.int) ∧ ns.length ≤ 63 ∧ ∀ H', Q (.bl true) H'
def t_law (K : PySem.W.Frag) (sp_law_line : Sp) (C_Unread : Addr) (sp_read_listing : Sp) (sp_law_refused : Sp) (sp_law_good_code : Sp) (sp_law_listed : Sp) : TS :=
  tSeq (tAsg (tCB (rLstOf K) (tCons (tVar 0) (tNil))) (gName 1)) (tSeq (tAsg (tCall sp_law_line [] E0 (tCons (tVar 1) (tNil))) (gName 2)) (tSeq (tAsg (tC .non) (gName 3)) (tSeq (tAsg (tC (.bl false)) (gName 4)) (tSeq (tTryOnly K C_Unread (fun W => tAsg (tCallS sp_read_listing (WE W) (tCons (tVar 2) (tNil))) (gName 3)) (fun a cls d => tAsg (tC (.bl true)) (gName 4))) (tSeq (tIfS (tB (tVar 4)) (tRet (tCall sp_law_refused [] E0 (tCons (tVar 2) (tNil)))) (tNext)) (tRet (tAndV (tCall sp_law_good_code [] E0 (tCons (tVar 3) (tNil))) (tOp rEq (tCall sp_law_listed [] E0 (tCons (tVar 3) (tNil))) (tVar 2)))))))))

theorem row_ok {ds : List PyData} (g : GoodRow ds) : RowOk ds := by
  obtain ⟨r, rfl, hn⟩ := good_rw g
  exact r.rowOk (N := 999999) (by omega) hn
theorem tab_ok {ds : List PyData} (g : GoodTab ds) : RowOk ds := by
  obtain ⟨a, b, s, d, e, f, rfl, ⟨na, rfl, a0, a1⟩, ⟨nb, rfl, b0, b1⟩, hs, hd, ⟨ne, rfl, e0, e1⟩, ⟨nf, rfl, f0, f1⟩⟩ := g.ex
  have wi := fun {n : Int} (h0 : 0 ≤ n) (h1 : n ≤ 999999) => wd_int (N := 999999) (by omega) (show In0 999999 n from ⟨h0, h1⟩)
  have wsd : Wd (.str s) := by
    refine wd_str ?_
    rcases Bool.or_eq_true_iff.mp hs with h | h <;> (rw [of_decide_eq_true h]; decide)
  have wdd : Wd d := by
    rcases hd with ⟨n, rfl, h0, h1⟩ | ⟨_, rfl⟩
    · exact wi h0 h1
    · exact .inl rfl
  exact rowOkC (wi a0 a1) (rowOkC (wi b0 b1) (rowOkC wsd (rowOkC wdd (rowOkC (wi e0 e1) (rowOkC (wi f0 f1) rowOk0 (by simp)) (by simp)) (by simp)) (by simp)) (by simp)) (by simp)
theorem fd_w {f : Fd} (g : GoodFd f) : FdW f := ⟨⟨g.many.1, by have := g.many.2; omega⟩, fun r hr => row_ok (g.rows r hr), fun r hr => tab_ok (g.tab r hr)⟩
theorem rd_law {K : PySem.W.Frag} {CU CL CS CK CE : Addr} (T : RefK K CU CL CS CK CE) (vs : List V) (H : Hp) (Q : VK) (E : XK) (h : spLaw K vs H Q E) : t_law K (spLine19 K) CU (spRead K CU) (spRef K) (spGCode K) (spListG K) { nx := fun _ H' => Q .non H', rt := Q } (start ["_law_script", "_law_box", "_law_line_here", "_law_made", "_law_refused_here"] vs) H := by
  obtain ⟨a, ns, rfl, hS, hlen, q⟩ := h
  refine ⟨_, rfl, a, _, rfl, .inl hS, fun b hb => ?_⟩
  refine seq ⟨_, rfl, ⟨b, ns, rfl, upd_same, fun t H1 h1 h2 kp1 => gn ?_⟩⟩
  dsimp only
  show tSeq _ _ _ [some (V.ref a), some (.ref b), some (.str t), none, none] _
  refine seq (gn ?_)
  dsimp only
  show tSeq _ _ _ [some (V.ref a), some (.ref b), some (.str t), some .non, none] _
  refine seq (gn ?_)
  dsimp only
  show tSeq _ _ _ [some (V.ref a), some (.ref b), some (.str t), some .non, some (.bl false)] _
  refine seq ?_
  refine ⟨_, rfl, ⟨t, rfl, by rw [sizeLine_eq]; omega, by rw [split_nl]; omega, fun c v H2 hc tv s2 => gn ?_, fun hn H2 s2 => ?_⟩⟩
  · dsimp only
    show tSeq _ _ _ [some (V.ref a), some (.ref b), some (.str t), some v, some (.bl false)] _
    refine seq (r_ifF (pb_var rfl) ?_)
    dsimp only [tNext]
    obtain ⟨e1, ne, good, tabs⟩ := read_out hc
    have ll : (c.flatMap Fd.lines).length = nlc t + 1 := by rw [← listing_lines ne good, e1, split_nl]
    have lw : wt (c.flatMap Fd.lines) ≤ t.length + 1 := by rw [← listing_lines ne good, e1]; exact (split_wl t).wgt
    refine ⟨_, rfl, ⟨v, c, rfl, tv, ne, good, tabs, fun f hf => ?_, fun H3 s3 => ⟨_, rfl, ifT rfl ?_⟩⟩⟩
    · have m1 := mem_flat_len hf
      have m2 := fd_len (f := f)
      omega
    · refine ⟨_, rfl, ⟨v, c, rfl, tv.mono (Tk.same s3), fun f hf => fd_w (good f hf), by omega, by omega, fun H4 s4 => ⟨_, rfl, rfl, ?_⟩⟩⟩
      have : decide (V.str (listingD c) = V.str t) = true := decide_eq_true (by rw [e1])
      rw [this]
      exact q _
  · refine ⟨true, T.exu, fun _ x hx => ?_, fun h => by cases h⟩
    refine gn ?_
    dsimp only
    show tSeq _ _ _ [some (V.ref a), some (.ref b), some (.str t), some .non, some (.bl true)] _
    refine seq (r_ifT (pb_var rfl) ?_)
    exact ⟨_, rfl, ⟨t, rfl, h1, h2, hn, fun H3 _ => q H3⟩⟩
section
variable {P : Program} {w : World} {K : PySem.W.Frag} {mg : Str → Option Value} {base : Heap} {k : Nat}
abbrev s_table_of : Stmt := topS 7
abbrev N_table_of : List Str := ["rows", "found", "place", "row"]
theorem sc_table_of : FnScope N_table_of ["rows"] (defScope s_table_of) := ⟨rfl, rfl, rfl, by decide +kernel, rfl, by decide +kernel, by decide +kernel⟩
theorem ok_table_of  {f : Addr} {fd : FuncData} (D : FunD K "table_of" "table_of" (defArgs s_table_of) (defBody s_table_of) (defScope s_table_of) [] [] f fd) (B_enumerate : mg "enumerate" = none) (B_tuple : mg "tuple" = none) {sp : Sp}
    (len : ∀ vs H Q E, sp vs H Q E → vs.length = 1)
    (rd : ∀ vs H Q E, sp vs H Q E → t_table_of K { nx := fun _ H' => Q .non H', rt := Q } (start N_table_of vs) H) : FnOk P w K mg base CX0 (k + 1) f fd ["rows"] sp := by
  refine D.ok sc_table_of len (fun cdv A outer s H vs Q E hr h => ⟨t_table_of K, PSs.nox ?_, rd vs H Q E h⟩)
  · unfold t_table_of
    exact pss_cons (ps_set (i := 1) sc_table_of.nd rfl (by first | exact Or.inl rfl | exact Or.inr rfl) (pe_lst (pa_nil)))
        (pss_cons (ps_for PassesOwn.never rfl (pi_enT (by rfl) B_enumerate (pa_cons (pv 0) (pa_nil))) (pg_tup rfl (pgs_cons (pg_name (i := 2) sc_table_of.nd rfl (by first | exact Or.inl rfl | exact Or.inr rfl)) (pgs_cons (pg_name (i := 3) sc_table_of.nd rfl (by first | exact Or.inl rfl | exact Or.inr rfl)) pgs_nil))) (pss_cons (ps_if (pt_cmpR op_eq (pe_ix ix_tup (pv 3) (pe_int) (fun _ _ => rfl)) (pe_str) (nomark _)) (pss_one (ps_expr (pe_bm PySem.F.plainAttrs_list PySem.F.slot_list_append PySem.F.type_list_append mt_append (pv 1) (pa_cons (pe_tup (pa_cons (pe_ix ix_tup (pv 3) (pe_int) (fun _ _ => rfl)) (pa_cons (pe_ix ix_tup (pv 3) (pe_int) (fun _ _ => rfl)) (pa_cons (pe_str) (pa_cons (pe_ix ix_tup (pv 3) (pe_int) (fun _ _ => rfl)) (pa_cons (pv 2) (pa_cons (pe_ix ix_tup (pv 3) (pe_int) (fun _ _ => rfl)) (pa_nil)))))))) (pa_nil))))) (pss_nil))
        (pss_one (ps_if (pt_cmpR op_eq (pe_ix ix_tup (pv 3) (pe_int) (fun _ _ => rfl)) (pe_str) (nomark _)) (pss_one (ps_expr (pe_bm PySem.F.plainAttrs_list PySem.F.slot_list_append PySem.F.type_list_append mt_append (pv 1) (pa_cons (pe_tup (pa_cons (pe_ix ix_tup (pv 3) (pe_int) (fun _ _ => rfl)) (pa_cons (pe_ix ix_tup (pv 3) (pe_int) (fun _ _ => rfl)) (pa_cons (pe_str) (pa_cons (pe_non) (pa_cons (pv 2) (pa_cons (pe_ix ix_tup (pv 3) (pe_int) (fun _ _ => rfl)) (pa_nil)))))))) (pa_nil))))) (pss_nil)))))
        (pss_one (ps_ret (pe_callTy call_tuple_of (by rfl) B_tuple (by decide +kernel) (pa_cons (pv 1) (pa_nil))))))

abbrev s_number_of : Stmt := topS 11
abbrev N_number_of : List Str := ["word", "sign"]
theorem sc_number_of : FnScope N_number_of ["word"] (defScope s_number_of) := ⟨rfl, rfl, rfl, by decide +kernel, rfl, by decide +kernel, by decide +kernel⟩
theorem ok_number_of {C_Unread : Addr} {f : Addr} {fd : FuncData} (D : FunD K "number_of" "number_of" (defArgs s_number_of) (defBody s_number_of) (defScope s_number_of) [] [] f fd) (B_len : mg "len" = none) (U_Unread : ExU K mg "Unread" C_Unread) (Gc_FIGURES : ∃ t, mg "FIGURES" = some (.str "0123456789" t)) (B_int : mg "int" = none) {sp : Sp}
    (len : ∀ vs H Q E, sp vs H Q E → vs.length = 1)
    (rd : ∀ vs H Q E, sp vs H Q E → t_number_of K C_Unread E { nx := fun _ H' => Q .non H', rt := Q } (start N_number_of vs) H) : FnOk P w K mg base (L2.CX P w) (k + 1) f fd ["word"] sp := by
  refine D.ok sc_number_of len (fun cdv A outer s H vs Q E hr h => ⟨t_number_of K C_Unread E, ?_, rd vs H Q E h⟩)
  · unfold t_number_of
    exact pss_cons (ps_if (PW.pt (pw_or (pt_cmpR op_eq (pv 0) (pe_str) (nomark _)) (pw_or (pt_cmpR op_gt (pe_callB call_len_str (by rfl) B_len PySem.boot_len (pa_cons (pv 0) (pa_nil))) (pe_int) (nomark _)) (pw_or1 (PW.pt (pw_and (pt_cmpR op_eq (pe_ix ix_str (pv 0) (pe_int) (fun _ _ => rfl)) (pe_str) (nomark _)) (pw_and1 (pt_cmpR op_gt (pe_callB call_len_str (by rfl) B_len PySem.boot_len (pa_cons (pv 0) (pa_nil))) (pe_int) (nomark _))))))))) (pss_one (ps_rz U_Unread (takes_of rfl rfl rfl rfl))) (pss_nil))
        (pss_cons (ps_for (passes_of rfl) rfl (pi_str (pv 0)) (pg_name (i := 1) sc_number_of.nd rfl (by first | exact Or.inl rfl | exact Or.inr rfl)) (pss_one (ps_if (pt_cmpR op_niSg (pv 1) (pgs Gc_FIGURES) (by rfl)) (pss_one (ps_rz U_Unread (takes_of rfl rfl rfl rfl))) (pss_nil))))
        (pss_one (ps_ret (pe_callTy call_intS (by rfl) B_int (by decide +kernel) (pa_cons (pv 0) (pa_nil))))))

abbrev s_number_or_none : Stmt := topS 12
abbrev N_number_or_none : List Str := ["word"]
theorem sc_number_or_none : FnScope N_number_or_none ["word"] (defScope s_number_or_none) := ⟨rfl, rfl, rfl, by decide +kernel, rfl, by decide +kernel, by decide +kernel⟩
theorem ok_number_or_none {sp_number_of : Sp} {f : Addr} {fd : FuncData} (D : FunD K "number_or_none" "number_or_none" (defArgs s_number_or_none) (defBody s_number_or_none) (defScope s_number_or_none) [] [] f fd) (c_number_of : CalX P w K mg base k "number_of" ["word"] sp_number_of) {sp : Sp}
    (len : ∀ vs H Q E, sp vs H Q E → vs.length = 1)
    (rd : ∀ vs H Q E, sp vs H Q E → t_number_or_none K sp_number_of E { nx := fun _ H' => Q .non H', rt := Q } (start N_number_or_none vs) H) : FnOk P w K mg base (L2.CX P w) (k + 1) f fd ["word"] sp := by
  refine D.ok sc_number_or_none len (fun cdv A outer s H vs Q E hr h => ⟨t_number_or_none K sp_number_of E, ?_, rd vs H Q E h⟩)
  · unfold t_number_or_none
    exact pss_cons (ps_if (pt_cmpR op_eq (pv 0) (pe_str) (nomark _)) (pss_one (ps_ret (pe_non))) (pss_nil))
        (pss_one (ps_ret (pcX c_number_of hr (takes_of rfl rfl rfl rfl) (pa_cons (pv 0) (pa_nil)))))

abbrev s_row_of : Stmt := topS 13
abbrev N_row_of : List Str := ["line", "words", "parts", "k"]
theorem sc_row_of : FnScope N_row_of ["line"] (defScope s_row_of) := ⟨rfl, rfl, rfl, by decide +kernel, rfl, by decide +kernel, by decide +kernel⟩
theorem ok_row_of {ad_ROWS : Addr} {C_Unread : Addr} {sp_number_or_none : Sp} {sp_number_of : Sp} {f : Addr} {fd : FuncData} (D : FunD K "row_of" "row_of" (defArgs s_row_of) (defBody s_row_of) (defScope s_row_of) [] [] f fd) (Go_ROWS : mg "ROWS" = some (.ref ad_ROWS)) (T_ROWS : KdF K w ad_ROWS rowsT) (B_len : mg "len" = none) (U_Unread : ExU K mg "Unread" C_Unread) (B_range : mg "range" = none) (c_number_or_none : CalX P w K mg base k "number_or_none" ["word"] sp_number_or_none) (c_number_of : CalX P w K mg base k "number_of" ["word"] sp_number_of) (B_tuple : mg "tuple" = none) {sp : Sp}
    (len : ∀ vs H Q E, sp vs H Q E → vs.length = 1)
    (rd : ∀ vs H Q E, sp vs H Q E → t_row_of K ad_ROWS C_Unread sp_number_or_none sp_number_of E { nx := fun _ H' => Q .non H', rt := Q } (start N_row_of vs) H) : FnOk P w K mg base (L2.CX P w) (k + 1) f fd ["line"] sp := by
  refine D.ok sc_row_of len (fun cdv A outer s H vs Q E hr h => ⟨t_row_of K ad_ROWS C_Unread sp_number_or_none sp_number_of E, ?_, rd vs H Q E h⟩)
  · unfold t_row_of
    exact pss_cons (ps_set (i := 1) sc_row_of.nd rfl (by first | exact Or.inl rfl | exact Or.inr rfl) (pe_splitR (pv 0) (pe_str)))
        (pss_cons (ps_if (PW.pt (pw_or (pt_cmpR (op_niK T_ROWS) (pe_ix ix_list (pv 1) (pe_int) (fun _ _ => rfl)) (pe_glob (by rfl) Go_ROWS rfl) (by rfl)) (pw_or1 (pt_cmpR op_ne (pe_callB call_len_seq (by rfl) B_len PySem.boot_len (pa_cons (pv 1) (pa_nil))) (pe_op op_add (pe_int) (pe_ix (ix_K T_ROWS) (pe_glob (by rfl) Go_ROWS rfl) (pe_ix ix_list (pv 1) (pe_int) (fun _ _ => rfl)) (fun _ _ => rfl))) (nomark _))))) (pss_one (ps_rz U_Unread (takes_of rfl rfl rfl rfl))) (pss_nil))
        (pss_cons (ps_set (i := 2) sc_row_of.nd rfl (by first | exact Or.inl rfl | exact Or.inr rfl) (pe_lst (pa_cons (pe_ix ix_list (pv 1) (pe_int) (fun _ _ => rfl)) (pa_nil))))
        (pss_cons (ps_for (passes_of rfl) rfl (pi_range2 (by rfl) B_range (pa_cons (pe_int) (pa_cons (pe_callB call_len_seq (by rfl) B_len PySem.boot_len (pa_cons (pv 1) (pa_nil))) (pa_nil)))) (pg_name (i := 3) sc_row_of.nd rfl (by first | exact Or.inl rfl | exact Or.inr rfl)) (pss_one (ps_if (PW.pt (pw_and (pt_cmpR op_eq (pe_ix ix_list (pv 1) (pe_int) (fun _ _ => rfl)) (pe_str) (nomark _)) (pw_and1 (pt_cmpR op_eq (pv 3) (pe_int) (nomark _))))) (pss_one (ps_expr (pe_bm PySem.F.plainAttrs_list PySem.F.slot_list_append PySem.F.type_list_append mt_append (pv 2) (pa_cons (pcX c_number_or_none hr (takes_of rfl rfl rfl rfl) (pa_cons (pe_ix ix_list (pv 1) (pv 3) (fun _ _ => rfl)) (pa_nil))) (pa_nil))))) (pss_one (ps_expr (pe_bm PySem.F.plainAttrs_list PySem.F.slot_list_append PySem.F.type_list_append mt_append (pv 2) (pa_cons (pcX c_number_of hr (takes_of rfl rfl rfl rfl) (pa_cons (pe_ix ix_list (pv 1) (pv 3) (fun _ _ => rfl)) (pa_nil))) (pa_nil))))))))
        (pss_one (ps_ret (pe_callTy call_tuple_of (by rfl) B_tuple (by decide +kernel) (pa_cons (pv 2) (pa_nil))))))))

abbrev s_table_row_of : Stmt := topS 14
abbrev N_table_row_of : List Str := ["line", "words", "ends"]
theorem sc_table_row_of : FnScope N_table_row_of ["line"] (defScope s_table_row_of) := ⟨rfl, rfl, rfl, by decide +kernel, rfl, by decide +kernel, by decide +kernel⟩
theorem ok_table_row_of {C_Unread : Addr} {sp_number_of : Sp} {sp_number_or_none : Sp} {f : Addr} {fd : FuncData} (D : FunD K "table_row_of" "table_row_of" (defArgs s_table_row_of) (defBody s_table_row_of) (defScope s_table_row_of) [] [] f fd) (B_len : mg "len" = none) (U_Unread : ExU K mg "Unread" C_Unread) (c_number_of : CalX P w K mg base k "number_of" ["word"] sp_number_of) (c_number_or_none : CalX P w K mg base k "number_or_none" ["word"] sp_number_or_none) {sp : Sp}
    (len : ∀ vs H Q E, sp vs H Q E → vs.length = 1)
    (rd : ∀ vs H Q E, sp vs H Q E → t_table_row_of K C_Unread sp_number_of sp_number_or_none E { nx := fun _ H' => Q .non H', rt := Q } (start N_table_row_of vs) H) : FnOk P w K mg base (L2.CX P w) (k + 1) f fd ["line"] sp := by
  refine D.ok sc_table_row_of len (fun cdv A outer s H vs Q E hr h => ⟨t_table_row_of K C_Unread sp_number_of sp_number_or_none E, ?_, rd vs H Q E h⟩)
  · unfold t_table_row_of
    exact pss_cons (ps_set (i := 1) sc_table_row_of.nd rfl (by first | exact Or.inl rfl | exact Or.inr rfl) (pe_splitR (pv 0) (pe_str)))
        (pss_cons (ps_if (PW.pt (pw_or (pt_cmpR op_ne (pe_callB call_len_seq (by rfl) B_len PySem.boot_len (pa_cons (pv 1) (pa_nil))) (pe_int) (nomark _)) (pw_or1 (pt_cmpR op_notIn_seq (pe_ix ix_list (pv 1) (pe_int) (fun _ _ => rfl)) (pe_tup (pa_cons (pe_str) (pa_cons (pe_str) (pa_nil)))) (by rfl))))) (pss_one (ps_rz U_Unread (takes_of rfl rfl rfl rfl))) (pss_nil))
        (pss_cons (ps_set (i := 2) sc_table_row_of.nd rfl (by first | exact Or.inl rfl | exact Or.inr rfl) (pe_tup (pa_cons (pcX c_number_of hr (takes_of rfl rfl rfl rfl) (pa_cons (pe_ix ix_list (pv 1) (pe_int) (fun _ _ => rfl)) (pa_nil))) (pa_cons (pcX c_number_of hr (takes_of rfl rfl rfl rfl) (pa_cons (pe_ix ix_list (pv 1) (pe_int) (fun _ _ => rfl)) (pa_nil))) (pa_cons (pe_ix ix_list (pv 1) (pe_int) (fun _ _ => rfl)) (pa_nil))))))
        (pss_one (ps_ret (pe_op op_catA (pv 2) (pe_tup (pa_cons (pcX c_number_or_none hr (takes_of rfl rfl rfl rfl) (pa_cons (pe_ix ix_list (pv 1) (pe_int) (fun _ _ => rfl)) (pa_nil))) (pa_cons (pcX c_number_of hr (takes_of rfl rfl rfl rfl) (pa_cons (pe_ix ix_list (pv 1) (pe_int) (fun _ _ => rfl)) (pa_nil))) (pa_cons (pcX c_number_of hr (takes_of rfl rfl rfl rfl) (pa_cons (pe_ix ix_list (pv 1) (pe_int) (fun _ _ => rfl)) (pa_nil))) (pa_nil))))))))))

abbrev s_function_of : Stmt := topS 15
abbrev N_function_of : List Str := ["lines", "head", "many", "rows", "table", "line"]
theorem sc_function_of : FnScope N_function_of ["lines"] (defScope s_function_of) := ⟨rfl, rfl, rfl, by decide +kernel, rfl, by decide +kernel, by decide +kernel⟩
theorem ok_function_of {C_Unread : Addr} {sp_number_of : Sp} {sp_table_row_of : Sp} {sp_row_of : Sp} {f : Addr} {fd : FuncData} (D : FunD K "function_of" "function_of" (defArgs s_function_of) (defBody s_function_of) (defScope s_function_of) [] [] f fd) (B_len : mg "len" = none) (U_Unread : ExU K mg "Unread" C_Unread) (c_number_of : CalX P w K mg base k "number_of" ["word"] sp_number_of) (c_table_row_of : CalX P w K mg base k "table_row_of" ["line"] sp_table_row_of) (c_row_of : CalX P w K mg base k "row_of" ["line"] sp_row_of) (B_tuple : mg "tuple" = none) {sp : Sp}
    (len : ∀ vs H Q E, sp vs H Q E → vs.length = 1)
    (rd : ∀ vs H Q E, sp vs H Q E → t_function_of K C_Unread sp_number_of sp_table_row_of sp_row_of E { nx := fun _ H' => Q .non H', rt := Q } (start N_function_of vs) H) : FnOk P w K mg base (L2.CX P w) (k + 1) f fd ["lines"] sp := by
  refine D.ok sc_function_of len (fun cdv A outer s H vs Q E hr h => ⟨t_function_of K C_Unread sp_number_of sp_table_row_of sp_row_of E, ?_, rd vs H Q E h⟩)
  · unfold t_function_of
    exact pss_cons (ps_set (i := 1) sc_function_of.nd rfl (by first | exact Or.inl rfl | exact Or.inr rfl) (pe_splitR (pe_ix ix_list (pv 0) (pe_int) (fun _ _ => rfl)) (pe_str)))
        (pss_cons (ps_if (pt_cmpR op_ne (pe_callB call_len_seq (by rfl) B_len PySem.boot_len (pa_cons (pv 1) (pa_nil))) (pe_int) (nomark _)) (pss_one (ps_rz U_Unread (takes_of rfl rfl rfl rfl))) (pss_nil))
        (pss_cons (ps_set (i := 2) sc_function_of.nd rfl (by first | exact Or.inl rfl | exact Or.inr rfl) (pcX c_number_of hr (takes_of rfl rfl rfl rfl) (pa_cons (pe_ix ix_list (pv 1) (pe_int) (fun _ _ => rfl)) (pa_nil))))
        (pss_cons (ps_set (i := 3) sc_function_of.nd rfl (by first | exact Or.inl rfl | exact Or.inr rfl) (pe_lst (pa_nil)))
        (pss_cons (ps_set (i := 4) sc_function_of.nd rfl (by first | exact Or.inl rfl | exact Or.inr rfl) (pe_lst (pa_nil)))
        (pss_cons (ps_for (passes_of rfl) rfl (pi_list (pe_slice sl_list (pv 0) (po_some (pe_int)) po_none)) (pg_name (i := 5) sc_function_of.nd rfl (by first | exact Or.inl rfl | exact Or.inr rfl)) (pss_one (ps_if (pt_val (pe_startsR (pv 5) (pe_str))) (pss_one (ps_expr (pe_bm PySem.F.plainAttrs_list PySem.F.slot_list_append PySem.F.type_list_append mt_append (pv 4) (pa_cons (pcX c_table_row_of hr (takes_of rfl rfl rfl rfl) (pa_cons (pv 5) (pa_nil))) (pa_nil))))) (pss_one (ps_if (pt_cmpR (op_eqE hr.units) (pv 4) (pe_lst (pa_nil)) (nomark _)) (pss_one (ps_expr (pe_bm PySem.F.plainAttrs_list PySem.F.slot_list_append PySem.F.type_list_append mt_append (pv 3) (pa_cons (pcX c_row_of hr (takes_of rfl rfl rfl rfl) (pa_cons (pv 5) (pa_nil))) (pa_nil))))) (pss_one (ps_rz U_Unread (takes_of rfl rfl rfl rfl))))))))
        (pss_one (ps_ret (pe_tup (pa_cons (pv 2) (pa_cons (pe_callTy call_tuple_of (by rfl) B_tuple (by decide +kernel) (pa_cons (pv 3) (pa_nil))) (pa_cons (pe_callTy call_tuple_of (by rfl) B_tuple (by decide +kernel) (pa_cons (pv 4) (pa_nil))) (pa_nil))))))))))))

abbrev s_read_listing : Stmt := topS 16
abbrev N_read_listing : List Str := ["text", "found", "lines", "line", "function"]
theorem sc_read_listing : FnScope N_read_listing ["text"] (defScope s_read_listing) := ⟨rfl, rfl, rfl, by decide +kernel, rfl, by decide +kernel, by decide +kernel⟩
theorem ok_read_listing {sp_function_of : Sp} {C_Unread : Addr} {sp_table_of : Sp} {f : Addr} {fd : FuncData} (D : FunD K "read_listing" "read_listing" (defArgs s_read_listing) (defBody s_read_listing) (defScope s_read_listing) [] [] f fd) (c_function_of : CalX P w K mg base k "function_of" ["lines"] sp_function_of) (U_Unread : ExU K mg "Unread" C_Unread) (c_table_of : Cal P w K mg base k "table_of" ["rows"] sp_table_of) (B_tuple : mg "tuple" = none) {sp : Sp}
    (len : ∀ vs H Q E, sp vs H Q E → vs.length = 1)
    (rd : ∀ vs H Q E, sp vs H Q E → t_read_listing K sp_function_of C_Unread sp_table_of E { nx := fun _ H' => Q .non H', rt := Q } (start N_read_listing vs) H) : FnOk P w K mg base (L2.CX P w) (k + 1) f fd ["text"] sp := by
  refine D.ok sc_read_listing len (fun cdv A outer s H vs Q E hr h => ⟨t_read_listing K sp_function_of C_Unread sp_table_of E, ?_, rd vs H Q E h⟩)
  · unfold t_read_listing
    exact pss_cons (ps_set (i := 1) sc_read_listing.nd rfl (by first | exact Or.inl rfl | exact Or.inr rfl) (pe_lst (pa_nil)))
        (pss_cons (ps_set (i := 2) sc_read_listing.nd rfl (by first | exact Or.inl rfl | exact Or.inr rfl) (pe_lst (pa_nil)))
        (pss_cons (ps_for (passes_of rfl) rfl (pi_list (pe_splitR (pv 0) (pe_str))) (pg_name (i := 3) sc_read_listing.nd rfl (by first | exact Or.inl rfl | exact Or.inr rfl)) (pss_cons (ps_if (PW.pt (pw_and (pt_val (pe_startsR (pv 3) (pe_str))) (pw_and1 (pt_cmpR (op_neE hr.units) (pv 2) (pe_lst (pa_nil)) (nomark _))))) (pss_cons (ps_expr (pe_bm PySem.F.plainAttrs_list PySem.F.slot_list_append PySem.F.type_list_append mt_append (pv 1) (pa_cons (pcX c_function_of hr (takes_of rfl rfl rfl rfl) (pa_cons (pv 2) (pa_nil))) (pa_nil))))
        (pss_one (ps_set (i := 2) sc_read_listing.nd rfl (by first | exact Or.inl rfl | exact Or.inr rfl) (pe_lst (pa_nil))))) (pss_one (ps_if (PW.pt (pw_and (pt_cmpR (op_eqE hr.units) (pv 2) (pe_lst (pa_nil)) (nomark _)) (pw_and1 (pt_not (pt_val (pe_startsR (pv 3) (pe_str))))))) (pss_one (ps_rz U_Unread (takes_of rfl rfl rfl rfl))) (pss_nil))))
        (pss_one (ps_expr (pe_bm PySem.F.plainAttrs_list PySem.F.slot_list_append PySem.F.type_list_append mt_append (pv 2) (pa_cons (pv 3) (pa_nil)))))))
        (pss_cons (ps_expr (pe_bm PySem.F.plainAttrs_list PySem.F.slot_list_append PySem.F.type_list_append mt_append (pv 1) (pa_cons (pcX c_function_of hr (takes_of rfl rfl rfl rfl) (pa_cons (pv 2) (pa_nil))) (pa_nil))))
        (pss_cons (ps_for (passes_of rfl) rfl (pi_list (pv 1)) (pg_name (i := 4) sc_read_listing.nd rfl (by first | exact Or.inl rfl | exact Or.inr rfl)) (pss_one (ps_if (pt_cmpR (op_neD hr.units) (pe_ix ix_tup (pv 4) (pe_int) (fun _ _ => rfl)) (pc c_table_of hr (pa_cons (pe_ix ix_tup (pv 4) (pe_int) (fun _ _ => rfl)) (pa_nil))) (nomark _)) (pss_one (ps_rz U_Unread (takes_of rfl rfl rfl rfl))) (pss_nil))))
        (pss_one (ps_ret (pe_callTy call_tuple_of (by rfl) B_tuple (by decide +kernel) (pa_cons (pv 1) (pa_nil)))))))))

abbrev s_law_take : Stmt := topS 18
abbrev N_law_take : List Str := ["_law_box", "_law_many", "_law_number"]
theorem sc_law_take : FnScope N_law_take ["_law_box", "_law_many"] (defScope s_law_take) := ⟨rfl, rfl, rfl, by decide +kernel, rfl, by decide +kernel, by decide +kernel⟩
theorem ok_law_take  {f : Addr} {fd : FuncData} (D : FunD K "_law_take" "_law_take" (defArgs s_law_take) (defBody s_law_take) (defScope s_law_take) [] [] f fd)  {sp : Sp}
    (len : ∀ vs H Q E, sp vs H Q E → vs.length = 2)
    (rd : ∀ vs H Q E, sp vs H Q E → t_law_take K { nx := fun _ H' => Q .non H', rt := Q } (start N_law_take vs) H) : FnOk P w K mg base CX0 (k + 1) f fd ["_law_box", "_law_many"] sp := by
  refine D.ok sc_law_take len (fun cdv A outer s H vs Q E hr h => ⟨t_law_take K, PSs.nox ?_, rd vs H Q E h⟩)
  · unfold t_law_take
    exact pss_cons (ps_if (pt_cmpR (op_eqD hr.units) (pv 0) (pe_lst (pa_nil)) (nomark _)) (pss_one (ps_ret (pe_int))) (pss_nil))
        (pss_cons (ps_set (i := 2) sc_law_take.nd rfl (by first | exact Or.inl rfl | exact Or.inr rfl) (pe_ix ix_list (pv 0) (pe_int) (fun _ _ => rfl)))
        (pss_cons (ps_asg (pe_op op_fdivW (pv 2) (pv 1)) (pg_sub (pv 0) (pe_int) set_list))
        (pss_cons (ps_if (PW.pt (pw_or (pt_cmpR op_eq (pe_ix ix_list (pv 0) (pe_int) (fun _ _ => rfl)) (pe_int) (nomark _)) (pw_or1 (pt_cmpR op_eq (pe_ix ix_list (pv 0) (pe_int) (fun _ _ => rfl)) (pe_un un_neg (pe_int)) (nomark _))))) (pss_one (ps_expr (pe_bm PySem.F.plainAttrs_list PySem.F.slot_list_pop PySem.F.type_list_pop mt_popAt (pv 0) (pa_cons (pe_int) (pa_nil))))) (pss_nil))
        (pss_one (ps_ret (pe_op op_mod (pv 2) (pv 1)))))))

abbrev s_law_alike : Stmt := topS 19
abbrev N_law_alike : List Str := ["_law_found", "_law_due", "_law_k"]
theorem sc_law_alike : FnScope N_law_alike ["_law_found", "_law_due"] (defScope s_law_alike) := ⟨rfl, rfl, rfl, by decide +kernel, rfl, by decide +kernel, by decide +kernel⟩
theorem ok_law_alike {sp_law_alike : Sp} {f : Addr} {fd : FuncData} (D : FunD K "_law_alike" "_law_alike" (defArgs s_law_alike) (defBody s_law_alike) (defScope s_law_alike) [] [] f fd) (B_isinstance : mg "isinstance" = none) (B_bool : mg "bool" = none) (B_int : mg "int" = none) (B_str : mg "str" = none) (B_tuple : mg "tuple" = none) (B_list : mg "list" = none) (B_len : mg "len" = none) (B_range : mg "range" = none) (c_law_alike : Cal P w K mg base k "_law_alike" ["_law_found", "_law_due"] sp_law_alike) {sp : Sp}
    (len : ∀ vs H Q E, sp vs H Q E → vs.length = 2)
    (rd : ∀ vs H Q E, sp vs H Q E → t_law_alike K sp_law_alike { nx := fun _ H' => Q .non H', rt := Q } (start N_law_alike vs) H) : FnOk P w K mg base CX0 (k + 1) f fd ["_law_found", "_law_due"] sp := by
  refine D.ok sc_law_alike len (fun cdv A outer s H vs Q E hr h => ⟨t_law_alike K sp_law_alike, PSs.nox ?_, rd vs H Q E h⟩)
  · unfold t_law_alike
    exact pss_cons (ps_if (pt_cmpR op_isN (pv 1) (pe_non) (nomark _)) (pss_one (ps_ret (pe_cmpR op_isN (pv 0) (pe_non) (nomark _)))) (pss_nil))
        (pss_cons (ps_if (pt_val (pe_callB call_isi (by rfl) B_isinstance (by decide +kernel) (pa_cons (pv 1) (pa_cons (pe_bltn (by rfl) B_bool (by decide +kernel) rfl) (pa_nil))))) (pss_one (ps_ret (pe_and (pe_callB call_isi (by rfl) B_isinstance (by decide +kernel) (pa_cons (pv 0) (pa_cons (pe_bltn (by rfl) B_bool (by decide +kernel) rfl) (pa_nil)))) (pe_one (pe_cmpR op_eq (pv 0) (pv 1) (nomark _)))))) (pss_nil))
        (pss_cons (ps_if (pt_val (pe_callB call_isi (by rfl) B_isinstance (by decide +kernel) (pa_cons (pv 1) (pa_cons (pe_bltn (by rfl) B_int (by decide +kernel) rfl) (pa_nil))))) (pss_one (ps_ret (pe_and (pe_callB call_isi (by rfl) B_isinstance (by decide +kernel) (pa_cons (pv 0) (pa_cons (pe_bltn (by rfl) B_int (by decide +kernel) rfl) (pa_nil)))) (pe_and (pe_not (pe_callB call_isi (by rfl) B_isinstance (by decide +kernel) (pa_cons (pv 0) (pa_cons (pe_bltn (by rfl) B_bool (by decide +kernel) rfl) (pa_nil))))) (pe_one (pe_cmpR op_eq (pv 0) (pv 1) (nomark _))))))) (pss_nil))
        (pss_cons (ps_if (pt_val (pe_callB call_isi (by rfl) B_isinstance (by decide +kernel) (pa_cons (pv 1) (pa_cons (pe_bltn (by rfl) B_str (by decide +kernel) rfl) (pa_nil))))) (pss_one (ps_ret (pe_and (pe_callB call_isi (by rfl) B_isinstance (by decide +kernel) (pa_cons (pv 0) (pa_cons (pe_bltn (by rfl) B_str (by decide +kernel) rfl) (pa_nil)))) (pe_one (pe_cmpR op_eq (pv 0) (pv 1) (nomark _)))))) (pss_nil))
        (pss_cons (ps_if (PW.pt (pw_or (pt_cmpR op_ne (pe_callB call_isi (by rfl) B_isinstance (by decide +kernel) (pa_cons (pv 1) (pa_cons (pe_bltn (by rfl) B_tuple (by decide +kernel) rfl) (pa_nil)))) (pe_callB call_isi (by rfl) B_isinstance (by decide +kernel) (pa_cons (pv 0) (pa_cons (pe_bltn (by rfl) B_tuple (by decide +kernel) rfl) (pa_nil)))) (nomark _)) (pw_or1 (pt_cmpR op_ne (pe_callB call_isi (by rfl) B_isinstance (by decide +kernel) (pa_cons (pv 1) (pa_cons (pe_bltn (by rfl) B_list (by decide +kernel) rfl) (pa_nil)))) (pe_callB call_isi (by rfl) B_isinstance (by decide +kernel) (pa_cons (pv 0) (pa_cons (pe_bltn (by rfl) B_list (by decide +kernel) rfl) (pa_nil)))) (nomark _))))) (pss_one (ps_ret (pe_bl))) (pss_nil))
        (pss_cons (ps_if (pt_cmpR op_ne (pe_callB call_len_seq (by rfl) B_len PySem.boot_len (pa_cons (pv 0) (pa_nil))) (pe_callB call_len_seq (by rfl) B_len PySem.boot_len (pa_cons (pv 1) (pa_nil))) (nomark _)) (pss_one (ps_ret (pe_bl))) (pss_nil))
        (pss_cons (ps_for PassesOwn.never rfl (pi_range1 (by rfl) B_range (pa_cons (pe_callB call_len_seq (by rfl) B_len PySem.boot_len (pa_cons (pv 1) (pa_nil))) (pa_nil))) (pg_name (i := 2) sc_law_alike.nd rfl (by first | exact Or.inl rfl | exact Or.inr rfl)) (pss_one (ps_if (pt_not (pt_val (pc c_law_alike hr (pa_cons (pe_ix ix_seq (pv 0) (pv 2) (fun _ _ => rfl)) (pa_cons (pe_ix ix_seq (pv 1) (pv 2) (fun _ _ => rfl)) (pa_nil)))))) (pss_one (ps_ret (pe_bl))) (pss_nil))))
        (pss_one (ps_ret (pe_bl)))))))))

abbrev s_law_part : Stmt := topS 20
abbrev N_law_part : List Str := ["_law_box", "_law_deep", "_law_kind", "_law_word_here", "_law_one"]
theorem sc_law_part : FnScope N_law_part ["_law_box", "_law_deep"] (defScope s_law_part) := ⟨rfl, rfl, rfl, by decide +kernel, rfl, by decide +kernel, by decide +kernel⟩
theorem ok_law_part {sp_law_take : Sp} {sp_law_part : Sp} {f : Addr} {fd : FuncData} (D : FunD K "_law_part" "_law_part" (defArgs s_law_part) (defBody s_law_part) (defScope s_law_part) [] [] f fd) (c_law_take : Cal P w K mg base k "_law_take" ["_law_box", "_law_many"] sp_law_take) (c_law_part : Cal P w K mg base k "_law_part" ["_law_box", "_law_deep"] sp_law_part) {sp : Sp}
    (len : ∀ vs H Q E, sp vs H Q E → vs.length = 2)
    (rd : ∀ vs H Q E, sp vs H Q E → t_law_part K sp_law_take sp_law_part { nx := fun _ H' => Q .non H', rt := Q } (start N_law_part vs) H) : FnOk P w K mg base CX0 (k + 1) f fd ["_law_box", "_law_deep"] sp := by
  refine D.ok sc_law_part len (fun cdv A outer s H vs Q E hr h => ⟨t_law_part K sp_law_take sp_law_part, PSs.nox ?_, rd vs H Q E h⟩)
  · unfold t_law_part
    exact pss_cons (ps_set (i := 2) sc_law_part.nd rfl (by first | exact Or.inl rfl | exact Or.inr rfl) (pc c_law_take hr (pa_cons (pv 0) (pa_cons (pe_int) (pa_nil)))))
        (pss_cons (ps_if (pt_cmpR op_lt (pv 2) (pe_int) (nomark _)) (pss_one (ps_ret (pe_tup (pa_cons (pe_str) (pa_cons (pc c_law_take hr (pa_cons (pv 0) (pa_cons (pe_int) (pa_nil)))) (pa_nil)))))) (pss_nil))
        (pss_cons (ps_if (PW.pt (pw_or (pt_cmpR op_eq (pv 1) (pe_int) (nomark _)) (pw_or1 (pt_cmpR op_eq (pv 2) (pe_int) (nomark _))))) (pss_one (ps_ret (pe_tup (pa_cons (pe_str) (pa_cons (pc c_law_take hr (pa_cons (pv 0) (pa_cons (pe_int) (pa_nil)))) (pa_nil)))))) (pss_nil))
        (pss_cons (ps_if (pt_cmpR op_lt (pv 2) (pe_int) (nomark _)) (pss_one (ps_ret (pe_tup (pa_cons (pe_str) (pa_cons (pc c_law_take hr (pa_cons (pv 0) (pa_cons (pe_int) (pa_nil)))) (pa_nil)))))) (pss_nil))
        (pss_cons (ps_set (i := 3) sc_law_part.nd rfl (by first | exact Or.inl rfl | exact Or.inr rfl) (pe_ix ix_list (pe_lst (pa_cons (pe_str) (pa_cons (pe_str) (pa_cons (pe_str) (pa_cons (pe_str) (pa_nil)))))) (pc c_law_take hr (pa_cons (pv 0) (pa_cons (pe_int) (pa_nil)))) (fun _ _ => rfl)))
        (pss_cons (ps_set (i := 4) sc_law_part.nd rfl (by first | exact Or.inl rfl | exact Or.inr rfl) (pc c_law_part hr (pa_cons (pv 0) (pa_cons (pe_op op_sub (pv 1) (pe_int)) (pa_nil)))))
        (pss_one (ps_ret (pe_tup (pa_cons (pv 3) (pa_cons (pv 4) (pa_cons (pc c_law_part hr (pa_cons (pv 0) (pa_cons (pe_op op_sub (pv 1) (pe_int)) (pa_nil)))) (pa_nil))))))))))))

abbrev s_law_kinds : Stmt := topS 21
abbrev N_law_kinds : List Str := ["_law_box", "_law_most", "_law_kinds_here", "_law_k", "_law_above_here"]
theorem sc_law_kinds : FnScope N_law_kinds ["_law_box", "_law_most"] (defScope s_law_kinds) := ⟨rfl, rfl, rfl, by decide +kernel, rfl, by decide +kernel, by decide +kernel⟩
theorem ok_law_kinds {sp_law_take : Sp} {f : Addr} {fd : FuncData} (D : FunD K "_law_kinds" "_law_kinds" (defArgs s_law_kinds) (defBody s_law_kinds) (defScope s_law_kinds) [] [] f fd) (B_range : mg "range" = none) (c_law_take : Cal P w K mg base k "_law_take" ["_law_box", "_law_many"] sp_law_take) (B_int : mg "int" = none) (B_tuple : mg "tuple" = none) {sp : Sp}
    (len : ∀ vs H Q E, sp vs H Q E → vs.length = 2)
    (rd : ∀ vs H Q E, sp vs H Q E → t_law_kinds K sp_law_take { nx := fun _ H' => Q .non H', rt := Q } (start N_law_kinds vs) H) : FnOk P w K mg base CX0 (k + 1) f fd ["_law_box", "_law_most"] sp := by
  refine D.ok sc_law_kinds len (fun cdv A outer s H vs Q E hr h => ⟨t_law_kinds K sp_law_take, PSs.nox ?_, rd vs H Q E h⟩)
  · unfold t_law_kinds
    exact pss_cons (ps_set (i := 2) sc_law_kinds.nd rfl (by first | exact Or.inl rfl | exact Or.inr rfl) (pe_lst (pa_nil)))
        (pss_cons (ps_for PassesOwn.never rfl (pi_range1 (by rfl) B_range (pa_cons (pe_op op_add (pe_int) (pc c_law_take hr (pa_cons (pv 0) (pa_cons (pv 1) (pa_nil))))) (pa_nil))) (pg_name (i := 3) sc_law_kinds.nd rfl (by first | exact Or.inl rfl | exact Or.inr rfl)) (pss_cons (ps_set (i := 4) sc_law_kinds.nd rfl (by first | exact Or.inl rfl | exact Or.inr rfl) (pc c_law_take hr (pa_cons (pv 0) (pa_cons (pe_op op_add (pv 3) (pe_int)) (pa_nil)))))
        (pss_one (ps_expr (pe_bm PySem.F.plainAttrs_list PySem.F.slot_list_append PySem.F.type_list_append mt_append (pv 2) (pa_cons (pe_ix ix_list (pe_lst (pa_cons (pe_non) (pa_cons (pe_op op_sub (pv 4) (pe_int)) (pa_nil)))) (pe_callTy call_int1 (by rfl) B_int (by decide +kernel) (pa_cons (pe_cmpR op_gt (pv 4) (pe_int) (nomark _)) (pa_nil))) (fun _ _ => rfl)) (pa_nil)))))))
        (pss_one (ps_ret (pe_callTy call_tuple_of (by rfl) B_tuple (by decide +kernel) (pa_cons (pv 2) (pa_nil))))))

abbrev s_law_call : Stmt := topS 23
abbrev N_law_call : List Str := ["_law_box", "_law_shape", "_law_number", "_law_slot", "_law_parts", "_law_k"]
theorem sc_law_call : FnScope N_law_call ["_law_box", "_law_shape"] (defScope s_law_call) := ⟨rfl, rfl, rfl, by decide +kernel, rfl, by decide +kernel, by decide +kernel⟩
theorem ok_law_call {sp_law_take : Sp} {sp_law_part : Sp} {f : Addr} {fd : FuncData} (D : FunD K "_law_call" "_law_call" (defArgs s_law_call) (defBody s_law_call) (defScope s_law_call) [] [] f fd) (c_law_take : Cal P w K mg base k "_law_take" ["_law_box", "_law_many"] sp_law_take) (B_len : mg "len" = none) (B_range : mg "range" = none) (c_law_part : Cal P w K mg base k "_law_part" ["_law_box", "_law_deep"] sp_law_part) (B_tuple : mg "tuple" = none) {sp : Sp}
    (len : ∀ vs H Q E, sp vs H Q E → vs.length = 2)
    (rd : ∀ vs H Q E, sp vs H Q E → t_law_call K sp_law_take sp_law_part { nx := fun _ H' => Q .non H', rt := Q } (start N_law_call vs) H) : FnOk P w K mg base CX0 (k + 1) f fd ["_law_box", "_law_shape"] sp := by
  refine D.ok sc_law_call len (fun cdv A outer s H vs Q E hr h => ⟨t_law_call K sp_law_take sp_law_part, PSs.nox ?_, rd vs H Q E h⟩)
  · unfold t_law_call
    exact pss_cons (ps_set (i := 2) sc_law_call.nd rfl (by first | exact Or.inl rfl | exact Or.inr rfl) (pc c_law_take hr (pa_cons (pv 0) (pa_cons (pe_callB call_len_seq (by rfl) B_len PySem.boot_len (pa_cons (pe_ix ix_list (pv 1) (pe_int) (fun _ _ => rfl)) (pa_nil))) (pa_nil)))))
        (pss_cons (ps_set (i := 3) sc_law_call.nd rfl (by first | exact Or.inl rfl | exact Or.inr rfl) (pc c_law_take hr (pa_cons (pv 0) (pa_cons (pe_int) (pa_nil)))))
        (pss_cons (by first | exact ps_setLc (i := 4) (own := [("_law_k", 5)]) (g := gName 5) rfl sc_law_call.nd rfl rfl (sw_true rfl rfl rfl (by decide +kernel)) (pi_range1 (by rfl) B_range (pa_cons (pe_ix ix_list (pe_ix ix_list (pv 1) (pe_int) (fun _ _ => rfl)) (pv 2) (fun _ _ => rfl)) (pa_nil))) (blkOk_by (own := [("_law_k", 5)]) (N := N_law_call) (sc := defScope s_law_call) (by decide +kernel)) (fun _ _ _ _ _ => pg_name (i := 5) sc_law_call.nd rfl (Or.inl rfl)) (fun _ _ _ _ _ => pts_nil) (fun _ _ _ _ _ => pc c_law_part hr (pa_cons (pv 0) (pa_cons (pe_int) (pa_nil)))) | exact ps_set (i := 4) sc_law_call.nd rfl (Or.inr rfl) (pe_lc (own := [("_law_k", 5)]) (g := gName 5) rfl sc_law_call.nd (pi_range1 (by rfl) B_range (pa_cons (pe_ix ix_list (pe_ix ix_list (pv 1) (pe_int) (fun _ _ => rfl)) (pv 2) (fun _ _ => rfl)) (pa_nil))) (blkOk_by (own := [("_law_k", 5)]) (N := N_law_call) (sc := defScope s_law_call) (by decide +kernel)) (fun _ _ _ _ _ => pg_name (i := 5) sc_law_call.nd rfl (Or.inl rfl)) (fun _ _ _ _ _ => pts_nil) (fun _ _ _ _ _ => pc c_law_part hr (pa_cons (pv 0) (pa_cons (pe_int) (pa_nil))))))
        (pss_one (ps_ret (pe_tup (pa_cons (pe_str) (pa_cons (pv 3) (pa_cons (pv 2) (pa_cons (pe_callTy call_tuple_of (by rfl) B_tuple (by decide +kernel) (pa_cons (pv 4) (pa_nil))) (pa_cons (pc c_law_take hr (pa_cons (pv 0) (pa_cons (pe_int) (pa_nil)))) (pa_nil)))))))))))

abbrev s_law_simple : Stmt := topS 24
abbrev N_law_simple : List Str := ["_law_box", "_law_shape", "_law_turn", "_law_handler_here", "_law_kind", "_law_number"]
theorem sc_law_simple : FnScope N_law_simple ["_law_box", "_law_shape", "_law_turn", "_law_handler_here"] (defScope s_law_simple) := ⟨rfl, rfl, rfl, by decide +kernel, rfl, by decide +kernel, by decide +kernel⟩
theorem ok_law_simple {sp_law_take : Sp} {sp_law_call : Sp} {sp_law_part : Sp} {f : Addr} {fd : FuncData} (D : FunD K "_law_simple" "_law_simple" (defArgs s_law_simple) (defBody s_law_simple) (defScope s_law_simple) [] [] f fd) (c_law_take : Cal P w K mg base k "_law_take" ["_law_box", "_law_many"] sp_law_take) (c_law_call : Cal P w K mg base k "_law_call" ["_law_box", "_law_shape"] sp_law_call) (c_law_part : Cal P w K mg base k "_law_part" ["_law_box", "_law_deep"] sp_law_part) {sp : Sp}
    (len : ∀ vs H Q E, sp vs H Q E → vs.length = 4)
    (rd : ∀ vs H Q E, sp vs H Q E → t_law_simple K sp_law_take sp_law_call sp_law_part { nx := fun _ H' => Q .non H', rt := Q } (start N_law_simple vs) H) : FnOk P w K mg base CX0 (k + 1) f fd ["_law_box", "_law_shape", "_law_turn", "_law_handler_here"] sp := by
  refine D.ok sc_law_simple len (fun cdv A outer s H vs Q E hr h => ⟨t_law_simple K sp_law_take sp_law_call sp_law_part, PSs.nox ?_, rd vs H Q E h⟩)
  · unfold t_law_simple
    exact pss_cons (ps_set (i := 4) sc_law_simple.nd rfl (by first | exact Or.inl rfl | exact Or.inr rfl) (pc c_law_take hr (pa_cons (pv 0) (pa_cons (pe_int) (pa_nil)))))
        (pss_cons (ps_if (PW.pt (pw_and (pt_cmpR op_eq (pv 4) (pe_int) (nomark _)) (pw_and1 (pt_val (pv 3))))) (pss_one (ps_ret (pe_tup (pa_cons (pe_str) (pa_nil))))) (pss_nil))
        (pss_cons (ps_if (PW.pt (pw_and (pt_cmpR op_eq (pv 4) (pe_int) (nomark _)) (pw_and1 (pt_val (pv 2))))) (pss_one (ps_ret (pe_tup (pa_cons (pe_ix ix_list (pe_lst (pa_cons (pe_str) (pa_cons (pe_str) (pa_nil)))) (pc c_law_take hr (pa_cons (pv 0) (pa_cons (pe_int) (pa_nil)))) (fun _ _ => rfl)) (pa_nil))))) (pss_nil))
        (pss_cons (ps_if (pt_cmpR op_eq (pv 4) (pe_int) (nomark _)) (pss_one (ps_ret (pc c_law_call hr (pa_cons (pv 0) (pa_cons (pv 1) (pa_nil)))))) (pss_nil))
        (pss_cons (ps_if (pt_cmpR op_eq (pv 4) (pe_int) (nomark _)) (pss_cons (ps_set (i := 5) sc_law_simple.nd rfl (by first | exact Or.inl rfl | exact Or.inr rfl) (pc c_law_part hr (pa_cons (pv 0) (pa_cons (pe_int) (pa_nil)))))
        (pss_one (ps_ret (pe_tup (pa_cons (pe_str) (pa_cons (pc c_law_take hr (pa_cons (pv 0) (pa_cons (pe_ix ix_list (pv 1) (pe_int) (fun _ _ => rfl)) (pa_nil)))) (pa_cons (pv 5) (pa_cons (pc c_law_take hr (pa_cons (pv 0) (pa_cons (pe_int) (pa_nil)))) (pa_nil))))))))) (pss_nil))
        (pss_cons (ps_if (pt_cmpR op_eq (pv 4) (pe_int) (nomark _)) (pss_one (ps_ret (pe_tup (pa_cons (pe_str) (pa_cons (pc c_law_part hr (pa_cons (pv 0) (pa_cons (pe_int) (pa_nil)))) (pa_nil)))))) (pss_nil))
        (pss_cons (ps_if (pt_cmpR op_eq (pv 4) (pe_int) (nomark _)) (pss_one (ps_ret (pe_tup (pa_cons (pe_str) (pa_cons (pe_tup (pa_nil)) (pa_nil)))))) (pss_nil))
        (pss_cons (ps_if (pt_cmpR op_eq (pv 4) (pe_int) (nomark _)) (pss_one (ps_ret (pe_tup (pa_cons (pe_str) (pa_cons (pc c_law_take hr (pa_cons (pv 0) (pa_cons (pe_int) (pa_nil)))) (pa_cons (pc c_law_part hr (pa_cons (pv 0) (pa_cons (pe_int) (pa_nil)))) (pa_nil))))))) (pss_nil))
        (pss_one (ps_ret (pe_tup (pa_cons (pe_str) (pa_cons (pc c_law_part hr (pa_cons (pv 0) (pa_cons (pe_int) (pa_nil)))) (pa_nil)))))))))))))

abbrev s_law_handler : Stmt := topS 25
abbrev N_law_handler : List Str := ["_law_box", "_law_shape", "_law_deep", "_law_turn", "_law_kind", "_law_slot"]
theorem sc_law_handler : FnScope N_law_handler ["_law_box", "_law_shape", "_law_deep", "_law_turn"] (defScope s_law_handler) := ⟨rfl, rfl, rfl, by decide +kernel, rfl, by decide +kernel, by decide +kernel⟩
theorem ok_law_handler {sp_law_take : Sp} {sp_law_statement : Sp} {f : Addr} {fd : FuncData} (D : FunD K "_law_handler" "_law_handler" (defArgs s_law_handler) (defBody s_law_handler) (defScope s_law_handler) [] [] f fd) (c_law_take : Cal P w K mg base k "_law_take" ["_law_box", "_law_many"] sp_law_take) (c_law_statement : Cal P w K mg base k "_law_statement" ["_law_box", "_law_shape", "_law_deep", "_law_turn", "_law_handler_here"] sp_law_statement) {sp : Sp}
    (len : ∀ vs H Q E, sp vs H Q E → vs.length = 4)
    (rd : ∀ vs H Q E, sp vs H Q E → t_law_handler K sp_law_take sp_law_statement { nx := fun _ H' => Q .non H', rt := Q } (start N_law_handler vs) H) : FnOk P w K mg base CX0 (k + 1) f fd ["_law_box", "_law_shape", "_law_deep", "_law_turn"] sp := by
  refine D.ok sc_law_handler len (fun cdv A outer s H vs Q E hr h => ⟨t_law_handler K sp_law_take sp_law_statement, PSs.nox ?_, rd vs H Q E h⟩)
  · unfold t_law_handler
    exact pss_cons (ps_set (i := 4) sc_law_handler.nd rfl (by first | exact Or.inl rfl | exact Or.inr rfl) (pc c_law_take hr (pa_cons (pv 0) (pa_cons (pe_op op_add (pe_ix ix_list (pv 1) (pe_int) (fun _ _ => rfl)) (pe_int)) (pa_nil)))))
        (pss_cons (ps_set (i := 5) sc_law_handler.nd rfl (by first | exact Or.inl rfl | exact Or.inr rfl) (pc c_law_take hr (pa_cons (pv 0) (pa_cons (pe_int) (pa_nil)))))
        (pss_cons (ps_if (pt_cmpR op_eq (pv 4) (pe_ix ix_list (pv 1) (pe_int) (fun _ _ => rfl)) (nomark _)) (pss_one (ps_set (i := 4) sc_law_handler.nd rfl (by first | exact Or.inl rfl | exact Or.inr rfl) (pe_non))) (pss_nil))
        (pss_one (ps_ret (pe_tup (pa_cons (pv 4) (pa_cons (pv 5) (pa_cons (pc c_law_statement hr (pa_cons (pv 0) (pa_cons (pv 1) (pa_cons (pv 2) (pa_cons (pv 3) (pa_cons (pe_bl) (pa_nil))))))) (pa_nil)))))))))

abbrev s_law_statement : Stmt := topS 26
abbrev N_law_statement : List Str := ["_law_box", "_law_shape", "_law_deep", "_law_turn", "_law_handler_here", "_law_kind", "_law_k", "_law_many", "_law_part_here", "_law_yes", "_law_inner"]
theorem sc_law_statement : FnScope N_law_statement ["_law_box", "_law_shape", "_law_deep", "_law_turn", "_law_handler_here"] (defScope s_law_statement) := ⟨rfl, rfl, rfl, by decide +kernel, rfl, by decide +kernel, by decide +kernel⟩
theorem ok_law_statement {sp_law_take : Sp} {sp_law_simple : Sp} {sp_law_statement : Sp} {sp_law_part : Sp} {sp_law_handler : Sp} {f : Addr} {fd : FuncData} (D : FunD K "_law_statement" "_law_statement" (defArgs s_law_statement) (defBody s_law_statement) (defScope s_law_statement) [] [] f fd) (c_law_take : Cal P w K mg base k "_law_take" ["_law_box", "_law_many"] sp_law_take) (c_law_simple : Cal P w K mg base k "_law_simple" ["_law_box", "_law_shape", "_law_turn", "_law_handler_here"] sp_law_simple) (B_tuple : mg "tuple" = none) (B_range : mg "range" = none) (c_law_statement : Cal P w K mg base k "_law_statement" ["_law_box", "_law_shape", "_law_deep", "_law_turn", "_law_handler_here"] sp_law_statement) (c_law_part : Cal P w K mg base k "_law_part" ["_law_box", "_law_deep"] sp_law_part) (c_law_handler : Cal P w K mg base k "_law_handler" ["_law_box", "_law_shape", "_law_deep", "_law_turn"] sp_law_handler) {sp : Sp}
    (len : ∀ vs H Q E, sp vs H Q E → vs.length = 5)
    (rd : ∀ vs H Q E, sp vs H Q E → t_law_statement K sp_law_take sp_law_simple sp_law_statement sp_law_part sp_law_handler { nx := fun _ H' => Q .non H', rt := Q } (start N_law_statement vs) H) : FnOk P w K mg base CX0 (k + 1) f fd ["_law_box", "_law_shape", "_law_deep", "_law_turn", "_law_handler_here"] sp := by
  refine D.ok sc_law_statement len (fun cdv A outer s H vs Q E hr h => ⟨t_law_statement K sp_law_take sp_law_simple sp_law_statement sp_law_part sp_law_handler, PSs.nox ?_, rd vs H Q E h⟩)
  · unfold t_law_statement
    exact pss_cons (ps_set (i := 5) sc_law_statement.nd rfl (by first | exact Or.inl rfl | exact Or.inr rfl) (pc c_law_take hr (pa_cons (pv 0) (pa_cons (pe_int) (pa_nil)))))
        (pss_cons (ps_if (PW.pt (pw_or (pt_cmpR op_eq (pv 2) (pe_int) (nomark _)) (pw_or1 (pt_cmpR op_lt (pv 5) (pe_int) (nomark _))))) (pss_one (ps_ret (pc c_law_simple hr (pa_cons (pv 0) (pa_cons (pv 1) (pa_cons (pv 3) (pa_cons (pv 4) (pa_nil)))))))) (pss_nil))
        (pss_cons (ps_if (PW.pt (pw_and (pt_cmpR op_eq (pv 5) (pe_int) (nomark _)) (pw_and1 (pt_cmpR op_eq (pc c_law_take hr (pa_cons (pv 0) (pa_cons (pe_int) (pa_nil)))) (pe_int) (nomark _))))) (pss_one (ps_ret (pe_tup (pa_cons (pe_str) (pa_cons (pe_callTy call_tuple_of (by rfl) B_tuple (by decide +kernel) (pa_cons (pe_lc (own := [("_law_k", 6)]) (g := gName 6) rfl sc_law_statement.nd (pi_range1 (by rfl) B_range (pa_cons (pc c_law_take hr (pa_cons (pv 0) (pa_cons (pe_int) (pa_nil)))) (pa_nil))) (blkOk_by (own := [("_law_k", 6)]) (N := N_law_statement) (sc := defScope s_law_statement) (by decide +kernel)) (fun _ _ _ _ _ => pg_name (i := 6) sc_law_statement.nd rfl (Or.inl rfl)) (fun _ _ _ _ _ => pts_nil) (fun _ _ _ _ _ => pc c_law_simple hr (pa_cons (pv 0) (pa_cons (pv 1) (pa_cons (pv 3) (pa_cons (pv 4) (pa_nil))))))) (pa_nil))) (pa_nil)))))) (pss_nil))
        (pss_cons (ps_if (pt_cmpR op_lt (pv 5) (pe_int) (nomark _)) (pss_cons (ps_set (i := 7) sc_law_statement.nd rfl (by first | exact Or.inl rfl | exact Or.inr rfl) (pe_op op_add (pe_int) (pc c_law_take hr (pa_cons (pv 0) (pa_cons (pe_int) (pa_nil))))))
        (pss_one (ps_ret (pe_tup (pa_cons (pe_str) (pa_cons (pe_callTy call_tuple_of (by rfl) B_tuple (by decide +kernel) (pa_cons (pe_lc (own := [("_law_k", 6)]) (g := gName 6) rfl sc_law_statement.nd (pi_range1 (by rfl) B_range (pa_cons (pv 7) (pa_nil))) (blkOk_by (own := [("_law_k", 6)]) (N := N_law_statement) (sc := defScope s_law_statement) (by decide +kernel)) (fun _ _ _ _ _ => pg_name (i := 6) sc_law_statement.nd rfl (Or.inl rfl)) (fun _ _ _ _ _ => pts_nil) (fun _ _ _ _ _ => pc c_law_statement hr (pa_cons (pv 0) (pa_cons (pv 1) (pa_cons (pe_op op_sub (pv 2) (pe_int)) (pa_cons (pv 3) (pa_cons (pv 4) (pa_nil)))))))) (pa_nil))) (pa_nil))))))) (pss_nil))
        (pss_cons (ps_if (pt_cmpR op_eq (pv 5) (pe_int) (nomark _)) (pss_cons (ps_set (i := 8) sc_law_statement.nd rfl (by first | exact Or.inl rfl | exact Or.inr rfl) (pc c_law_part hr (pa_cons (pv 0) (pa_cons (pe_int) (pa_nil)))))
        (pss_cons (ps_set (i := 9) sc_law_statement.nd rfl (by first | exact Or.inl rfl | exact Or.inr rfl) (pc c_law_statement hr (pa_cons (pv 0) (pa_cons (pv 1) (pa_cons (pe_op op_sub (pv 2) (pe_int)) (pa_cons (pv 3) (pa_cons (pv 4) (pa_nil))))))))
        (pss_one (ps_ret (pe_tup (pa_cons (pe_str) (pa_cons (pv 8) (pa_cons (pv 9) (pa_cons (pc c_law_statement hr (pa_cons (pv 0) (pa_cons (pv 1) (pa_cons (pe_op op_sub (pv 2) (pe_int)) (pa_cons (pv 3) (pa_cons (pv 4) (pa_nil))))))) (pa_nil)))))))))) (pss_nil))
        (pss_cons (ps_if (pt_cmpR op_lt (pv 5) (pe_int) (nomark _)) (pss_cons (ps_set (i := 8) sc_law_statement.nd rfl (by first | exact Or.inl rfl | exact Or.inr rfl) (pc c_law_part hr (pa_cons (pv 0) (pa_cons (pe_int) (pa_nil)))))
        (pss_one (ps_ret (pe_tup (pa_cons (pe_str) (pa_cons (pv 8) (pa_cons (pc c_law_statement hr (pa_cons (pv 0) (pa_cons (pv 1) (pa_cons (pe_op op_sub (pv 2) (pe_int)) (pa_cons (pe_bl) (pa_cons (pv 4) (pa_nil))))))) (pa_nil)))))))) (pss_nil))
        (pss_cons (ps_set (i := 10) sc_law_statement.nd rfl (by first | exact Or.inl rfl | exact Or.inr rfl) (pc c_law_statement hr (pa_cons (pv 0) (pa_cons (pv 1) (pa_cons (pe_op op_sub (pv 2) (pe_int)) (pa_cons (pv 3) (pa_cons (pv 4) (pa_nil))))))))
        (pss_cons (ps_if (pt_cmpR op_lt (pv 5) (pe_int) (nomark _)) (pss_cons (ps_set (i := 7) sc_law_statement.nd rfl (by first | exact Or.inl rfl | exact Or.inr rfl) (pe_op op_add (pe_int) (pc c_law_take hr (pa_cons (pv 0) (pa_cons (pe_int) (pa_nil))))))
        (pss_one (ps_ret (pe_tup (pa_cons (pe_str) (pa_cons (pv 10) (pa_cons (pe_callTy call_tuple_of (by rfl) B_tuple (by decide +kernel) (pa_cons (pe_lc (own := [("_law_k", 6)]) (g := gName 6) rfl sc_law_statement.nd (pi_range1 (by rfl) B_range (pa_cons (pv 7) (pa_nil))) (blkOk_by (own := [("_law_k", 6)]) (N := N_law_statement) (sc := defScope s_law_statement) (by decide +kernel)) (fun _ _ _ _ _ => pg_name (i := 6) sc_law_statement.nd rfl (Or.inl rfl)) (fun _ _ _ _ _ => pts_nil) (fun _ _ _ _ _ => pc c_law_handler hr (pa_cons (pv 0) (pa_cons (pv 1) (pa_cons (pe_op op_sub (pv 2) (pe_int)) (pa_cons (pv 3) (pa_nil))))))) (pa_nil))) (pa_nil)))))))) (pss_nil))
        (pss_one (ps_ret (pe_tup (pa_cons (pe_str) (pa_cons (pv 10) (pa_cons (pc c_law_statement hr (pa_cons (pv 0) (pa_cons (pv 1) (pa_cons (pe_op op_sub (pv 2) (pe_int)) (pa_cons (pv 3) (pa_cons (pv 4) (pa_nil))))))) (pa_nil))))))))))))))

abbrev s_law_program : Stmt := topS 27
abbrev N_law_program : List Str := ["_law_box", "_law_kinds_here", "_law_shape", "_law_k", "_law_functions", "_law_many", "_law_parts"]
theorem sc_law_program : FnScope N_law_program ["_law_box"] (defScope s_law_program) := ⟨rfl, rfl, rfl, by decide +kernel, rfl, by decide +kernel, by decide +kernel⟩
theorem ok_law_program {sp_law_kinds : Sp} {sp_law_take : Sp} {sp_law_statement : Sp} {f : Addr} {fd : FuncData} (D : FunD K "_law_program" "_law_program" (defArgs s_law_program) (defBody s_law_program) (defScope s_law_program) [] [] f fd) (c_law_kinds : Cal P w K mg base k "_law_kinds" ["_law_box", "_law_most"] sp_law_kinds) (B_range : mg "range" = none) (c_law_take : Cal P w K mg base k "_law_take" ["_law_box", "_law_many"] sp_law_take) (B_len : mg "len" = none) (c_law_statement : Cal P w K mg base k "_law_statement" ["_law_box", "_law_shape", "_law_deep", "_law_turn", "_law_handler_here"] sp_law_statement) (B_tuple : mg "tuple" = none) {sp : Sp}
    (len : ∀ vs H Q E, sp vs H Q E → vs.length = 1)
    (rd : ∀ vs H Q E, sp vs H Q E → t_law_program K sp_law_kinds sp_law_take sp_law_statement { nx := fun _ H' => Q .non H', rt := Q } (start N_law_program vs) H) : FnOk P w K mg base CX0 (k + 1) f fd ["_law_box"] sp := by
  refine D.ok sc_law_program len (fun cdv A outer s H vs Q E hr h => ⟨t_law_program K sp_law_kinds sp_law_take sp_law_statement, PSs.nox ?_, rd vs H Q E h⟩)
  · unfold t_law_program
    exact pss_cons (ps_set (i := 1) sc_law_program.nd rfl (by first | exact Or.inl rfl | exact Or.inr rfl) (pc c_law_kinds hr (pa_cons (pv 0) (pa_cons (pe_int) (pa_nil)))))
        (pss_cons (ps_set (i := 2) sc_law_program.nd rfl (by first | exact Or.inl rfl | exact Or.inr rfl) (pe_lst (pa_cons (pe_lc (own := [("_law_k", 3)]) (g := gName 3) rfl sc_law_program.nd (pi_range1 (by rfl) B_range (pa_cons (pe_op op_add (pe_int) (pc c_law_take hr (pa_cons (pv 0) (pa_cons (pe_int) (pa_nil))))) (pa_nil))) (blkOk_by (own := [("_law_k", 3)]) (N := N_law_program) (sc := defScope s_law_program) (by decide +kernel)) (fun _ _ _ _ _ => pg_name (i := 3) sc_law_program.nd rfl (Or.inl rfl)) (fun _ _ _ _ _ => pts_nil) (fun _ _ _ _ _ => pc c_law_take hr (pa_cons (pv 0) (pa_cons (pe_int) (pa_nil))))) (pa_cons (pe_callB call_len_seq (by rfl) B_len PySem.boot_len (pa_cons (pv 1) (pa_nil))) (pa_nil)))))
        (pss_cons (ps_set (i := 4) sc_law_program.nd rfl (by first | exact Or.inl rfl | exact Or.inr rfl) (pe_lst (pa_nil)))
        (pss_cons (ps_for PassesOwn.never rfl (pi_list (pe_ix ix_list (pv 2) (pe_int) (fun _ _ => rfl))) (pg_name (i := 5) sc_law_program.nd rfl (by first | exact Or.inl rfl | exact Or.inr rfl)) (pss_cons (by first | exact ps_setLc (i := 6) (own := [("_law_k", 3)]) (g := gName 3) rfl sc_law_program.nd rfl rfl (sw_true rfl rfl rfl (by decide +kernel)) (pi_range1 (by rfl) B_range (pa_cons (pe_op op_add (pe_int) (pc c_law_take hr (pa_cons (pv 0) (pa_cons (pe_int) (pa_nil))))) (pa_nil))) (blkOk_by (own := [("_law_k", 3)]) (N := N_law_program) (sc := defScope s_law_program) (by decide +kernel)) (fun _ _ _ _ _ => pg_name (i := 3) sc_law_program.nd rfl (Or.inl rfl)) (fun _ _ _ _ _ => pts_nil) (fun _ _ _ _ _ => pc c_law_statement hr (pa_cons (pv 0) (pa_cons (pv 2) (pa_cons (pe_int) (pa_cons (pe_bl) (pa_cons (pe_bl) (pa_nil))))))) | exact ps_set (i := 6) sc_law_program.nd rfl (Or.inr rfl) (pe_lc (own := [("_law_k", 3)]) (g := gName 3) rfl sc_law_program.nd (pi_range1 (by rfl) B_range (pa_cons (pe_op op_add (pe_int) (pc c_law_take hr (pa_cons (pv 0) (pa_cons (pe_int) (pa_nil))))) (pa_nil))) (blkOk_by (own := [("_law_k", 3)]) (N := N_law_program) (sc := defScope s_law_program) (by decide +kernel)) (fun _ _ _ _ _ => pg_name (i := 3) sc_law_program.nd rfl (Or.inl rfl)) (fun _ _ _ _ _ => pts_nil) (fun _ _ _ _ _ => pc c_law_statement hr (pa_cons (pv 0) (pa_cons (pv 2) (pa_cons (pe_int) (pa_cons (pe_bl) (pa_cons (pe_bl) (pa_nil)))))))))
        (pss_one (ps_expr (pe_bm PySem.F.plainAttrs_list PySem.F.slot_list_append PySem.F.type_list_append mt_append (pv 4) (pa_cons (pe_tup (pa_cons (pv 5) (pa_cons (pe_tup (pa_cons (pe_str) (pa_cons (pe_callTy call_tuple_of (by rfl) B_tuple (by decide +kernel) (pa_cons (pv 6) (pa_nil))) (pa_nil)))) (pa_nil)))) (pa_nil)))))))
        (pss_one (ps_ret (pe_tup (pa_cons (pv 1) (pa_cons (pe_callTy call_tuple_of (by rfl) B_tuple (by decide +kernel) (pa_cons (pv 4) (pa_nil))) (pa_nil)))))))))

abbrev s_law_part_code : Stmt := topS 28
abbrev N_law_part_code : List Str := ["_law_part_here"]
theorem sc_law_part_code : FnScope N_law_part_code ["_law_part_here"] (defScope s_law_part_code) := ⟨rfl, rfl, rfl, by decide +kernel, rfl, by decide +kernel, by decide +kernel⟩
theorem ok_law_part_code {sp_law_part_code : Sp} {f : Addr} {fd : FuncData} (D : FunD K "_law_part_code" "_law_part_code" (defArgs s_law_part_code) (defBody s_law_part_code) (defScope s_law_part_code) [] [] f fd) (c_law_part_code : Cal P w K mg base k "_law_part_code" ["_law_part_here"] sp_law_part_code) {sp : Sp}
    (len : ∀ vs H Q E, sp vs H Q E → vs.length = 1)
    (rd : ∀ vs H Q E, sp vs H Q E → t_law_part_code K sp_law_part_code { nx := fun _ H' => Q .non H', rt := Q } (start N_law_part_code vs) H) : FnOk P w K mg base CX0 (k + 1) f fd ["_law_part_here"] sp := by
  refine D.ok sc_law_part_code len (fun cdv A outer s H vs Q E hr h => ⟨t_law_part_code K sp_law_part_code, PSs.nox ?_, rd vs H Q E h⟩)
  · unfold t_law_part_code
    exact pss_cons (ps_if (pt_cmpR op_in_seq (pe_ix ix_tup (pv 0) (pe_int) (fun _ _ => rfl)) (pe_tup (pa_cons (pe_str) (pa_cons (pe_str) (pa_nil)))) (by rfl)) (pss_one (ps_ret (pe_lst (pa_cons (pv 0) (pa_nil))))) (pss_nil))
        (pss_one (ps_ret (pe_op op_cat (pe_op op_cat (pc c_law_part_code hr (pa_cons (pe_ix ix_tup (pv 0) (pe_int) (fun _ _ => rfl)) (pa_nil))) (pc c_law_part_code hr (pa_cons (pe_ix ix_tup (pv 0) (pe_int) (fun _ _ => rfl)) (pa_nil)))) (pe_lst (pa_cons (pe_tup (pa_cons (pe_ix ix_tup (pv 0) (pe_int) (fun _ _ => rfl)) (pa_nil))) (pa_nil))))))

abbrev s_law_loop_code : Stmt := topS 29
abbrev N_law_loop_code : List Str := ["_law_one", "_law_base", "_law_depth", "_law_head", "_law_start", "_law_inner", "_law_leave", "_law_row"]
theorem sc_law_loop_code : FnScope N_law_loop_code ["_law_one", "_law_base", "_law_depth"] (defScope s_law_loop_code) := ⟨rfl, rfl, rfl, by decide +kernel, rfl, by decide +kernel, by decide +kernel⟩
theorem ok_law_loop_code {sp_law_part_code : Sp} {sp_law_code : Sp} {f : Addr} {fd : FuncData} (D : FunD K "_law_loop_code" "_law_loop_code" (defArgs s_law_loop_code) (defBody s_law_loop_code) (defScope s_law_loop_code) [] [] f fd) (c_law_part_code : Cal P w K mg base k "_law_part_code" ["_law_part_here"] sp_law_part_code) (B_len : mg "len" = none) (c_law_code : Cal P w K mg base k "_law_code" ["_law_one", "_law_base", "_law_depth", "_law_turn"] sp_law_code) (B_int : mg "int" = none) {sp : Sp}
    (len : ∀ vs H Q E, sp vs H Q E → vs.length = 3)
    (rd : ∀ vs H Q E, sp vs H Q E → t_law_loop_code K sp_law_part_code sp_law_code { nx := fun _ H' => Q .non H', rt := Q } (start N_law_loop_code vs) H) : FnOk P w K mg base CX0 (k + 1) f fd ["_law_one", "_law_base", "_law_depth"] sp := by
  refine D.ok sc_law_loop_code len (fun cdv A outer s H vs Q E hr h => ⟨t_law_loop_code K sp_law_part_code sp_law_code, PSs.nox ?_, rd vs H Q E h⟩)
  · unfold t_law_loop_code
    exact pss_cons (ps_set (i := 3) sc_law_loop_code.nd rfl (by first | exact Or.inl rfl | exact Or.inr rfl) (pc c_law_part_code hr (pa_cons (pe_ix ix_tup (pv 0) (pe_int) (fun _ _ => rfl)) (pa_nil))))
        (pss_cons (ps_set (i := 4) sc_law_loop_code.nd rfl (by first | exact Or.inl rfl | exact Or.inr rfl) (pe_op op_add (pe_op op_add (pv 1) (pe_callB call_len_seq (by rfl) B_len PySem.boot_len (pa_cons (pv 3) (pa_nil)))) (pe_int)))
        (pss_cons (ps_set (i := 5) sc_law_loop_code.nd rfl (by first | exact Or.inl rfl | exact Or.inr rfl) (pc c_law_code hr (pa_cons (pe_ix ix_tup (pv 0) (pe_int) (fun _ _ => rfl)) (pa_cons (pv 4) (pa_cons (pv 2) (pa_cons (pe_tup (pa_cons (pv 1) (pa_cons (pe_op op_sub (pe_un un_neg (pe_int)) (pv 1)) (pa_cons (pv 2) (pa_nil))))) (pa_nil)))))))
        (pss_cons (ps_set (i := 6) sc_law_loop_code.nd rfl (by first | exact Or.inl rfl | exact Or.inr rfl) (pe_op op_add (pe_op op_add (pv 4) (pe_callB call_len_seq (by rfl) B_len PySem.boot_len (pa_cons (pv 5) (pa_nil)))) (pe_int)))
        (pss_cons (by first | exact ps_setLc (i := 5) (own := [("_law_row", 7)]) (g := gName 7) rfl sc_law_loop_code.nd rfl rfl (sw_true rfl rfl rfl (by decide +kernel)) (pi_list (pv 5)) (blkOk_by (own := [("_law_row", 7)]) (N := N_law_loop_code) (sc := defScope s_law_loop_code) (by decide +kernel)) (fun _ _ _ _ _ => pg_name (i := 7) sc_law_loop_code.nd rfl (Or.inl rfl)) (fun _ _ _ _ _ => pts_nil) (fun _ _ _ _ _ => pe_ix ix_list (pe_lst (pa_cons (pv 7) (pa_cons (pe_tup (pa_cons (pe_str) (pa_cons (pv 6) (pa_cons (pv 2) (pa_nil))))) (pa_nil)))) (pe_callTy call_int1 (by rfl) B_int (by decide +kernel) (pa_cons (pe_cmpR (op_eqD hr.units) (pv 7) (pe_tup (pa_cons (pe_str) (pa_cons (pe_op op_sub (pe_un un_neg (pe_int)) (pv 1)) (pa_cons (pv 2) (pa_nil))))) (nomark _)) (pa_nil))) (fun _ _ => rfl)) | exact ps_set (i := 5) sc_law_loop_code.nd rfl (Or.inr rfl) (pe_lc (own := [("_law_row", 7)]) (g := gName 7) rfl sc_law_loop_code.nd (pi_list (pv 5)) (blkOk_by (own := [("_law_row", 7)]) (N := N_law_loop_code) (sc := defScope s_law_loop_code) (by decide +kernel)) (fun _ _ _ _ _ => pg_name (i := 7) sc_law_loop_code.nd rfl (Or.inl rfl)) (fun _ _ _ _ _ => pts_nil) (fun _ _ _ _ _ => pe_ix ix_list (pe_lst (pa_cons (pv 7) (pa_cons (pe_tup (pa_cons (pe_str) (pa_cons (pv 6) (pa_cons (pv 2) (pa_nil))))) (pa_nil)))) (pe_callTy call_int1 (by rfl) B_int (by decide +kernel) (pa_cons (pe_cmpR (op_eqD hr.units) (pv 7) (pe_tup (pa_cons (pe_str) (pa_cons (pe_op op_sub (pe_un un_neg (pe_int)) (pv 1)) (pa_cons (pv 2) (pa_nil))))) (nomark _)) (pa_nil))) (fun _ _ => rfl))))
        (pss_one (ps_ret (pe_op op_cat (pe_op op_cat (pe_op op_cat (pv 3) (pe_lst (pa_cons (pe_tup (pa_cons (pe_str) (pa_cons (pv 6) (pa_nil)))) (pa_cons (pe_tup (pa_cons (pe_str) (pa_nil))) (pa_nil))))) (pv 5)) (pe_lst (pa_cons (pe_tup (pa_cons (pe_str) (pa_cons (pv 1) (pa_nil)))) (pa_nil))))))))))

abbrev s_law_try_code : Stmt := topS 30
abbrev N_law_try_code : List Str := ["_law_one", "_law_base", "_law_depth", "_law_turn", "_law_inner", "_law_end", "_law_rows", "_law_handler_here", "_law_leave", "_law_row"]
theorem sc_law_try_code : FnScope N_law_try_code ["_law_one", "_law_base", "_law_depth", "_law_turn"] (defScope s_law_try_code) := ⟨rfl, rfl, rfl, by decide +kernel, rfl, by decide +kernel, by decide +kernel⟩
theorem ok_law_try_code {sp_law_code : Sp} {f : Addr} {fd : FuncData} (D : FunD K "_law_try_code" "_law_try_code" (defArgs s_law_try_code) (defBody s_law_try_code) (defScope s_law_try_code) [] [] f fd) (c_law_code : Cal P w K mg base k "_law_code" ["_law_one", "_law_base", "_law_depth", "_law_turn"] sp_law_code) (B_len : mg "len" = none) (B_int : mg "int" = none) {sp : Sp}
    (len : ∀ vs H Q E, sp vs H Q E → vs.length = 4)
    (rd : ∀ vs H Q E, sp vs H Q E → t_law_try_code K sp_law_code { nx := fun _ H' => Q .non H', rt := Q } (start N_law_try_code vs) H) : FnOk P w K mg base CX0 (k + 1) f fd ["_law_one", "_law_base", "_law_depth", "_law_turn"] sp := by
  refine D.ok sc_law_try_code len (fun cdv A outer s H vs Q E hr h => ⟨t_law_try_code K sp_law_code, PSs.nox ?_, rd vs H Q E h⟩)
  · unfold t_law_try_code
    exact pss_cons (ps_set (i := 4) sc_law_try_code.nd rfl (by first | exact Or.inl rfl | exact Or.inr rfl) (pc c_law_code hr (pa_cons (pe_ix ix_tup (pv 0) (pe_int) (fun _ _ => rfl)) (pa_cons (pv 1) (pa_cons (pv 2) (pa_cons (pv 3) (pa_nil)))))))
        (pss_cons (ps_set (i := 5) sc_law_try_code.nd rfl (by first | exact Or.inl rfl | exact Or.inr rfl) (pe_op op_add (pv 1) (pe_callB call_len_seq (by rfl) B_len PySem.boot_len (pa_cons (pv 4) (pa_nil)))))
        (pss_cons (ps_set (i := 6) sc_law_try_code.nd rfl (by first | exact Or.inl rfl | exact Or.inr rfl) (pe_op op_cat (pv 4) (pe_lst (pa_cons (pe_tup (pa_cons (pe_str) (pa_cons (pe_un un_neg (pe_int)) (pa_nil)))) (pa_nil)))))
        (pss_cons (ps_for PassesOwn.never rfl (pi_tup (pe_ix ix_tup (pv 0) (pe_int) (fun _ _ => rfl))) (pg_name (i := 7) sc_law_try_code.nd rfl (by first | exact Or.inl rfl | exact Or.inr rfl)) (pss_cons (ps_set (i := 6) sc_law_try_code.nd rfl (by first | exact Or.inl rfl | exact Or.inr rfl) (pe_op op_cat (pv 6) (pe_lst (pa_cons (pe_tup (pa_cons (pe_str) (pa_cons (pv 1) (pa_cons (pv 5) (pa_cons (pe_ix ix_tup (pv 7) (pe_int) (fun _ _ => rfl)) (pa_cons (pv 2) (pa_nil))))))) (pa_cons (pe_tup (pa_cons (pe_str) (pa_cons (pe_ix ix_tup (pv 7) (pe_int) (fun _ _ => rfl)) (pa_nil)))) (pa_nil))))))
        (pss_cons (ps_set (i := 6) sc_law_try_code.nd rfl (by first | exact Or.inl rfl | exact Or.inr rfl) (pe_op op_cat (pv 6) (pc c_law_code hr (pa_cons (pe_ix ix_tup (pv 7) (pe_int) (fun _ _ => rfl)) (pa_cons (pe_op op_add (pv 1) (pe_callB call_len_seq (by rfl) B_len PySem.boot_len (pa_cons (pv 6) (pa_nil)))) (pa_cons (pe_op op_add (pv 2) (pe_int)) (pa_cons (pv 3) (pa_nil))))))))
        (pss_one (ps_set (i := 6) sc_law_try_code.nd rfl (by first | exact Or.inl rfl | exact Or.inr rfl) (pe_op op_cat (pv 6) (pe_lst (pa_cons (pe_tup (pa_cons (pe_str) (pa_nil))) (pa_cons (pe_tup (pa_cons (pe_str) (pa_cons (pe_un un_neg (pe_int)) (pa_nil)))) (pa_nil))))))))))
        (pss_cons (ps_set (i := 8) sc_law_try_code.nd rfl (by first | exact Or.inl rfl | exact Or.inr rfl) (pe_op op_add (pv 1) (pe_callB call_len_seq (by rfl) B_len PySem.boot_len (pa_cons (pv 6) (pa_nil)))))
        (pss_one (ps_ret (pe_lc (own := [("_law_row", 9)]) (g := gName 9) rfl sc_law_try_code.nd (pi_list (pv 6)) (blkOk_by (own := [("_law_row", 9)]) (N := N_law_try_code) (sc := defScope s_law_try_code) (by decide +kernel)) (fun _ _ _ _ _ => pg_name (i := 9) sc_law_try_code.nd rfl (Or.inl rfl)) (fun _ _ _ _ _ => pts_nil) (fun _ _ _ _ _ => pe_ix ix_list (pe_lst (pa_cons (pv 9) (pa_cons (pe_tup (pa_cons (pe_str) (pa_cons (pv 8) (pa_nil)))) (pa_nil)))) (pe_callTy call_int1 (by rfl) B_int (by decide +kernel) (pa_cons (pe_cmpR (op_eqD hr.units) (pv 9) (pe_tup (pa_cons (pe_str) (pa_cons (pe_un un_neg (pe_int)) (pa_nil)))) (nomark _)) (pa_nil))) (fun _ _ => rfl)))))))))

abbrev s_law_if_code : Stmt := topS 31
abbrev N_law_if_code : List Str := ["_law_one", "_law_base", "_law_depth", "_law_turn", "_law_head", "_law_yes", "_law_here", "_law_no"]
theorem sc_law_if_code : FnScope N_law_if_code ["_law_one", "_law_base", "_law_depth", "_law_turn"] (defScope s_law_if_code) := ⟨rfl, rfl, rfl, by decide +kernel, rfl, by decide +kernel, by decide +kernel⟩
theorem ok_law_if_code {sp_law_part_code : Sp} {sp_law_code : Sp} {f : Addr} {fd : FuncData} (D : FunD K "_law_if_code" "_law_if_code" (defArgs s_law_if_code) (defBody s_law_if_code) (defScope s_law_if_code) [] [] f fd) (c_law_part_code : Cal P w K mg base k "_law_part_code" ["_law_part_here"] sp_law_part_code) (c_law_code : Cal P w K mg base k "_law_code" ["_law_one", "_law_base", "_law_depth", "_law_turn"] sp_law_code) (B_len : mg "len" = none) {sp : Sp}
    (len : ∀ vs H Q E, sp vs H Q E → vs.length = 4)
    (rd : ∀ vs H Q E, sp vs H Q E → t_law_if_code K sp_law_part_code sp_law_code { nx := fun _ H' => Q .non H', rt := Q } (start N_law_if_code vs) H) : FnOk P w K mg base CX0 (k + 1) f fd ["_law_one", "_law_base", "_law_depth", "_law_turn"] sp := by
  refine D.ok sc_law_if_code len (fun cdv A outer s H vs Q E hr h => ⟨t_law_if_code K sp_law_part_code sp_law_code, PSs.nox ?_, rd vs H Q E h⟩)
  · unfold t_law_if_code
    exact pss_cons (ps_set (i := 4) sc_law_if_code.nd rfl (by first | exact Or.inl rfl | exact Or.inr rfl) (pc c_law_part_code hr (pa_cons (pe_ix ix_tup (pv 0) (pe_int) (fun _ _ => rfl)) (pa_nil))))
        (pss_cons (ps_set (i := 5) sc_law_if_code.nd rfl (by first | exact Or.inl rfl | exact Or.inr rfl) (pc c_law_code hr (pa_cons (pe_ix ix_tup (pv 0) (pe_int) (fun _ _ => rfl)) (pa_cons (pe_op op_add (pe_op op_add (pv 1) (pe_callB call_len_seq (by rfl) B_len PySem.boot_len (pa_cons (pv 4) (pa_nil)))) (pe_int)) (pa_cons (pv 2) (pa_cons (pv 3) (pa_nil)))))))
        (pss_cons (ps_set (i := 6) sc_law_if_code.nd rfl (by first | exact Or.inl rfl | exact Or.inr rfl) (pe_op op_add (pe_op op_add (pe_op op_add (pv 1) (pe_callB call_len_seq (by rfl) B_len PySem.boot_len (pa_cons (pv 4) (pa_nil)))) (pe_callB call_len_seq (by rfl) B_len PySem.boot_len (pa_cons (pv 5) (pa_nil)))) (pe_int)))
        (pss_cons (ps_set (i := 7) sc_law_if_code.nd rfl (by first | exact Or.inl rfl | exact Or.inr rfl) (pc c_law_code hr (pa_cons (pe_ix ix_tup (pv 0) (pe_int) (fun _ _ => rfl)) (pa_cons (pv 6) (pa_cons (pv 2) (pa_cons (pv 3) (pa_nil)))))))
        (pss_one (ps_ret (pe_op op_cat (pe_op op_cat (pe_op op_cat (pe_op op_cat (pv 4) (pe_lst (pa_cons (pe_tup (pa_cons (pe_str) (pa_cons (pv 6) (pa_nil)))) (pa_nil)))) (pv 5)) (pe_lst (pa_cons (pe_tup (pa_cons (pe_str) (pa_cons (pe_op op_add (pv 6) (pe_callB call_len_seq (by rfl) B_len PySem.boot_len (pa_cons (pv 7) (pa_nil)))) (pa_nil)))) (pa_nil)))) (pv 7)))))))

abbrev s_law_clean_code : Stmt := topS 32
abbrev N_law_clean_code : List Str := ["_law_one", "_law_base", "_law_depth", "_law_turn", "_law_inner", "_law_end", "_law_last"]
theorem sc_law_clean_code : FnScope N_law_clean_code ["_law_one", "_law_base", "_law_depth", "_law_turn"] (defScope s_law_clean_code) := ⟨rfl, rfl, rfl, by decide +kernel, rfl, by decide +kernel, by decide +kernel⟩
theorem ok_law_clean_code {sp_law_code : Sp} {f : Addr} {fd : FuncData} (D : FunD K "_law_clean_code" "_law_clean_code" (defArgs s_law_clean_code) (defBody s_law_clean_code) (defScope s_law_clean_code) [] [] f fd) (c_law_code : Cal P w K mg base k "_law_code" ["_law_one", "_law_base", "_law_depth", "_law_turn"] sp_law_code) (B_len : mg "len" = none) {sp : Sp}
    (len : ∀ vs H Q E, sp vs H Q E → vs.length = 4)
    (rd : ∀ vs H Q E, sp vs H Q E → t_law_clean_code K sp_law_code { nx := fun _ H' => Q .non H', rt := Q } (start N_law_clean_code vs) H) : FnOk P w K mg base CX0 (k + 1) f fd ["_law_one", "_law_base", "_law_depth", "_law_turn"] sp := by
  refine D.ok sc_law_clean_code len (fun cdv A outer s H vs Q E hr h => ⟨t_law_clean_code K sp_law_code, PSs.nox ?_, rd vs H Q E h⟩)
  · unfold t_law_clean_code
    exact pss_cons (ps_set (i := 4) sc_law_clean_code.nd rfl (by first | exact Or.inl rfl | exact Or.inr rfl) (pe_op op_cat (pc c_law_code hr (pa_cons (pe_ix ix_tup (pv 0) (pe_int) (fun _ _ => rfl)) (pa_cons (pv 1) (pa_cons (pv 2) (pa_cons (pv 3) (pa_nil)))))) (pe_lst (pa_cons (pe_tup (pa_cons (pe_str) (pa_nil))) (pa_nil)))))
        (pss_cons (ps_set (i := 5) sc_law_clean_code.nd rfl (by first | exact Or.inl rfl | exact Or.inr rfl) (pe_op op_add (pv 1) (pe_callB call_len_seq (by rfl) B_len PySem.boot_len (pa_cons (pv 4) (pa_nil)))))
        (pss_cons (ps_set (i := 6) sc_law_clean_code.nd rfl (by first | exact Or.inl rfl | exact Or.inr rfl) (pc c_law_code hr (pa_cons (pe_ix ix_tup (pv 0) (pe_int) (fun _ _ => rfl)) (pa_cons (pe_op op_add (pv 5) (pe_int)) (pa_cons (pe_op op_add (pv 2) (pe_int)) (pa_cons (pv 3) (pa_nil)))))))
        (pss_one (ps_ret (pe_op op_cat (pe_op op_cat (pe_op op_cat (pv 4) (pe_lst (pa_cons (pe_tup (pa_cons (pe_str) (pa_cons (pv 1) (pa_cons (pv 5) (pa_cons (pv 2) (pa_nil)))))) (pa_nil)))) (pv 6)) (pe_lst (pa_cons (pe_tup (pa_cons (pe_str) (pa_nil))) (pa_nil))))))))

abbrev s_law_plain_code : Stmt := topS 33
abbrev N_law_plain_code : List Str := ["_law_one", "_law_turn", "_law_word_here", "_law_rows", "_law_part_here"]
theorem sc_law_plain_code : FnScope N_law_plain_code ["_law_one", "_law_turn"] (defScope s_law_plain_code) := ⟨rfl, rfl, rfl, by decide +kernel, rfl, by decide +kernel, by decide +kernel⟩
theorem ok_law_plain_code {sp_law_part_code : Sp} {f : Addr} {fd : FuncData} (D : FunD K "_law_plain_code" "_law_plain_code" (defArgs s_law_plain_code) (defBody s_law_plain_code) (defScope s_law_plain_code) [] [] f fd) (c_law_part_code : Cal P w K mg base k "_law_part_code" ["_law_part_here"] sp_law_part_code) (B_len : mg "len" = none) {sp : Sp}
    (len : ∀ vs H Q E, sp vs H Q E → vs.length = 2)
    (rd : ∀ vs H Q E, sp vs H Q E → t_law_plain_code K sp_law_part_code { nx := fun _ H' => Q .non H', rt := Q } (start N_law_plain_code vs) H) : FnOk P w K mg base CX0 (k + 1) f fd ["_law_one", "_law_turn"] sp := by
  refine D.ok sc_law_plain_code len (fun cdv A outer s H vs Q E hr h => ⟨t_law_plain_code K sp_law_part_code, PSs.nox ?_, rd vs H Q E h⟩)
  · unfold t_law_plain_code
    exact pss_cons (ps_set (i := 2) sc_law_plain_code.nd rfl (by first | exact Or.inl rfl | exact Or.inr rfl) (pe_ix ix_tup (pv 0) (pe_int) (fun _ _ => rfl)))
        (pss_cons (ps_if (pt_cmpR op_eq (pv 2) (pe_str) (nomark _)) (pss_one (ps_ret (pe_lst (pa_cons (pe_tup (pa_cons (pe_str) (pa_cons (pe_ix ix_tup (pv 1) (pe_int) (fun _ _ => rfl)) (pa_cons (pe_ix ix_tup (pv 1) (pe_int) (fun _ _ => rfl)) (pa_nil))))) (pa_nil))))) (pss_nil))
        (pss_cons (ps_if (pt_cmpR op_eq (pv 2) (pe_str) (nomark _)) (pss_one (ps_ret (pe_lst (pa_cons (pe_tup (pa_cons (pe_str) (pa_cons (pe_ix ix_tup (pv 1) (pe_int) (fun _ _ => rfl)) (pa_cons (pe_ix ix_tup (pv 1) (pe_int) (fun _ _ => rfl)) (pa_nil))))) (pa_nil))))) (pss_nil))
        (pss_cons (ps_if (pt_cmpR op_eq (pv 2) (pe_str) (nomark _)) (pss_one (ps_ret (pe_lst (pa_cons (pv 0) (pa_nil))))) (pss_nil))
        (pss_cons (ps_if (pt_cmpR op_eq (pv 2) (pe_str) (nomark _)) (pss_one (ps_ret (pe_op op_cat (pc c_law_part_code hr (pa_cons (pe_ix ix_tup (pv 0) (pe_int) (fun _ _ => rfl)) (pa_nil))) (pe_lst (pa_cons (pe_tup (pa_cons (pe_str) (pa_cons (pe_ix ix_tup (pv 0) (pe_int) (fun _ _ => rfl)) (pa_nil)))) (pa_nil)))))) (pss_nil))
        (pss_cons (ps_if (pt_cmpR op_eq (pv 2) (pe_str) (nomark _)) (pss_one (ps_ret (pe_op op_cat (pc c_law_part_code hr (pa_cons (pe_ix ix_tup (pv 0) (pe_int) (fun _ _ => rfl)) (pa_nil))) (pe_lst (pa_cons (pe_tup (pa_cons (pe_str) (pa_cons (pe_ix ix_tup (pv 0) (pe_int) (fun _ _ => rfl)) (pa_cons (pe_ix ix_tup (pv 0) (pe_int) (fun _ _ => rfl)) (pa_nil))))) (pa_nil)))))) (pss_nil))
        (pss_cons (ps_if (pt_cmpR op_eq (pv 2) (pe_str) (nomark _)) (pss_cons (ps_set (i := 3) sc_law_plain_code.nd rfl (by first | exact Or.inl rfl | exact Or.inr rfl) (pe_lst (pa_nil)))
        (pss_cons (ps_for PassesOwn.never rfl (pi_tup (pe_ix ix_tup (pv 0) (pe_int) (fun _ _ => rfl))) (pg_name (i := 4) sc_law_plain_code.nd rfl (by first | exact Or.inl rfl | exact Or.inr rfl)) (pss_one (ps_set (i := 3) sc_law_plain_code.nd rfl (by first | exact Or.inl rfl | exact Or.inr rfl) (pe_op op_cat (pv 3) (pc c_law_part_code hr (pa_cons (pv 4) (pa_nil)))))))
        (pss_one (ps_ret (pe_op op_cat (pv 3) (pe_lst (pa_cons (pe_tup (pa_cons (pe_str) (pa_cons (pe_ix ix_tup (pv 0) (pe_int) (fun _ _ => rfl)) (pa_cons (pe_callB call_len_seq (by rfl) B_len PySem.boot_len (pa_cons (pe_ix ix_tup (pv 0) (pe_int) (fun _ _ => rfl)) (pa_nil))) (pa_cons (pe_ix ix_tup (pv 0) (pe_int) (fun _ _ => rfl)) (pa_nil)))))) (pa_cons (pe_tup (pa_cons (pe_str) (pa_cons (pe_ix ix_tup (pv 0) (pe_int) (fun _ _ => rfl)) (pa_nil)))) (pa_nil))))))))) (pss_nil))
        (pss_one (ps_ret (pe_op op_cat (pc c_law_part_code hr (pa_cons (pe_ix ix_tup (pv 0) (pe_int) (fun _ _ => rfl)) (pa_nil))) (pe_lst (pa_cons (pe_tup (pa_cons (pv 2) (pa_nil))) (pa_nil))))))))))))

abbrev s_law_code : Stmt := topS 34
abbrev N_law_code : List Str := ["_law_one", "_law_base", "_law_depth", "_law_turn", "_law_word_here", "_law_rows", "_law_part_here"]
theorem sc_law_code : FnScope N_law_code ["_law_one", "_law_base", "_law_depth", "_law_turn"] (defScope s_law_code) := ⟨rfl, rfl, rfl, by decide +kernel, rfl, by decide +kernel, by decide +kernel⟩
theorem ok_law_code {sp_law_code : Sp} {sp_law_if_code : Sp} {sp_law_loop_code : Sp} {sp_law_try_code : Sp} {sp_law_clean_code : Sp} {sp_law_plain_code : Sp} {f : Addr} {fd : FuncData} (D : FunD K "_law_code" "_law_code" (defArgs s_law_code) (defBody s_law_code) (defScope s_law_code) [] [] f fd) (c_law_code : Cal P w K mg base k "_law_code" ["_law_one", "_law_base", "_law_depth", "_law_turn"] sp_law_code) (B_len : mg "len" = none) (c_law_if_code : Cal P w K mg base k "_law_if_code" ["_law_one", "_law_base", "_law_depth", "_law_turn"] sp_law_if_code) (c_law_loop_code : Cal P w K mg base k "_law_loop_code" ["_law_one", "_law_base", "_law_depth"] sp_law_loop_code) (c_law_try_code : Cal P w K mg base k "_law_try_code" ["_law_one", "_law_base", "_law_depth", "_law_turn"] sp_law_try_code) (c_law_clean_code : Cal P w K mg base k "_law_clean_code" ["_law_one", "_law_base", "_law_depth", "_law_turn"] sp_law_clean_code) (c_law_plain_code : Cal P w K mg base k "_law_plain_code" ["_law_one", "_law_turn"] sp_law_plain_code) {sp : Sp}
    (len : ∀ vs H Q E, sp vs H Q E → vs.length = 4)
    (rd : ∀ vs H Q E, sp vs H Q E → t_law_code K sp_law_code sp_law_if_code sp_law_loop_code sp_law_try_code sp_law_clean_code sp_law_plain_code { nx := fun _ H' => Q .non H', rt := Q } (start N_law_code vs) H) : FnOk P w K mg base CX0 (k + 1) f fd ["_law_one", "_law_base", "_law_depth", "_law_turn"] sp := by
  refine D.ok sc_law_code len (fun cdv A outer s H vs Q E hr h => ⟨t_law_code K sp_law_code sp_law_if_code sp_law_loop_code sp_law_try_code sp_law_clean_code sp_law_plain_code, PSs.nox ?_, rd vs H Q E h⟩)
  · unfold t_law_code
    exact pss_cons (ps_set (i := 4) sc_law_code.nd rfl (by first | exact Or.inl rfl | exact Or.inr rfl) (pe_ix ix_tup (pv 0) (pe_int) (fun _ _ => rfl)))
        (pss_cons (ps_if (pt_cmpR op_eq (pv 4) (pe_str) (nomark _)) (pss_cons (ps_set (i := 5) sc_law_code.nd rfl (by first | exact Or.inl rfl | exact Or.inr rfl) (pe_lst (pa_nil)))
        (pss_cons (ps_for PassesOwn.never rfl (pi_tup (pe_ix ix_tup (pv 0) (pe_int) (fun _ _ => rfl))) (pg_name (i := 6) sc_law_code.nd rfl (by first | exact Or.inl rfl | exact Or.inr rfl)) (pss_one (ps_set (i := 5) sc_law_code.nd rfl (by first | exact Or.inl rfl | exact Or.inr rfl) (pe_op op_cat (pv 5) (pc c_law_code hr (pa_cons (pv 6) (pa_cons (pe_op op_add (pv 1) (pe_callB call_len_seq (by rfl) B_len PySem.boot_len (pa_cons (pv 5) (pa_nil)))) (pa_cons (pv 2) (pa_cons (pv 3) (pa_nil))))))))))
        (pss_one (ps_ret (pv 5))))) (pss_nil))
        (pss_cons (ps_if (pt_cmpR op_eq (pv 4) (pe_str) (nomark _)) (pss_one (ps_ret (pc c_law_if_code hr (pa_cons (pv 0) (pa_cons (pv 1) (pa_cons (pv 2) (pa_cons (pv 3) (pa_nil)))))))) (pss_nil))
        (pss_cons (ps_if (pt_cmpR op_eq (pv 4) (pe_str) (nomark _)) (pss_one (ps_ret (pc c_law_loop_code hr (pa_cons (pv 0) (pa_cons (pv 1) (pa_cons (pv 2) (pa_nil))))))) (pss_nil))
        (pss_cons (ps_if (pt_cmpR op_eq (pv 4) (pe_str) (nomark _)) (pss_one (ps_ret (pc c_law_try_code hr (pa_cons (pv 0) (pa_cons (pv 1) (pa_cons (pv 2) (pa_cons (pv 3) (pa_nil)))))))) (pss_nil))
        (pss_cons (ps_if (pt_cmpR op_eq (pv 4) (pe_str) (nomark _)) (pss_one (ps_ret (pc c_law_clean_code hr (pa_cons (pv 0) (pa_cons (pv 1) (pa_cons (pv 2) (pa_cons (pv 3) (pa_nil)))))))) (pss_nil))
        (pss_one (ps_ret (pc c_law_plain_code hr (pa_cons (pv 0) (pa_cons (pv 3) (pa_nil)))))))))))

abbrev s_law_table : Stmt := topS 35
abbrev N_law_table : List Str := ["_law_rows", "_law_table_here", "_law_k", "_law_row"]
theorem sc_law_table : FnScope N_law_table ["_law_rows"] (defScope s_law_table) := ⟨rfl, rfl, rfl, by decide +kernel, rfl, by decide +kernel, by decide +kernel⟩
theorem ok_law_table  {f : Addr} {fd : FuncData} (D : FunD K "_law_table" "_law_table" (defArgs s_law_table) (defBody s_law_table) (defScope s_law_table) [] [] f fd) (B_range : mg "range" = none) (B_len : mg "len" = none) (B_tuple : mg "tuple" = none) {sp : Sp}
    (len : ∀ vs H Q E, sp vs H Q E → vs.length = 1)
    (rd : ∀ vs H Q E, sp vs H Q E → t_law_table K { nx := fun _ H' => Q .non H', rt := Q } (start N_law_table vs) H) : FnOk P w K mg base CX0 (k + 1) f fd ["_law_rows"] sp := by
  refine D.ok sc_law_table len (fun cdv A outer s H vs Q E hr h => ⟨t_law_table K, PSs.nox ?_, rd vs H Q E h⟩)
  · unfold t_law_table
    exact pss_cons (ps_set (i := 1) sc_law_table.nd rfl (by first | exact Or.inl rfl | exact Or.inr rfl) (pe_lst (pa_nil)))
        (pss_cons (ps_for PassesOwn.never rfl (pi_range1 (by rfl) B_range (pa_cons (pe_callB call_len_seq (by rfl) B_len PySem.boot_len (pa_cons (pv 0) (pa_nil))) (pa_nil))) (pg_name (i := 2) sc_law_table.nd rfl (by first | exact Or.inl rfl | exact Or.inr rfl)) (pss_cons (ps_set (i := 3) sc_law_table.nd rfl (by first | exact Or.inl rfl | exact Or.inr rfl) (pe_ix ix_tup (pv 0) (pv 2) (fun _ _ => rfl)))
        (pss_cons (ps_if (pt_cmpR op_eq (pe_ix ix_tup (pv 3) (pe_int) (fun _ _ => rfl)) (pe_str) (nomark _)) (pss_one (ps_expr (pe_bm PySem.F.plainAttrs_list PySem.F.slot_list_append PySem.F.type_list_append mt_append (pv 1) (pa_cons (pe_tup (pa_cons (pe_ix ix_tup (pv 3) (pe_int) (fun _ _ => rfl)) (pa_cons (pe_ix ix_tup (pv 3) (pe_int) (fun _ _ => rfl)) (pa_cons (pe_str) (pa_cons (pe_ix ix_tup (pv 3) (pe_int) (fun _ _ => rfl)) (pa_cons (pv 2) (pa_cons (pe_ix ix_tup (pv 3) (pe_int) (fun _ _ => rfl)) (pa_nil)))))))) (pa_nil))))) (pss_nil))
        (pss_one (ps_if (pt_cmpR op_eq (pe_ix ix_tup (pv 3) (pe_int) (fun _ _ => rfl)) (pe_str) (nomark _)) (pss_one (ps_expr (pe_bm PySem.F.plainAttrs_list PySem.F.slot_list_append PySem.F.type_list_append mt_append (pv 1) (pa_cons (pe_tup (pa_cons (pe_ix ix_tup (pv 3) (pe_int) (fun _ _ => rfl)) (pa_cons (pe_ix ix_tup (pv 3) (pe_int) (fun _ _ => rfl)) (pa_cons (pe_str) (pa_cons (pe_non) (pa_cons (pv 2) (pa_cons (pe_ix ix_tup (pv 3) (pe_int) (fun _ _ => rfl)) (pa_nil)))))))) (pa_nil))))) (pss_nil))))))
        (pss_one (ps_ret (pe_callTy call_tuple_of (by rfl) B_tuple (by decide +kernel) (pa_cons (pv 1) (pa_nil))))))

abbrev s_law_coded : Stmt := topS 36
abbrev N_law_coded : List Str := ["_law_program_here", "_law_code_here", "_law_function", "_law_rows"]
theorem sc_law_coded : FnScope N_law_coded ["_law_program_here"] (defScope s_law_coded) := ⟨rfl, rfl, rfl, by decide +kernel, rfl, by decide +kernel, by decide +kernel⟩
theorem ok_law_coded {sp_law_code : Sp} {sp_law_table : Sp} {f : Addr} {fd : FuncData} (D : FunD K "_law_coded" "_law_coded" (defArgs s_law_coded) (defBody s_law_coded) (defScope s_law_coded) [] [] f fd) (B_tuple : mg "tuple" = none) (c_law_code : Cal P w K mg base k "_law_code" ["_law_one", "_law_base", "_law_depth", "_law_turn"] sp_law_code) (c_law_table : Cal P w K mg base k "_law_table" ["_law_rows"] sp_law_table) {sp : Sp}
    (len : ∀ vs H Q E, sp vs H Q E → vs.length = 1)
    (rd : ∀ vs H Q E, sp vs H Q E → t_law_coded K sp_law_code sp_law_table { nx := fun _ H' => Q .non H', rt := Q } (start N_law_coded vs) H) : FnOk P w K mg base CX0 (k + 1) f fd ["_law_program_here"] sp := by
  refine D.ok sc_law_coded len (fun cdv A outer s H vs Q E hr h => ⟨t_law_coded K sp_law_code sp_law_table, PSs.nox ?_, rd vs H Q E h⟩)
  · unfold t_law_coded
    exact pss_cons (ps_set (i := 1) sc_law_coded.nd rfl (by first | exact Or.inl rfl | exact Or.inr rfl) (pe_lst (pa_nil)))
        (pss_cons (ps_for PassesOwn.never rfl (pi_tup (pe_ix ix_tup (pv 0) (pe_int) (fun _ _ => rfl))) (pg_name (i := 2) sc_law_coded.nd rfl (by first | exact Or.inl rfl | exact Or.inr rfl)) (pss_cons (ps_set (i := 3) sc_law_coded.nd rfl (by first | exact Or.inl rfl | exact Or.inr rfl) (pe_callTy call_tuple_of (by rfl) B_tuple (by decide +kernel) (pa_cons (pe_op op_cat (pc c_law_code hr (pa_cons (pe_ix ix_tup (pv 2) (pe_int) (fun _ _ => rfl)) (pa_cons (pe_int) (pa_cons (pe_int) (pa_cons (pe_non) (pa_nil)))))) (pe_lst (pa_cons (pe_tup (pa_cons (pe_str) (pa_cons (pe_int) (pa_nil)))) (pa_cons (pe_tup (pa_cons (pe_str) (pa_nil))) (pa_nil))))) (pa_nil))))
        (pss_one (ps_expr (pe_bm PySem.F.plainAttrs_list PySem.F.slot_list_append PySem.F.type_list_append mt_append (pv 1) (pa_cons (pe_tup (pa_cons (pe_ix ix_tup (pv 2) (pe_int) (fun _ _ => rfl)) (pa_cons (pv 3) (pa_cons (pc c_law_table hr (pa_cons (pv 3) (pa_nil))) (pa_nil))))) (pa_nil)))))))
        (pss_one (ps_ret (pe_callTy call_tuple_of (by rfl) B_tuple (by decide +kernel) (pa_cons (pv 1) (pa_nil))))))

abbrev s_law_word : Stmt := topS 37
abbrev N_law_word : List Str := ["_law_part_here"]
theorem sc_law_word : FnScope N_law_word ["_law_part_here"] (defScope s_law_word) := ⟨rfl, rfl, rfl, by decide +kernel, rfl, by decide +kernel, by decide +kernel⟩
theorem ok_law_word  {f : Addr} {fd : FuncData} (D : FunD K "_law_word" "_law_word" (defArgs s_law_word) (defBody s_law_word) (defScope s_law_word) [] [] f fd) (B_str : mg "str" = none) {sp : Sp}
    (len : ∀ vs H Q E, sp vs H Q E → vs.length = 1)
    (rd : ∀ vs H Q E, sp vs H Q E → t_law_word K { nx := fun _ H' => Q .non H', rt := Q } (start N_law_word vs) H) : FnOk P w K mg base CX0 (k + 1) f fd ["_law_part_here"] sp := by
  refine D.ok sc_law_word len (fun cdv A outer s H vs Q E hr h => ⟨t_law_word K, PSs.nox ?_, rd vs H Q E h⟩)
  · unfold t_law_word
    exact pss_cons (ps_if (pt_cmpR op_isN (pv 0) (pe_non) (nomark _)) (pss_one (ps_ret (pe_str))) (pss_nil))
        (pss_one (ps_ret (pe_callTy call_str1 (by rfl) B_str (by decide +kernel) (pa_cons (pv 0) (pa_nil)))))

abbrev s_law_listed : Stmt := topS 38
abbrev N_law_listed : List Str := ["_law_code_here", "_law_lines", "_law_function", "_law_row", "_law_part_here"]
theorem sc_law_listed : FnScope N_law_listed ["_law_code_here"] (defScope s_law_listed) := ⟨rfl, rfl, rfl, by decide +kernel, rfl, by decide +kernel, by decide +kernel⟩
theorem ok_law_listed {sp_law_word : Sp} {f : Addr} {fd : FuncData} (D : FunD K "_law_listed" "_law_listed" (defArgs s_law_listed) (defBody s_law_listed) (defScope s_law_listed) [] [] f fd) (B_str : mg "str" = none) (c_law_word : Cal P w K mg base k "_law_word" ["_law_part_here"] sp_law_word) {sp : Sp}
    (len : ∀ vs H Q E, sp vs H Q E → vs.length = 1)
    (rd : ∀ vs H Q E, sp vs H Q E → t_law_listed K sp_law_word { nx := fun _ H' => Q .non H', rt := Q } (start N_law_listed vs) H) : FnOk P w K mg base CX0 (k + 1) f fd ["_law_code_here"] sp := by
  refine D.ok sc_law_listed len (fun cdv A outer s H vs Q E hr h => ⟨t_law_listed K sp_law_word, PSs.nox ?_, rd vs H Q E h⟩)
  · unfold t_law_listed
    exact pss_cons (ps_set (i := 1) sc_law_listed.nd rfl (by first | exact Or.inl rfl | exact Or.inr rfl) (pe_lst (pa_nil)))
        (pss_cons (ps_for PassesOwn.never rfl (pi_tup (pv 0)) (pg_name (i := 2) sc_law_listed.nd rfl (by first | exact Or.inl rfl | exact Or.inr rfl)) (pss_cons (ps_expr (pe_bm PySem.F.plainAttrs_list PySem.F.slot_list_append PySem.F.type_list_append mt_append (pv 1) (pa_cons (pe_op op_addS (pe_str) (pe_callTy call_str1 (by rfl) B_str (by decide +kernel) (pa_cons (pe_ix ix_tup (pv 2) (pe_int) (fun _ _ => rfl)) (pa_nil)))) (pa_nil))))
        (pss_cons (ps_for PassesOwn.never rfl (pi_tup (pe_ix ix_tup (pv 2) (pe_int) (fun _ _ => rfl))) (pg_name (i := 3) sc_law_listed.nd rfl (by first | exact Or.inl rfl | exact Or.inr rfl)) (pss_one (ps_expr (pe_bm PySem.F.plainAttrs_list PySem.F.slot_list_append PySem.F.type_list_append mt_append (pv 1) (pa_cons (pe_joinR (pe_str) (pe_lc (own := [("_law_part_here", 4)]) (g := gName 4) rfl sc_law_listed.nd (pi_tup (pv 3)) (blkOk_by (own := [("_law_part_here", 4)]) (N := N_law_listed) (sc := defScope s_law_listed) (by decide +kernel)) (fun _ _ _ _ _ => pg_name (i := 4) sc_law_listed.nd rfl (Or.inl rfl)) (fun _ _ _ _ _ => pts_nil) (fun _ _ _ _ _ => pc c_law_word hr (pa_cons (pv 4) (pa_nil))))) (pa_nil))))))
        (pss_one (ps_for PassesOwn.never rfl (pi_tup (pe_ix ix_tup (pv 2) (pe_int) (fun _ _ => rfl))) (pg_name (i := 3) sc_law_listed.nd rfl (by first | exact Or.inl rfl | exact Or.inr rfl)) (pss_one (ps_expr (pe_bm PySem.F.plainAttrs_list PySem.F.slot_list_append PySem.F.type_list_append mt_append (pv 1) (pa_cons (pe_op op_addS (pe_str) (pe_joinR (pe_str) (pe_lc (own := [("_law_part_here", 4)]) (g := gName 4) rfl sc_law_listed.nd (pi_tup (pv 3)) (blkOk_by (own := [("_law_part_here", 4)]) (N := N_law_listed) (sc := defScope s_law_listed) (by decide +kernel)) (fun _ _ _ _ _ => pg_name (i := 4) sc_law_listed.nd rfl (Or.inl rfl)) (fun _ _ _ _ _ => pts_nil) (fun _ _ _ _ _ => pc c_law_word hr (pa_cons (pv 4) (pa_nil)))))) (pa_nil))))))))))
        (pss_one (ps_ret (pe_joinR (pe_str) (pv 1)))))

abbrev s_law_words : Stmt := topS 39
abbrev N_law_words : List Str := ["_law_words_here", "_law_more"]
theorem sc_law_words : FnScope N_law_words [] (defScope s_law_words) := ⟨rfl, rfl, rfl, by decide +kernel, rfl, by decide +kernel, by decide +kernel⟩
theorem ok_law_words  {f : Addr} {fd : FuncData} (D : FunD K "_law_words" "_law_words" (defArgs s_law_words) (defBody s_law_words) (defScope s_law_words) [] [] f fd)  {sp : Sp}
    (len : ∀ vs H Q E, sp vs H Q E → vs.length = 0)
    (rd : ∀ vs H Q E, sp vs H Q E → t_law_words K { nx := fun _ H' => Q .non H', rt := Q } (start N_law_words vs) H) : FnOk P w K mg base CX0 (k + 1) f fd [] sp := by
  refine D.ok sc_law_words len (fun cdv A outer s H vs Q E hr h => ⟨t_law_words K, PSs.nox ?_, rd vs H Q E h⟩)
  · unfold t_law_words
    exact pss_cons (ps_set (i := 0) sc_law_words.nd rfl (by first | exact Or.inl rfl | exact Or.inr rfl) (pe_disp (pps_cons (pe_str) (pe_int) (pps_cons (pe_str) (pe_int) (pps_cons (pe_str) (pe_int) (pps_cons (pe_str) (pe_int) (pps_cons (pe_str) (pe_int) (pps_cons (pe_str) (pe_int) (pps_cons (pe_str) (pe_int) (pps_cons (pe_str) (pe_int) (pps_nil))))))))) rfl rfl (by simp) (by decide)))
        (pss_cons (ps_set (i := 1) sc_law_words.nd rfl (by first | exact Or.inl rfl | exact Or.inr rfl) (pe_disp (pps_cons (pe_str) (pe_int) (pps_cons (pe_str) (pe_int) (pps_cons (pe_str) (pe_int) (pps_cons (pe_str) (pe_int) (pps_cons (pe_str) (pe_int) (pps_cons (pe_str) (pe_int) (pps_cons (pe_str) (pe_int) (pps_cons (pe_str) (pe_int) (pps_nil))))))))) rfl rfl (by simp) (by decide)))
        (pss_cons (ps_expr (pe_dupd (pv 0) (pv 1) ⟨rfl, rfl, rfl, rfl⟩))
        (pss_cons (ps_expr (pe_dupd (pv 0) (pe_disp (pps_cons (pe_str) (pe_int) (pps_cons (pe_str) (pe_int) (pps_cons (pe_str) (pe_int) (pps_cons (pe_str) (pe_int) (pps_cons (pe_str) (pe_int) (pps_nil)))))) rfl rfl (by simp) (by decide)) ⟨rfl, rfl, rfl, rfl⟩))
        (pss_one (ps_ret (pv 0))))))

abbrev s_law_free_rows : Stmt := topS 40
abbrev N_law_free_rows : List Str := ["_law_box", "_law_most", "_law_words_here", "_law_names", "_law_rows", "_law_k", "_law_name", "_law_parts", "_law_j"]
theorem sc_law_free_rows : FnScope N_law_free_rows ["_law_box", "_law_most"] (defScope s_law_free_rows) := ⟨rfl, rfl, rfl, by decide +kernel, rfl, by decide +kernel, by decide +kernel⟩
theorem ok_law_free_rows {sp_law_words : Sp} {sp_law_take : Sp} {f : Addr} {fd : FuncData} (D : FunD K "_law_free_rows" "_law_free_rows" (defArgs s_law_free_rows) (defBody s_law_free_rows) (defScope s_law_free_rows) [] [] f fd) (c_law_words : Cal P w K mg base k "_law_words" [] sp_law_words) (B_sorted : mg "sorted" = none) (B_range : mg "range" = none) (c_law_take : Cal P w K mg base k "_law_take" ["_law_box", "_law_many"] sp_law_take) (B_len : mg "len" = none) (B_tuple : mg "tuple" = none) {sp : Sp}
    (len : ∀ vs H Q E, sp vs H Q E → vs.length = 2)
    (rd : ∀ vs H Q E, sp vs H Q E → t_law_free_rows K sp_law_words sp_law_take { nx := fun _ H' => Q .non H', rt := Q } (start N_law_free_rows vs) H) : FnOk P w K mg base CX0 (k + 1) f fd ["_law_box", "_law_most"] sp := by
  refine D.ok sc_law_free_rows len (fun cdv A outer s H vs Q E hr h => ⟨t_law_free_rows K sp_law_words sp_law_take, PSs.nox ?_, rd vs H Q E h⟩)
  · unfold t_law_free_rows
    exact pss_cons (ps_set (i := 2) sc_law_free_rows.nd rfl (by first | exact Or.inl rfl | exact Or.inr rfl) (pc0 c_law_words hr))
        (pss_cons (ps_set (i := 3) sc_law_free_rows.nd rfl (by first | exact Or.inl rfl | exact Or.inr rfl) (pe_callB (call_sortD rfl) (by rfl) B_sorted (by decide +kernel) (pa_cons (pv 2) (pa_nil))))
        (pss_cons (ps_set (i := 4) sc_law_free_rows.nd rfl (by first | exact Or.inl rfl | exact Or.inr rfl) (pe_lst (pa_nil)))
        (pss_cons (ps_for PassesOwn.never rfl (pi_range1 (by rfl) B_range (pa_cons (pc c_law_take hr (pa_cons (pv 0) (pa_cons (pe_int) (pa_nil)))) (pa_nil))) (pg_name (i := 5) sc_law_free_rows.nd rfl (by first | exact Or.inl rfl | exact Or.inr rfl)) (pss_cons (ps_set (i := 6) sc_law_free_rows.nd rfl (by first | exact Or.inl rfl | exact Or.inr rfl) (pe_ix ix_list (pv 3) (pc c_law_take hr (pa_cons (pv 0) (pa_cons (pe_callB call_len_seq (by rfl) B_len PySem.boot_len (pa_cons (pv 3) (pa_nil))) (pa_nil)))) (fun _ _ => rfl)))
        (pss_cons (by first | exact ps_setLc (i := 7) (own := [("_law_j", 8)]) (g := gName 8) rfl sc_law_free_rows.nd rfl rfl (sw_true rfl rfl rfl (by decide +kernel)) (pi_range1 (by rfl) B_range (pa_cons (pe_dget hr.units1 (pv 2) (pv 6) (fun _ _ => rfl)) (pa_nil))) (blkOk_by (own := [("_law_j", 8)]) (N := N_law_free_rows) (sc := defScope s_law_free_rows) (by decide +kernel)) (fun _ _ _ _ _ => pg_name (i := 8) sc_law_free_rows.nd rfl (Or.inl rfl)) (fun _ _ _ _ _ => pts_nil) (fun _ _ _ _ _ => pe_ix ix_list (pe_lst (pa_cons (pc c_law_take hr (pa_cons (pv 0) (pa_cons (pe_int) (pa_nil)))) (pa_cons (pc c_law_take hr (pa_cons (pv 0) (pa_cons (pv 1) (pa_nil)))) (pa_nil)))) (pc c_law_take hr (pa_cons (pv 0) (pa_cons (pe_int) (pa_nil)))) (fun _ _ => rfl)) | exact ps_set (i := 7) sc_law_free_rows.nd rfl (Or.inr rfl) (pe_lc (own := [("_law_j", 8)]) (g := gName 8) rfl sc_law_free_rows.nd (pi_range1 (by rfl) B_range (pa_cons (pe_dget hr.units1 (pv 2) (pv 6) (fun _ _ => rfl)) (pa_nil))) (blkOk_by (own := [("_law_j", 8)]) (N := N_law_free_rows) (sc := defScope s_law_free_rows) (by decide +kernel)) (fun _ _ _ _ _ => pg_name (i := 8) sc_law_free_rows.nd rfl (Or.inl rfl)) (fun _ _ _ _ _ => pts_nil) (fun _ _ _ _ _ => pe_ix ix_list (pe_lst (pa_cons (pc c_law_take hr (pa_cons (pv 0) (pa_cons (pe_int) (pa_nil)))) (pa_cons (pc c_law_take hr (pa_cons (pv 0) (pa_cons (pv 1) (pa_nil)))) (pa_nil)))) (pc c_law_take hr (pa_cons (pv 0) (pa_cons (pe_int) (pa_nil)))) (fun _ _ => rfl))))
        (pss_cons (ps_if (PW.pt (pw_and (pt_cmpR op_eq (pv 6) (pe_str) (nomark _)) (pw_and1 (pt_cmpR op_eq (pc c_law_take hr (pa_cons (pv 0) (pa_cons (pe_int) (pa_nil)))) (pe_int) (nomark _))))) (pss_one (ps_asg (pe_non) (pg_sub (pv 7) (pe_int) set_list))) (pss_nil))
        (pss_one (ps_expr (pe_bm PySem.F.plainAttrs_list PySem.F.slot_list_append PySem.F.type_list_append mt_append (pv 4) (pa_cons (pe_callTy call_tuple_of (by rfl) B_tuple (by decide +kernel) (pa_cons (pe_op op_cat (pe_lst (pa_cons (pv 6) (pa_nil))) (pv 7)) (pa_nil))) (pa_nil)))))))))
        (pss_one (ps_ret (pe_callTy call_tuple_of (by rfl) B_tuple (by decide +kernel) (pa_cons (pv 4) (pa_nil))))))))

abbrev s_law_spoilt : Stmt := topS 41
abbrev N_law_spoilt : List Str := ["_law_box", "_law_line_here", "_law_way", "_law_lines", "_law_k", "_law_words_here", "_law_at", "_law_others", "_law_some", "_law_j", "_law_sign", "_law_cut"]
theorem sc_law_spoilt : FnScope N_law_spoilt ["_law_box", "_law_line_here"] (defScope s_law_spoilt) := ⟨rfl, rfl, rfl, by decide +kernel, rfl, by decide +kernel, by decide +kernel⟩
theorem ok_law_spoilt {sp_law_take : Sp} {f : Addr} {fd : FuncData} (D : FunD K "_law_spoilt" "_law_spoilt" (defArgs s_law_spoilt) (defBody s_law_spoilt) (defScope s_law_spoilt) [] [] f fd) (c_law_take : Cal P w K mg base k "_law_take" ["_law_box", "_law_many"] sp_law_take) (B_len : mg "len" = none) (B_range : mg "range" = none) (B_list : mg "list" = none) (B_reversed : mg "reversed" = none) {sp : Sp}
    (len : ∀ vs H Q E, sp vs H Q E → vs.length = 2)
    (rd : ∀ vs H Q E, sp vs H Q E → t_law_spoilt K sp_law_take { nx := fun _ H' => Q .non H', rt := Q } (start N_law_spoilt vs) H) : FnOk P w K mg base CX0 (k + 1) f fd ["_law_box", "_law_line_here"] sp := by
  refine D.ok sc_law_spoilt len (fun cdv A outer s H vs Q E hr h => ⟨t_law_spoilt K sp_law_take, PSs.nox ?_, rd vs H Q E h⟩)
  · unfold t_law_spoilt
    exact pss_cons (ps_set (i := 2) sc_law_spoilt.nd rfl (by first | exact Or.inl rfl | exact Or.inr rfl) (pc c_law_take hr (pa_cons (pv 0) (pa_cons (pe_int) (pa_nil)))))
        (pss_cons (ps_set (i := 3) sc_law_spoilt.nd rfl (by first | exact Or.inl rfl | exact Or.inr rfl) (pe_splitR (pv 1) (pe_str)))
        (pss_cons (ps_set (i := 4) sc_law_spoilt.nd rfl (by first | exact Or.inl rfl | exact Or.inr rfl) (pc c_law_take hr (pa_cons (pv 0) (pa_cons (pe_callB call_len_seq (by rfl) B_len PySem.boot_len (pa_cons (pv 3) (pa_nil))) (pa_nil)))))
        (pss_cons (ps_if (pt_cmpR op_gt (pv 2) (pe_int) (nomark _)) (pss_cons (ps_if (pt_cmpR op_eq (pc c_law_take hr (pa_cons (pv 0) (pa_cons (pe_int) (pa_nil)))) (pe_int) (nomark _)) (pss_cons (by first | exact ps_setLc (i := 8) (own := [("_law_j", 9)]) (g := gName 9) rfl sc_law_spoilt.nd rfl rfl (sw_true rfl rfl rfl (by decide +kernel)) (pi_range1 (by rfl) B_range (pa_cons (pe_callB call_len_seq (by rfl) B_len PySem.boot_len (pa_cons (pv 3) (pa_nil))) (pa_nil))) (blkOk_by (own := [("_law_j", 9)]) (N := N_law_spoilt) (sc := defScope s_law_spoilt) (by decide +kernel)) (fun _ _ _ _ _ => pg_name (i := 9) sc_law_spoilt.nd rfl (Or.inl rfl)) (fun _ _ _ _ _ => pts_one (pt_cmpR op_eq (pe_slice sl_str (pe_ix ix_list (pv 3) (pv 9) (fun _ _ => rfl)) po_none (po_some (pe_int))) (pe_str) (nomark _))) (fun _ _ _ _ _ => pv 9) | exact ps_set (i := 8) sc_law_spoilt.nd rfl (Or.inr rfl) (pe_lc (own := [("_law_j", 9)]) (g := gName 9) rfl sc_law_spoilt.nd (pi_range1 (by rfl) B_range (pa_cons (pe_callB call_len_seq (by rfl) B_len PySem.boot_len (pa_cons (pv 3) (pa_nil))) (pa_nil))) (blkOk_by (own := [("_law_j", 9)]) (N := N_law_spoilt) (sc := defScope s_law_spoilt) (by decide +kernel)) (fun _ _ _ _ _ => pg_name (i := 9) sc_law_spoilt.nd rfl (Or.inl rfl)) (fun _ _ _ _ _ => pts_one (pt_cmpR op_eq (pe_slice sl_str (pe_ix ix_list (pv 3) (pv 9) (fun _ _ => rfl)) po_none (po_some (pe_int))) (pe_str) (nomark _))) (fun _ _ _ _ _ => pv 9)))
        (pss_one (ps_set (i := 4) sc_law_spoilt.nd rfl (by first | exact Or.inl rfl | exact Or.inr rfl) (pe_ifExp (pt_cmpR (op_neE hr.units) (pv 8) (pe_lst (pa_nil)) (nomark _)) (pe_ix ix_list (pv 8) (pe_op op_mod (pv 4) (pe_callB call_len_seq (by rfl) B_len PySem.boot_len (pa_cons (pv 8) (pa_nil)))) (fun _ _ => rfl)) (pv 4))))) (pss_nil))
        (pss_cons (ps_set (i := 5) sc_law_spoilt.nd rfl (by first | exact Or.inl rfl | exact Or.inr rfl) (pe_splitR (pe_ix ix_list (pv 3) (pv 4) (fun _ _ => rfl)) (pe_str)))
        (pss_cons (ps_set (i := 6) sc_law_spoilt.nd rfl (by first | exact Or.inl rfl | exact Or.inr rfl) (pc c_law_take hr (pa_cons (pv 0) (pa_cons (pe_callB call_len_seq (by rfl) B_len PySem.boot_len (pa_cons (pv 5) (pa_nil))) (pa_nil)))))
        (pss_cons (ps_set (i := 7) sc_law_spoilt.nd rfl (by first | exact Or.inl rfl | exact Or.inr rfl) (pe_lst (pa_cons (pe_op op_cat (pe_op op_cat (pe_slice sl_list (pv 5) po_none (po_some (pv 6))) (pe_lst (pa_cons (pe_str) (pa_nil)))) (pe_slice sl_list (pv 5) (po_some (pe_op op_add (pv 6) (pe_int))) po_none)) (pa_cons (pe_op op_cat (pv 5) (pe_lst (pa_cons (pe_ix ix_list (pe_lst (pa_cons (pe_str) (pa_cons (pe_str) (pa_cons (pe_ix ix_list (pv 5) (pv 6) (fun _ _ => rfl)) (pa_nil))))) (pc c_law_take hr (pa_cons (pv 0) (pa_cons (pe_int) (pa_nil)))) (fun _ _ => rfl)) (pa_nil)))) (pa_cons (pe_slice sl_list (pv 5) po_none (po_some (pe_un un_neg (pe_int)))) (pa_nil))))))
        (pss_cons (ps_asg (pe_joinR (pe_str) (pe_ix ix_list (pv 7) (pe_op op_sub (pv 2) (pe_int)) (fun _ _ => rfl))) (pg_sub (pv 3) (pv 4) set_list))
        (pss_one (ps_ret (pe_joinR (pe_str) (pv 3))))))))) (pss_nil))
        (pss_cons (ps_if (pt_cmpR op_eq (pv 2) (pe_int) (nomark _)) (pss_one (ps_ret (pe_joinR (pe_str) (pe_op op_cat (pe_slice sl_list (pv 3) po_none (po_some (pv 4))) (pe_slice sl_list (pv 3) (po_some (pe_op op_add (pv 4) (pe_int))) po_none))))) (pss_nil))
        (pss_cons (ps_if (pt_cmpR op_eq (pv 2) (pe_int) (nomark _)) (pss_one (ps_ret (pe_joinR (pe_str) (pe_op op_cat (pe_op op_cat (pe_slice sl_list (pv 3) po_none (po_some (pv 4))) (pe_lst (pa_cons (pe_ix ix_list (pv 3) (pv 4) (fun _ _ => rfl)) (pa_nil)))) (pe_slice sl_list (pv 3) (po_some (pv 4)) po_none))))) (pss_nil))
        (pss_cons (ps_if (pt_cmpR op_eq (pv 2) (pe_int) (nomark _)) (pss_one (ps_ret (pe_joinR (pe_str) (pe_op op_cat (pe_op op_cat (pe_slice sl_list (pv 3) po_none (po_some (pv 4))) (pe_listRev rfl (by rfl) B_list (by rfl) B_reversed (pe_slice sl_list (pv 3) (po_some (pv 4)) (po_some (pe_op op_add (pv 4) (pe_int)))))) (pe_slice sl_list (pv 3) (po_some (pe_op op_add (pv 4) (pe_int))) po_none))))) (pss_nil))
        (pss_cons (ps_for PassesOwn.never rfl (pi_range1 (by rfl) B_range (pa_cons (pe_op op_add (pe_int) (pc c_law_take hr (pa_cons (pv 0) (pa_cons (pe_int) (pa_nil))))) (pa_nil))) (pg_name (i := 9) sc_law_spoilt.nd rfl (by first | exact Or.inl rfl | exact Or.inr rfl)) (pss_cons (ps_set (i := 6) sc_law_spoilt.nd rfl (by first | exact Or.inl rfl | exact Or.inr rfl) (pc c_law_take hr (pa_cons (pv 0) (pa_cons (pe_op op_add (pe_callB call_len_str (by rfl) B_len PySem.boot_len (pa_cons (pv 1) (pa_nil))) (pe_int)) (pa_nil)))))
        (pss_cons (ps_set (i := 10) sc_law_spoilt.nd rfl (by first | exact Or.inl rfl | exact Or.inr rfl) (pe_ix ix_str (pe_str) (pc c_law_take hr (pa_cons (pv 0) (pa_cons (pe_int) (pa_nil)))) (fun _ _ => rfl)))
        (pss_cons (ps_set (i := 11) sc_law_spoilt.nd rfl (by first | exact Or.inl rfl | exact Or.inr rfl) (pc c_law_take hr (pa_cons (pv 0) (pa_cons (pe_int) (pa_nil)))))
        (pss_one (ps_set (i := 1) sc_law_spoilt.nd rfl (by first | exact Or.inl rfl | exact Or.inr rfl) (pe_op op_addS (pe_op op_addS (pe_slice sl_str (pv 1) po_none (po_some (pv 6))) (pe_ix ix_list (pe_lst (pa_cons (pe_str) (pa_cons (pv 10) (pa_cons (pv 10) (pa_nil))))) (pv 11) (fun _ _ => rfl))) (pe_slice sl_str (pv 1) (po_some (pe_op op_add (pv 6) (pe_ix ix_list (pe_lst (pa_cons (pe_int) (pa_cons (pe_int) (pa_cons (pe_int) (pa_nil))))) (pv 11) (fun _ _ => rfl)))) po_none))))))))
        (pss_one (ps_ret (pv 1))))))))))

abbrev s_law_good_number : Stmt := topS 42
abbrev N_law_good_number : List Str := ["_law_part_here"]
theorem sc_law_good_number : FnScope N_law_good_number ["_law_part_here"] (defScope s_law_good_number) := ⟨rfl, rfl, rfl, by decide +kernel, rfl, by decide +kernel, by decide +kernel⟩
theorem ok_law_good_number  {f : Addr} {fd : FuncData} (D : FunD K "_law_good_number" "_law_good_number" (defArgs s_law_good_number) (defBody s_law_good_number) (defScope s_law_good_number) [] [] f fd) (B_isinstance : mg "isinstance" = none) (B_int : mg "int" = none) (B_bool : mg "bool" = none) {sp : Sp}
    (len : ∀ vs H Q E, sp vs H Q E → vs.length = 1)
    (rd : ∀ vs H Q E, sp vs H Q E → t_law_good_number K { nx := fun _ H' => Q .non H', rt := Q } (start N_law_good_number vs) H) : FnOk P w K mg base CX0 (k + 1) f fd ["_law_part_here"] sp := by
  refine D.ok sc_law_good_number len (fun cdv A outer s H vs Q E hr h => ⟨t_law_good_number K, PSs.nox ?_, rd vs H Q E h⟩)
  · unfold t_law_good_number
    exact pss_one (ps_ret (pe_and (pe_callB call_isi (by rfl) B_isinstance (by decide +kernel) (pa_cons (pv 0) (pa_cons (pe_bltn (by rfl) B_int (by decide +kernel) rfl) (pa_nil)))) (pe_and (pe_not (pe_callB call_isi (by rfl) B_isinstance (by decide +kernel) (pa_cons (pv 0) (pa_cons (pe_bltn (by rfl) B_bool (by decide +kernel) rfl) (pa_nil))))) (pe_and (pe_cmpR op_le (pe_int) (pv 0) (nomark _)) (pe_one (pe_cmpR op_le (pv 0) (pe_int) (nomark _)))))))

abbrev s_law_good_row : Stmt := topS 43
abbrev N_law_good_row : List Str := ["_law_row", "_law_words_here", "_law_k", "_law_free"]
theorem sc_law_good_row : FnScope N_law_good_row ["_law_row"] (defScope s_law_good_row) := ⟨rfl, rfl, rfl, by decide +kernel, rfl, by decide +kernel, by decide +kernel⟩
theorem ok_law_good_row {sp_law_words : Sp} {sp_law_good_number : Sp} {f : Addr} {fd : FuncData} (D : FunD K "_law_good_row" "_law_good_row" (defArgs s_law_good_row) (defBody s_law_good_row) (defScope s_law_good_row) [] [] f fd) (c_law_words : Cal P w K mg base k "_law_words" [] sp_law_words) (B_isinstance : mg "isinstance" = none) (B_tuple : mg "tuple" = none) (B_len : mg "len" = none) (B_str : mg "str" = none) (B_range : mg "range" = none) (c_law_good_number : Cal P w K mg base k "_law_good_number" ["_law_part_here"] sp_law_good_number) {sp : Sp}
    (len : ∀ vs H Q E, sp vs H Q E → vs.length = 1)
    (rd : ∀ vs H Q E, sp vs H Q E → t_law_good_row K sp_law_words sp_law_good_number { nx := fun _ H' => Q .non H', rt := Q } (start N_law_good_row vs) H) : FnOk P w K mg base CX0 (k + 1) f fd ["_law_row"] sp := by
  refine D.ok sc_law_good_row len (fun cdv A outer s H vs Q E hr h => ⟨t_law_good_row K sp_law_words sp_law_good_number, PSs.nox ?_, rd vs H Q E h⟩)
  · unfold t_law_good_row
    exact pss_cons (ps_set (i := 1) sc_law_good_row.nd rfl (by first | exact Or.inl rfl | exact Or.inr rfl) (pc0 c_law_words hr))
        (pss_cons (ps_if (PW.pt (pw_or (pt_not (pt_val (pe_callB call_isi (by rfl) B_isinstance (by decide +kernel) (pa_cons (pv 0) (pa_cons (pe_bltn (by rfl) B_tuple (by decide +kernel) rfl) (pa_nil)))))) (pw_or (pt_cmpR op_eq (pe_callB call_len_seq (by rfl) B_len PySem.boot_len (pa_cons (pv 0) (pa_nil))) (pe_int) (nomark _)) (pw_or1 (pt_not (pt_val (pe_callB call_isi (by rfl) B_isinstance (by decide +kernel) (pa_cons (pe_ix ix_tup (pv 0) (pe_int) (fun _ _ => rfl)) (pa_cons (pe_bltn (by rfl) B_str (by decide +kernel) rfl) (pa_nil)))))))))) (pss_one (ps_ret (pe_bl))) (pss_nil))
        (pss_cons (ps_if (PW.pt (pw_or (pt_cmp (pc_dnotin hr.units1 (pe_ix ix_tup (pv 0) (pe_int) (fun _ _ => rfl)) (pv 1))) (pw_or1 (pt_cmpR op_ne (pe_callB call_len_seq (by rfl) B_len PySem.boot_len (pa_cons (pv 0) (pa_nil))) (pe_op op_add (pe_dget hr.units1 (pv 1) (pe_ix ix_tup (pv 0) (pe_int) (fun _ _ => rfl)) (fun _ _ => rfl)) (pe_int)) (nomark _))))) (pss_one (ps_ret (pe_bl))) (pss_nil))
        (pss_cons (ps_for PassesOwn.never rfl (pi_range2 (by rfl) B_range (pa_cons (pe_int) (pa_cons (pe_callB call_len_seq (by rfl) B_len PySem.boot_len (pa_cons (pv 0) (pa_nil))) (pa_nil)))) (pg_name (i := 2) sc_law_good_row.nd rfl (by first | exact Or.inl rfl | exact Or.inr rfl)) (pss_cons (ps_set (i := 3) sc_law_good_row.nd rfl (by first | exact Or.inl rfl | exact Or.inr rfl) (pe_and (pe_cmpR op_eq (pe_ix ix_tup (pv 0) (pe_int) (fun _ _ => rfl)) (pe_str) (nomark _)) (pe_and (pe_cmpR op_eq (pv 2) (pe_int) (nomark _)) (pe_one (pe_cmpR op_isN (pe_ix ix_tup (pv 0) (pv 2) (fun _ _ => rfl)) (pe_non) (nomark _))))))
        (pss_one (ps_if (PW.pt (pw_and (pt_not (pt_val (pv 3))) (pw_and1 (pt_not (pt_val (pc c_law_good_number hr (pa_cons (pe_ix ix_tup (pv 0) (pv 2) (fun _ _ => rfl)) (pa_nil)))))))) (pss_one (ps_ret (pe_bl))) (pss_nil)))))
        (pss_one (ps_ret (pe_bl))))))

abbrev s_law_good_code : Stmt := topS 44
abbrev N_law_good_code : List Str := ["_law_code_here", "_law_function", "_law_row"]
theorem sc_law_good_code : FnScope N_law_good_code ["_law_code_here"] (defScope s_law_good_code) := ⟨rfl, rfl, rfl, by decide +kernel, rfl, by decide +kernel, by decide +kernel⟩
theorem ok_law_good_code {sp_law_good_number : Sp} {sp_law_good_row : Sp} {sp_law_alike : Sp} {sp_law_table : Sp} {f : Addr} {fd : FuncData} (D : FunD K "_law_good_code" "_law_good_code" (defArgs s_law_good_code) (defBody s_law_good_code) (defScope s_law_good_code) [] [] f fd) (B_isinstance : mg "isinstance" = none) (B_tuple : mg "tuple" = none) (B_len : mg "len" = none) (c_law_good_number : Cal P w K mg base k "_law_good_number" ["_law_part_here"] sp_law_good_number) (c_law_good_row : Cal P w K mg base k "_law_good_row" ["_law_row"] sp_law_good_row) (c_law_alike : Cal P w K mg base k "_law_alike" ["_law_found", "_law_due"] sp_law_alike) (c_law_table : Cal P w K mg base k "_law_table" ["_law_rows"] sp_law_table) {sp : Sp}
    (len : ∀ vs H Q E, sp vs H Q E → vs.length = 1)
    (rd : ∀ vs H Q E, sp vs H Q E → t_law_good_code K sp_law_good_number sp_law_good_row sp_law_alike sp_law_table { nx := fun _ H' => Q .non H', rt := Q } (start N_law_good_code vs) H) : FnOk P w K mg base CX0 (k + 1) f fd ["_law_code_here"] sp := by
  refine D.ok sc_law_good_code len (fun cdv A outer s H vs Q E hr h => ⟨t_law_good_code K sp_law_good_number sp_law_good_row sp_law_alike sp_law_table, PSs.nox ?_, rd vs H Q E h⟩)
  · unfold t_law_good_code
    exact pss_cons (ps_if (PW.pt (pw_or (pt_not (pt_val (pe_callB call_isi (by rfl) B_isinstance (by decide +kernel) (pa_cons (pv 0) (pa_cons (pe_bltn (by rfl) B_tuple (by decide +kernel) rfl) (pa_nil)))))) (pw_or1 (pt_cmpR op_eq (pe_callB call_len_seq (by rfl) B_len PySem.boot_len (pa_cons (pv 0) (pa_nil))) (pe_int) (nomark _))))) (pss_one (ps_ret (pe_bl))) (pss_nil))
        (pss_cons (ps_for PassesOwn.never rfl (pi_tup (pv 0)) (pg_name (i := 1) sc_law_good_code.nd rfl (by first | exact Or.inl rfl | exact Or.inr rfl)) (pss_cons (ps_if (PW.pt (pw_or (pt_not (pt_val (pe_callB call_isi (by rfl) B_isinstance (by decide +kernel) (pa_cons (pv 1) (pa_cons (pe_bltn (by rfl) B_tuple (by decide +kernel) rfl) (pa_nil)))))) (pw_or (pt_cmpR op_ne (pe_callB call_len_seq (by rfl) B_len PySem.boot_len (pa_cons (pv 1) (pa_nil))) (pe_int) (nomark _)) (pw_or1 (pt_not (pt_val (pc c_law_good_number hr (pa_cons (pe_ix ix_tup (pv 1) (pe_int) (fun _ _ => rfl)) (pa_nil))))))))) (pss_one (ps_ret (pe_bl))) (pss_nil))
        (pss_cons (ps_if (pt_not (pt_val (pe_callB call_isi (by rfl) B_isinstance (by decide +kernel) (pa_cons (pe_ix ix_tup (pv 1) (pe_int) (fun _ _ => rfl)) (pa_cons (pe_bltn (by rfl) B_tuple (by decide +kernel) rfl) (pa_nil)))))) (pss_one (ps_ret (pe_bl))) (pss_nil))
        (pss_cons (ps_if (pt_cmpR (op_neE hr.units) (pe_lc (own := [("_law_row", 2)]) (g := gName 2) rfl sc_law_good_code.nd (pi_tup (pe_ix ix_tup (pv 1) (pe_int) (fun _ _ => rfl))) (blkOk_by (own := [("_law_row", 2)]) (N := N_law_good_code) (sc := defScope s_law_good_code) (by decide +kernel)) (fun _ _ _ _ _ => pg_name (i := 2) sc_law_good_code.nd rfl (Or.inl rfl)) (fun _ _ _ _ _ => pts_one (pt_not (pt_val (pc c_law_good_row hr (pa_cons (pv 2) (pa_nil)))))) (fun _ _ _ _ _ => pv 2)) (pe_lst (pa_nil)) (nomark _)) (pss_one (ps_ret (pe_bl))) (pss_nil))
        (pss_one (ps_if (pt_not (pt_val (pc c_law_alike hr (pa_cons (pe_ix ix_tup (pv 1) (pe_int) (fun _ _ => rfl)) (pa_cons (pc c_law_table hr (pa_cons (pe_ix ix_tup (pv 1) (pe_int) (fun _ _ => rfl)) (pa_nil))) (pa_nil)))))) (pss_one (ps_ret (pe_bl))) (pss_nil)))))))
        (pss_one (ps_ret (pe_bl))))

abbrev s_law_line : Stmt := topS 45
abbrev N_law_line : List Str := ["_law_box", "_law_rows", "_law_line_here"]
theorem sc_law_line : FnScope N_law_line ["_law_box"] (defScope s_law_line) := ⟨rfl, rfl, rfl, by decide +kernel, rfl, by decide +kernel, by decide +kernel⟩
theorem ok_law_line {sp_law_take : Sp} {sp_law_free_rows : Sp} {sp_law_listed : Sp} {sp_law_table : Sp} {sp_law_coded : Sp} {sp_law_program : Sp} {sp_law_spoilt : Sp} {f : Addr} {fd : FuncData} (D : FunD K "_law_line" "_law_line" (defArgs s_law_line) (defBody s_law_line) (defScope s_law_line) [] [] f fd) (c_law_take : Cal P w K mg base k "_law_take" ["_law_box", "_law_many"] sp_law_take) (c_law_free_rows : Cal P w K mg base k "_law_free_rows" ["_law_box", "_law_most"] sp_law_free_rows) (c_law_listed : Cal P w K mg base k "_law_listed" ["_law_code_here"] sp_law_listed) (c_law_table : Cal P w K mg base k "_law_table" ["_law_rows"] sp_law_table) (c_law_coded : Cal P w K mg base k "_law_coded" ["_law_program_here"] sp_law_coded) (c_law_program : Cal P w K mg base k "_law_program" ["_law_box"] sp_law_program) (c_law_spoilt : Cal P w K mg base k "_law_spoilt" ["_law_box", "_law_line_here"] sp_law_spoilt) {sp : Sp}
    (len : ∀ vs H Q E, sp vs H Q E → vs.length = 1)
    (rd : ∀ vs H Q E, sp vs H Q E → t_law_line K sp_law_take sp_law_free_rows sp_law_listed sp_law_table sp_law_coded sp_law_program sp_law_spoilt { nx := fun _ H' => Q .non H', rt := Q } (start N_law_line vs) H) : FnOk P w K mg base CX0 (k + 1) f fd ["_law_box"] sp := by
  refine D.ok sc_law_line len (fun cdv A outer s H vs Q E hr h => ⟨t_law_line K sp_law_take sp_law_free_rows sp_law_listed sp_law_table sp_law_coded sp_law_program sp_law_spoilt, PSs.nox ?_, rd vs H Q E h⟩)
  · unfold t_law_line
    exact pss_cons (ps_if (pt_cmpR op_eq (pc c_law_take hr (pa_cons (pv 0) (pa_cons (pe_int) (pa_nil)))) (pe_int) (nomark _)) (pss_cons (ps_set (i := 1) sc_law_line.nd rfl (by first | exact Or.inl rfl | exact Or.inr rfl) (pc c_law_free_rows hr (pa_cons (pv 0) (pa_cons (pe_int) (pa_nil)))))
        (pss_one (ps_set (i := 2) sc_law_line.nd rfl (by first | exact Or.inl rfl | exact Or.inr rfl) (pc c_law_listed hr (pa_cons (pe_tup (pa_cons (pe_tup (pa_cons (pc c_law_take hr (pa_cons (pv 0) (pa_cons (pe_int) (pa_nil)))) (pa_cons (pv 1) (pa_cons (pc c_law_table hr (pa_cons (pv 1) (pa_nil))) (pa_nil))))) (pa_nil))) (pa_nil)))))) (pss_one (ps_set (i := 2) sc_law_line.nd rfl (by first | exact Or.inl rfl | exact Or.inr rfl) (pc c_law_listed hr (pa_cons (pc c_law_coded hr (pa_cons (pc c_law_program hr (pa_cons (pv 0) (pa_nil))) (pa_nil))) (pa_nil))))))
        (pss_cons (ps_if (pt_cmpR op_eq (pc c_law_take hr (pa_cons (pv 0) (pa_cons (pe_int) (pa_nil)))) (pe_int) (nomark _)) (pss_one (ps_ret (pv 2))) (pss_nil))
        (pss_one (ps_ret (pc c_law_spoilt hr (pa_cons (pv 0) (pa_cons (pv 2) (pa_nil)))))))

abbrev s_law_refused : Stmt := topS 46
abbrev N_law_refused : List Str := ["_law_line_here", "_law_refused_here", "e"]
theorem sc_law_refused : FnScope N_law_refused ["_law_line_here"] (defScope s_law_refused) := ⟨rfl, rfl, rfl, by decide +kernel, rfl, by decide +kernel, by decide +kernel⟩
theorem ok_law_refused {C_LeapError : Addr} {sp_read_listing : Sp} {C_Unread : Addr} {C_Stray : Addr} {C_Unknown : Addr} {C_Uneven : Addr} {f : Addr} {fd : FuncData} (D : FunD K "_law_refused" "_law_refused" (defArgs s_law_refused) (defBody s_law_refused) (defScope s_law_refused) [] [] f fd) (G_LeapError : mg "LeapError" = some (.ref C_LeapError)) (x_read_listing : CalX P w K mg base k "read_listing" ["text"] sp_read_listing) (B_isinstance : mg "isinstance" = none) (G_Unread : mg "Unread" = some (.ref C_Unread)) (B_ValueError : mg "ValueError" = none) (G_Stray : mg "Stray" = some (.ref C_Stray)) (G_Unknown : mg "Unknown" = some (.ref C_Unknown)) (G_Uneven : mg "Uneven" = some (.ref C_Uneven)) {sp : Sp}
    (len : ∀ vs H Q E, sp vs H Q E → vs.length = 1)
    (rd : ∀ vs H Q E, sp vs H Q E → t_law_refused K C_LeapError sp_read_listing C_Unread C_Stray C_Unknown C_Uneven { nx := fun _ H' => Q .non H', rt := Q } (start N_law_refused vs) H) : FnOk P w K mg base CX0 (k + 1) f fd ["_law_line_here"] sp := by
  refine D.ok sc_law_refused len (fun cdv A outer s H vs Q E hr h => ⟨t_law_refused K C_LeapError sp_read_listing C_Unread C_Stray C_Unknown C_Uneven, PSs.nox ?_, rd vs H Q E h⟩)
  · unfold t_law_refused
    exact pss_cons (ps_set (i := 1) sc_law_refused.nd rfl (by first | exact Or.inl rfl | exact Or.inr rfl) (pe_bl))
        (pss_cons (ps_tryAs (i := 2) rfl rfl sc_law_refused.nd rfl rfl ⟨rfl, by decide, Or.inl G_LeapError⟩ (fun W pn xe tk _ => pss_one (ps_expr (pcW x_read_listing hr tk (pa_cons (pv 0) (pa_nil))))) (fun a oe cls d pn hz hf => pss_cons (ps_set (i := 1) sc_law_refused.nd rfl (by first | exact Or.inl rfl | exact Or.inr rfl) (pe_and (pe_callB (call_isEx hz hf) (by rfl) B_isinstance (by decide +kernel) (pa_cons (pv 2) (pa_cons (pe_glob (by rfl) G_Unread rfl) (pa_nil)))) (pe_and (pe_callB (call_isEx hz hf) (by rfl) B_isinstance (by decide +kernel) (pa_cons (pv 2) (pa_cons (pe_bltn (by rfl) B_ValueError (by decide +kernel) rfl) (pa_nil)))) (pe_one (pe_not (pe_callB (call_isEx hz hf) (by rfl) B_isinstance (by decide +kernel) (pa_cons (pv 2) (pa_cons (pe_glob (by rfl) G_Stray rfl) (pa_nil)))))))))
        (pss_one (ps_set (i := 1) sc_law_refused.nd rfl (by first | exact Or.inl rfl | exact Or.inr rfl) (pe_and (pv 1) (pe_and (pe_not (pe_callB (call_isEx hz hf) (by rfl) B_isinstance (by decide +kernel) (pa_cons (pv 2) (pa_cons (pe_glob (by rfl) G_Unknown rfl) (pa_nil))))) (pe_one (pe_not (pe_callB (call_isEx hz hf) (by rfl) B_isinstance (by decide +kernel) (pa_cons (pv 2) (pa_cons (pe_glob (by rfl) G_Uneven rfl) (pa_nil))))))))))))
        (pss_one (ps_ret (pv 1))))

abbrev s_law : Stmt := topS 47
abbrev N_law : List Str := ["_law_script", "_law_box", "_law_line_here", "_law_made", "_law_refused_here"]
theorem sc_law : FnScope N_law ["_law_script"] (defScope s_law) := ⟨rfl, rfl, rfl, by decide +kernel, rfl, by decide +kernel, by decide +kernel⟩
theorem ok_law {sp_law_line : Sp} {C_Unread : Addr} {sp_read_listing : Sp} {sp_law_refused : Sp} {sp_law_good_code : Sp} {sp_law_listed : Sp} {f : Addr} {fd : FuncData} (D : FunD K "law" "law" (defArgs s_law) (defBody s_law) (defScope s_law) [] [] f fd) (B_list : mg "list" = none) (c_law_line : Cal P w K mg base k "_law_line" ["_law_box"] sp_law_line) (G_Unread : mg "Unread" = some (.ref C_Unread)) (x_read_listing : CalX P w K mg base k "read_listing" ["text"] sp_read_listing) (c_law_refused : Cal P w K mg base k "_law_refused" ["_law_line_here"] sp_law_refused) (c_law_good_code : Cal P w K mg base k "_law_good_code" ["_law_code_here"] sp_law_good_code) (c_law_listed : Cal P w K mg base k "_law_listed" ["_law_code_here"] sp_law_listed) {sp : Sp}
    (len : ∀ vs H Q E, sp vs H Q E → vs.length = 1)
    (rd : ∀ vs H Q E, sp vs H Q E → t_law K sp_law_line C_Unread sp_read_listing sp_law_refused sp_law_good_code sp_law_listed { nx := fun _ H' => Q .non H', rt := Q } (start N_law vs) H) : FnOk P w K mg base CX0 (k + 1) f fd ["_law_script"] sp := by
  refine D.ok sc_law len (fun cdv A outer s H vs Q E hr h => ⟨t_law K sp_law_line C_Unread sp_read_listing sp_law_refused sp_law_good_code sp_law_listed, PSs.nox ?_, rd vs H Q E h⟩)
  · unfold t_law
    exact pss_cons (ps_set (i := 1) sc_law.nd rfl (by first | exact Or.inl rfl | exact Or.inr rfl) (pe_callTy call_list_of (by rfl) B_list (by decide +kernel) (pa_cons (pv 0) (pa_nil))))
        (pss_cons (ps_set (i := 2) sc_law.nd rfl (by first | exact Or.inl rfl | exact Or.inr rfl) (pc c_law_line hr (pa_cons (pv 1) (pa_nil))))
        (pss_cons (ps_set (i := 3) sc_law.nd rfl (by first | exact Or.inl rfl | exact Or.inr rfl) (pe_non))
        (pss_cons (ps_set (i := 4) sc_law.nd rfl (by first | exact Or.inl rfl | exact Or.inr rfl) (pe_bl))
        (pss_cons (ps_tryOnly rfl rfl ⟨rfl, by decide, Or.inl G_Unread⟩ (fun W pn xe tk _ => pss_one (ps_set (i := 3) sc_law.nd rfl (by first | exact Or.inl rfl | exact Or.inr rfl) (pcW x_read_listing hr tk (pa_cons (pv 2) (pa_nil))))) (fun a oe cls d pn hz hf => pss_one (ps_set (i := 4) sc_law.nd rfl (by first | exact Or.inl rfl | exact Or.inr rfl) (pe_bl))))
        (pss_cons (ps_if (pt_val (pv 4)) (pss_one (ps_ret (pc c_law_refused hr (pa_cons (pv 2) (pa_nil))))) (pss_nil))
        (pss_one (ps_ret (pe_and (pc c_law_good_code hr (pa_cons (pv 3) (pa_nil))) (pe_one (pe_cmpR op_eq (pc c_law_listed hr (pa_cons (pv 3) (pa_nil))) (pv 2) (nomark _)))))))))))

end
def d_table_of : He.DefD := ⟨("table_of", none), "table_of", "table_of", defArgs s_table_of, defBody s_table_of, defScope s_table_of, [], []⟩
def d_number_of : He.DefD := ⟨("number_of", none), "number_of", "number_of", defArgs s_number_of, defBody s_number_of, defScope s_number_of, [], []⟩
def d_number_or_none : He.DefD := ⟨("number_or_none", none), "number_or_none", "number_or_none", defArgs s_number_or_none, defBody s_number_or_none, defScope s_number_or_none, [], []⟩
def d_row_of : He.DefD := ⟨("row_of", none), "row_of", "row_of", defArgs s_row_of, defBody s_row_of, defScope s_row_of, [], []⟩
def d_table_row_of : He.DefD := ⟨("table_row_of", none), "table_row_of", "table_row_of", defArgs s_table_row_of, defBody s_table_row_of, defScope s_table_row_of, [], []⟩
def d_function_of : He.DefD := ⟨("function_of", none), "function_of", "function_of", defArgs s_function_of, defBody s_function_of, defScope s_function_of, [], []⟩
def d_read_listing : He.DefD := ⟨("read_listing", none), "read_listing", "read_listing", defArgs s_read_listing, defBody s_read_listing, defScope s_read_listing, [], []⟩
def d_law_take : He.DefD := ⟨("_law_take", none), "_law_take", "_law_take", defArgs s_law_take, defBody s_law_take, defScope s_law_take, [], []⟩
def d_law_alike : He.DefD := ⟨("_law_alike", none), "_law_alike", "_law_alike", defArgs s_law_alike, defBody s_law_alike, defScope s_law_alike, [], []⟩
def d_law_part : He.DefD := ⟨("_law_part", none), "_law_part", "_law_part", defArgs s_law_part, defBody s_law_part, defScope s_law_part, [], []⟩
def d_law_kinds : He.DefD := ⟨("_law_kinds", none), "_law_kinds", "_law_kinds", defArgs s_law_kinds, defBody s_law_kinds, defScope s_law_kinds, [], []⟩
def d_law_call : He.DefD := ⟨("_law_call", none), "_law_call", "_law_call", defArgs s_law_call, defBody s_law_call, defScope s_law_call, [], []⟩
def d_law_simple : He.DefD := ⟨("_law_simple", none), "_law_simple", "_law_simple", defArgs s_law_simple, defBody s_law_simple, defScope s_law_simple, [], []⟩
def d_law_handler : He.DefD := ⟨("_law_handler", none), "_law_handler", "_law_handler", defArgs s_law_handler, defBody s_law_handler, defScope s_law_handler, [], []⟩
def d_law_statement : He.DefD := ⟨("_law_statement", none), "_law_statement", "_law_statement", defArgs s_law_statement, defBody s_law_statement, defScope s_law_statement, [], []⟩
def d_law_program : He.DefD := ⟨("_law_program", none), "_law_program", "_law_program", defArgs s_law_program, defBody s_law_program, defScope s_law_program, [], []⟩
def d_law_part_code : He.DefD := ⟨("_law_part_code", none), "_law_part_code", "_law_part_code", defArgs s_law_part_code, defBody s_law_part_code, defScope s_law_part_code, [], []⟩
def d_law_loop_code : He.DefD := ⟨("_law_loop_code", none), "_law_loop_code", "_law_loop_code", defArgs s_law_loop_code, defBody s_law_loop_code, defScope s_law_loop_code, [], []⟩
def d_law_try_code : He.DefD := ⟨("_law_try_code", none), "_law_try_code", "_law_try_code", defArgs s_law_try_code, defBody s_law_try_code, defScope s_law_try_code, [], []⟩
def d_law_if_code : He.DefD := ⟨("_law_if_code", none), "_law_if_code", "_law_if_code", defArgs s_law_if_code, defBody s_law_if_code, defScope s_law_if_code, [], []⟩
def d_law_clean_code : He.DefD := ⟨("_law_clean_code", none), "_law_clean_code", "_law_clean_code", defArgs s_law_clean_code, defBody s_law_clean_code, defScope s_law_clean_code, [], []⟩
def d_law_plain_code : He.DefD := ⟨("_law_plain_code", none), "_law_plain_code", "_law_plain_code", defArgs s_law_plain_code, defBody s_law_plain_code, defScope s_law_plain_code, [], []⟩
def d_law_code : He.DefD := ⟨("_law_code", none), "_law_code", "_law_code", defArgs s_law_code, defBody s_law_code, defScope s_law_code, [], []⟩
def d_law_table : He.DefD := ⟨("_law_table", none), "_law_table", "_law_table", defArgs s_law_table, defBody s_law_table, defScope s_law_table, [], []⟩
def d_law_coded : He.DefD := ⟨("_law_coded", none), "_law_coded", "_law_coded", defArgs s_law_coded, defBody s_law_coded, defScope s_law_coded, [], []⟩
def d_law_word : He.DefD := ⟨("_law_word", none), "_law_word", "_law_word", defArgs s_law_word, defBody s_law_word, defScope s_law_word, [], []⟩
def d_law_listed : He.DefD := ⟨("_law_listed", none), "_law_listed", "_law_listed", defArgs s_law_listed, defBody s_law_listed, defScope s_law_listed, [], []⟩
def d_law_words : He.DefD := ⟨("_law_words", none), "_law_words", "_law_words", defArgs s_law_words, defBody s_law_words, defScope s_law_words, [], []⟩
def d_law_free_rows : He.DefD := ⟨("_law_free_rows", none), "_law_free_rows", "_law_free_rows", defArgs s_law_free_rows, defBody s_law_free_rows, defScope s_law_free_rows, [], []⟩
def d_law_spoilt : He.DefD := ⟨("_law_spoilt", none), "_law_spoilt", "_law_spoilt", defArgs s_law_spoilt, defBody s_law_spoilt, defScope s_law_spoilt, [], []⟩
def d_law_good_number : He.DefD := ⟨("_law_good_number", none), "_law_good_number", "_law_good_number", defArgs s_law_good_number, defBody s_law_good_number, defScope s_law_good_number, [], []⟩
def d_law_good_row : He.DefD := ⟨("_law_good_row", none), "_law_good_row", "_law_good_row", defArgs s_law_good_row, defBody s_law_good_row, defScope s_law_good_row, [], []⟩
def d_law_good_code : He.DefD := ⟨("_law_good_code", none), "_law_good_code", "_law_good_code", defArgs s_law_good_code, defBody s_law_good_code, defScope s_law_good_code, [], []⟩
def d_law_line : He.DefD := ⟨("_law_line", none), "_law_line", "_law_line", defArgs s_law_line, defBody s_law_line, defScope s_law_line, [], []⟩
def d_law_refused : He.DefD := ⟨("_law_refused", none), "_law_refused", "_law_refused", defArgs s_law_refused, defBody s_law_refused, defScope s_law_refused, [], []⟩
def d_law : He.DefD := ⟨("law", none), "law", "law", defArgs s_law, defBody s_law, defScope s_law, [], []⟩
def fn : List He.DefD := [d_table_of, d_number_of, d_number_or_none, d_row_of, d_table_row_of, d_function_of, d_read_listing, d_law_take, d_law_alike, d_law_part, d_law_kinds, d_law_call, d_law_simple, d_law_handler, d_law_statement, d_law_program, d_law_part_code, d_law_loop_code, d_law_try_code, d_law_if_code, d_law_clean_code, d_law_plain_code, d_law_code, d_law_table, d_law_coded, d_law_word, d_law_listed, d_law_words, d_law_free_rows, d_law_spoilt, d_law_good_number, d_law_good_row, d_law_good_code, d_law_line, d_law_refused, d_law]
def fa : List He.Fa := [.glo "table_of", .glo "number_of", .glo "number_or_none", .glo "row_of", .glo "table_row_of", .glo "function_of", .glo "read_listing", .glo "_law_take", .glo "_law_alike", .glo "_law_part", .glo "_law_kinds", .glo "_law_call", .glo "_law_simple", .glo "_law_handler", .glo "_law_statement", .glo "_law_program", .glo "_law_part_code", .glo "_law_loop_code", .glo "_law_try_code", .glo "_law_if_code", .glo "_law_clean_code", .glo "_law_plain_code", .glo "_law_code", .glo "_law_table", .glo "_law_coded", .glo "_law_word", .glo "_law_listed", .glo "_law_words", .glo "_law_free_rows", .glo "_law_spoilt", .glo "_law_good_number", .glo "_law_good_row", .glo "_law_good_code", .glo "_law_line", .glo "_law_refused", .glo "law", .free "enumerate", .free "tuple", .free "len", .glo "Unread", .exc "Unread", .str "FIGURES" "0123456789", .free "int", .glo "ROWS", .free "range", .free "isinstance", .free "bool", .free "str", .free "list", .free "sorted", .free "reversed", .glo "LeapError", .free "ValueError", .glo "Stray", .glo "Unknown", .glo "Uneven", .exm "Unread" "LeapError" true, .exm "Unread" "Unread" true]
def loose : List PySem.Str := (["LeapError", "Stray", "Unknown", "Uneven", "Unread", "table_of", "FIGURES", "ROWS", "number_of", "number_or_none", "row_of", "table_row_of", "function_of", "read_listing", "_law_take", "_law_alike", "_law_part", "_law_kinds", "_law_above", "_law_call"] : List PySem.Str) ++ (["_law_simple", "_law_handler", "_law_statement", "_law_program", "_law_part_code", "_law_loop_code", "_law_try_code", "_law_if_code", "_law_clean_code", "_law_plain_code", "_law_code", "_law_table", "_law_coded", "_law_word", "_law_listed", "_law_words", "_law_free_rows", "_law_spoilt", "_law_good_number", "_law_good_row"] : List PySem.Str) ++ (["_law_good_code", "_law_line", "_law_refused"] : List PySem.Str)
abbrev R : PySem.W.OpenRow := PySem.W.OpenLaw.row PySem.Challenge.rw_leaps_k19_whole_listings_read
def tabs : List He.Tab := [((fun K => He.ga K "ROWS"), rowsT.map (·.1))]
def exB (K : PySem.W.Frag) : Bool := He.valsB K (He.ga K "ROWS") (rowsT.map fun q => (q.1, .int (q.2 : Int))) && (excB K "Unread" && (kitB K "Unread" "Unread" true && (kitT K "Unread" "ValueError" true && (kitB K "Unread" "Stray" false && (kitB K "Unread" "Unknown" false && kitB K "Unread" "Uneven" false)))))
abbrev hk : PySem.W.Hook := He.hookX 7 fa fn tabs [] exB
def ob (s : PySem.W.SharedT) : He.AlX := He.obsX 7 fa fn tabs [] exB (HandSHeadRun.getT s)
theorem ob_eq (s : PySem.W.SharedT) : ob s = hk.obs s.abs := He.obsX_eq (HandSHeadRun.getT_eq s)
set_option maxHeartbeats 0 in
theorem run0 (w : World) : HandSHeadRun.RunEq R (PySem.W.view R.prog [47]) hk ob 4000 loose (w.withFollow "special-get-raises" false) := by
  intro os
  kernel_rfl
set_option maxHeartbeats 0 in
theorem run1 (w : World) : HandSHeadRun.RunEq R (PySem.W.view R.prog [47]) hk ob 4000 loose (w.withFollow "special-get-raises" true) := by
  intro os
  kernel_rfl
theorem run (w : World) : HandSHeadRun.RunEq R (PySem.W.view R.prog [47]) hk ob 4000 loose w :=
  PySem.W.byRow2 "special-get-raises" (P := fun w => HandSHeadRun.RunEq R (PySem.W.view R.prog [47]) hk ob 4000 loose w) run0 run1 w
theorem facts {w : World} {K : PySem.W.Frag} {h : Heap} {mg : Str → Option Value} {f : Addr} (X : K.In h) (G : h.Ns mainGlobals mg) (hfa : mg ("law" : Str) = some (.ref f)) (cx : He.SaysX fa fn tabs [] exB w h K) :
    ∃ fd : FuncData, (∀ (s : Shared) (v : Value), BindsTo s fd ⟨[v], []⟩ [("_law_script", v)]) ∧ ∀ base : Heap, K.In base → base.Ns mainGlobals mg → FnOk PySem.Challenge.pw_leaps_k19_whole_listings_read w K mg base CX0 20 f fd ["_law_script"] (spLaw K) := by
  have c : He.SaysD fa fn K := cx.t.d
  have ctb : tabs.map (fun t => He.dicW K (t.1 K)) = tabs.map fun t => some (He.keysIn w.params t.2) := congrArg (fun z : He.AlT => z.2) cx.t
  obtain ⟨cv, cex⟩ := Bool.and_eq_true_iff.mp cx.more
  have T_ROWS : KdF K w (He.ga K "ROWS") rowsT := kdF_of (List.cons.inj ctb).1 cv
  obtain ⟨fd_table_of, D_table_of⟩ := c.def_ 0 (d := d_table_of) rfl
  obtain ⟨fd_number_of, D_number_of⟩ := c.def_ 1 (d := d_number_of) rfl
  obtain ⟨fd_number_or_none, D_number_or_none⟩ := c.def_ 2 (d := d_number_or_none) rfl
  obtain ⟨fd_row_of, D_row_of⟩ := c.def_ 3 (d := d_row_of) rfl
  obtain ⟨fd_table_row_of, D_table_row_of⟩ := c.def_ 4 (d := d_table_row_of) rfl
  obtain ⟨fd_function_of, D_function_of⟩ := c.def_ 5 (d := d_function_of) rfl
  obtain ⟨fd_read_listing, D_read_listing⟩ := c.def_ 6 (d := d_read_listing) rfl
  obtain ⟨fd_law_take, D_law_take⟩ := c.def_ 7 (d := d_law_take) rfl
  obtain ⟨fd_law_alike, D_law_alike⟩ := c.def_ 8 (d := d_law_alike) rfl
  obtain ⟨fd_law_part, D_law_part⟩ := c.def_ 9 (d := d_law_part) rfl
  obtain ⟨fd_law_kinds, D_law_kinds⟩ := c.def_ 10 (d := d_law_kinds) rfl
  obtain ⟨fd_law_call, D_law_call⟩ := c.def_ 11 (d := d_law_call) rfl
  obtain ⟨fd_law_simple, D_law_simple⟩ := c.def_ 12 (d := d_law_simple) rfl
  obtain ⟨fd_law_handler, D_law_handler⟩ := c.def_ 13 (d := d_law_handler) rfl
  obtain ⟨fd_law_statement, D_law_statement⟩ := c.def_ 14 (d := d_law_statement) rfl
  obtain ⟨fd_law_program, D_law_program⟩ := c.def_ 15 (d := d_law_program) rfl
  obtain ⟨fd_law_part_code, D_law_part_code⟩ := c.def_ 16 (d := d_law_part_code) rfl
  obtain ⟨fd_law_loop_code, D_law_loop_code⟩ := c.def_ 17 (d := d_law_loop_code) rfl
  obtain ⟨fd_law_try_code, D_law_try_code⟩ := c.def_ 18 (d := d_law_try_code) rfl
  obtain ⟨fd_law_if_code, D_law_if_code⟩ := c.def_ 19 (d := d_law_if_code) rfl
  obtain ⟨fd_law_clean_code, D_law_clean_code⟩ := c.def_ 20 (d := d_law_clean_code) rfl
  obtain ⟨fd_law_plain_code, D_law_plain_code⟩ := c.def_ 21 (d := d_law_plain_code) rfl
  obtain ⟨fd_law_code, D_law_code⟩ := c.def_ 22 (d := d_law_code) rfl
  obtain ⟨fd_law_table, D_law_table⟩ := c.def_ 23 (d := d_law_table) rfl
  obtain ⟨fd_law_coded, D_law_coded⟩ := c.def_ 24 (d := d_law_coded) rfl
  obtain ⟨fd_law_word, D_law_word⟩ := c.def_ 25 (d := d_law_word) rfl
  obtain ⟨fd_law_listed, D_law_listed⟩ := c.def_ 26 (d := d_law_listed) rfl
  obtain ⟨fd_law_words, D_law_words⟩ := c.def_ 27 (d := d_law_words) rfl
  obtain ⟨fd_law_free_rows, D_law_free_rows⟩ := c.def_ 28 (d := d_law_free_rows) rfl
  obtain ⟨fd_law_spoilt, D_law_spoilt⟩ := c.def_ 29 (d := d_law_spoilt) rfl
  obtain ⟨fd_law_good_number, D_law_good_number⟩ := c.def_ 30 (d := d_law_good_number) rfl
  obtain ⟨fd_law_good_row, D_law_good_row⟩ := c.def_ 31 (d := d_law_good_row) rfl
  obtain ⟨fd_law_good_code, D_law_good_code⟩ := c.def_ 32 (d := d_law_good_code) rfl
  obtain ⟨fd_law_line, D_law_line⟩ := c.def_ 33 (d := d_law_line) rfl
  obtain ⟨fd_law_refused, D_law_refused⟩ := c.def_ 34 (d := d_law_refused) rfl
  obtain ⟨fd_law, D_law⟩ := c.def_ 35 (d := d_law) rfl
  have G_table_of := He.glo_ok X G (c.fact 0 (f := .glo "table_of") rfl)
  have G_number_of := He.glo_ok X G (c.fact 1 (f := .glo "number_of") rfl)
  have G_number_or_none := He.glo_ok X G (c.fact 2 (f := .glo "number_or_none") rfl)
  have G_row_of := He.glo_ok X G (c.fact 3 (f := .glo "row_of") rfl)
  have G_table_row_of := He.glo_ok X G (c.fact 4 (f := .glo "table_row_of") rfl)
  have G_function_of := He.glo_ok X G (c.fact 5 (f := .glo "function_of") rfl)
  have G_read_listing := He.glo_ok X G (c.fact 6 (f := .glo "read_listing") rfl)
  have G__law_take := He.glo_ok X G (c.fact 7 (f := .glo "_law_take") rfl)
  have G__law_alike := He.glo_ok X G (c.fact 8 (f := .glo "_law_alike") rfl)
  have G__law_part := He.glo_ok X G (c.fact 9 (f := .glo "_law_part") rfl)
  have G__law_kinds := He.glo_ok X G (c.fact 10 (f := .glo "_law_kinds") rfl)
  have G__law_call := He.glo_ok X G (c.fact 11 (f := .glo "_law_call") rfl)
  have G__law_simple := He.glo_ok X G (c.fact 12 (f := .glo "_law_simple") rfl)
  have G__law_handler := He.glo_ok X G (c.fact 13 (f := .glo "_law_handler") rfl)
  have G__law_statement := He.glo_ok X G (c.fact 14 (f := .glo "_law_statement") rfl)
  have G__law_program := He.glo_ok X G (c.fact 15 (f := .glo "_law_program") rfl)
  have G__law_part_code := He.glo_ok X G (c.fact 16 (f := .glo "_law_part_code") rfl)
  have G__law_loop_code := He.glo_ok X G (c.fact 17 (f := .glo "_law_loop_code") rfl)
  have G__law_try_code := He.glo_ok X G (c.fact 18 (f := .glo "_law_try_code") rfl)
  have G__law_if_code := He.glo_ok X G (c.fact 19 (f := .glo "_law_if_code") rfl)
  have G__law_clean_code := He.glo_ok X G (c.fact 20 (f := .glo "_law_clean_code") rfl)
  have G__law_plain_code := He.glo_ok X G (c.fact 21 (f := .glo "_law_plain_code") rfl)
  have G__law_code := He.glo_ok X G (c.fact 22 (f := .glo "_law_code") rfl)
  have G__law_table := He.glo_ok X G (c.fact 23 (f := .glo "_law_table") rfl)
  have G__law_coded := He.glo_ok X G (c.fact 24 (f := .glo "_law_coded") rfl)
  have G__law_word := He.glo_ok X G (c.fact 25 (f := .glo "_law_word") rfl)
  have G__law_listed := He.glo_ok X G (c.fact 26 (f := .glo "_law_listed") rfl)
  have G__law_words := He.glo_ok X G (c.fact 27 (f := .glo "_law_words") rfl)
  have G__law_free_rows := He.glo_ok X G (c.fact 28 (f := .glo "_law_free_rows") rfl)
  have G__law_spoilt := He.glo_ok X G (c.fact 29 (f := .glo "_law_spoilt") rfl)
  have G__law_good_number := He.glo_ok X G (c.fact 30 (f := .glo "_law_good_number") rfl)
  have G__law_good_row := He.glo_ok X G (c.fact 31 (f := .glo "_law_good_row") rfl)
  have G__law_good_code := He.glo_ok X G (c.fact 32 (f := .glo "_law_good_code") rfl)
  have G__law_line := He.glo_ok X G (c.fact 33 (f := .glo "_law_line") rfl)
  have G__law_refused := He.glo_ok X G (c.fact 34 (f := .glo "_law_refused") rfl)
  have G_law := He.glo_ok X G (c.fact 35 (f := .glo "law") rfl)
  have B_enumerate := He.free_ok X G (c.fact 36 (f := .free "enumerate") rfl)
  have B_tuple := He.free_ok X G (c.fact 37 (f := .free "tuple") rfl)
  have B_len := He.free_ok X G (c.fact 38 (f := .free "len") rfl)
  have G_Unread := He.glo_ok X G (c.fact 39 (f := .glo "Unread") rfl)
  have X_Unread := He.exc_ok (c.fact 40 (f := .exc "Unread") rfl)
  have U_Unread : ExU K mg "Unread" (He.ga K "Unread") := ⟨G_Unread, X_Unread.1, X_Unread.2.1, X_Unread.2.2.1, X_Unread.2.2.2⟩
  have Gc_FIGURES := He.str_ok X G (c.fact 41 (f := .str "FIGURES" "0123456789") rfl)
  have B_int := He.free_ok X G (c.fact 42 (f := .free "int") rfl)
  have G_ROWS := He.glo_ok X G (c.fact 43 (f := .glo "ROWS") rfl)
  have B_range := He.free_ok X G (c.fact 44 (f := .free "range") rfl)
  have B_isinstance := He.free_ok X G (c.fact 45 (f := .free "isinstance") rfl)
  have B_bool := He.free_ok X G (c.fact 46 (f := .free "bool") rfl)
  have B_str := He.free_ok X G (c.fact 47 (f := .free "str") rfl)
  have B_list := He.free_ok X G (c.fact 48 (f := .free "list") rfl)
  have B_sorted := He.free_ok X G (c.fact 49 (f := .free "sorted") rfl)
  have B_reversed := He.free_ok X G (c.fact 50 (f := .free "reversed") rfl)
  have G_LeapError := He.glo_ok X G (c.fact 51 (f := .glo "LeapError") rfl)
  have B_ValueError := He.free_ok X G (c.fact 52 (f := .free "ValueError") rfl)
  have G_Stray := He.glo_ok X G (c.fact 53 (f := .glo "Stray") rfl)
  have G_Unknown := He.glo_ok X G (c.fact 54 (f := .glo "Unknown") rfl)
  have G_Uneven := He.glo_ok X G (c.fact 55 (f := .glo "Uneven") rfl)
  have M_Unread_LeapError := He.exm_ok (c.fact 56 (f := .exm "Unread" "LeapError" true) rfl)
  have M_Unread_Unread := He.exm_ok (c.fact 57 (f := .exm "Unread" "Unread" true) rfl)
  have eLaw := hfa.symm.trans G_law
  cases eLaw
  have b_table_of := FunD.bindsN (ps := ["rows"]) D_table_of fun _ _ _ _ _ _ us hl => match us, hl with | [_], _ => rfl
  have b_number_of := FunD.bindsN (ps := ["word"]) D_number_of fun _ _ _ _ _ _ us hl => match us, hl with | [_], _ => rfl
  have b_number_or_none := FunD.bindsN (ps := ["word"]) D_number_or_none fun _ _ _ _ _ _ us hl => match us, hl with | [_], _ => rfl
  have b_row_of := FunD.bindsN (ps := ["line"]) D_row_of fun _ _ _ _ _ _ us hl => match us, hl with | [_], _ => rfl
  have b_table_row_of := FunD.bindsN (ps := ["line"]) D_table_row_of fun _ _ _ _ _ _ us hl => match us, hl with | [_], _ => rfl
  have b_function_of := FunD.bindsN (ps := ["lines"]) D_function_of fun _ _ _ _ _ _ us hl => match us, hl with | [_], _ => rfl
  have b_read_listing := FunD.bindsN (ps := ["text"]) D_read_listing fun _ _ _ _ _ _ us hl => match us, hl with | [_], _ => rfl
  have b_law_take := FunD.bindsN (ps := ["_law_box", "_law_many"]) D_law_take fun _ _ _ _ _ _ us hl => match us, hl with | [_, _], _ => rfl
  have b_law_alike := FunD.bindsN (ps := ["_law_found", "_law_due"]) D_law_alike fun _ _ _ _ _ _ us hl => match us, hl with | [_, _], _ => rfl
  have b_law_part := FunD.bindsN (ps := ["_law_box", "_law_deep"]) D_law_part fun _ _ _ _ _ _ us hl => match us, hl with | [_, _], _ => rfl
  have b_law_kinds := FunD.bindsN (ps := ["_law_box", "_law_most"]) D_law_kinds fun _ _ _ _ _ _ us hl => match us, hl with | [_, _], _ => rfl
  have b_law_call := FunD.bindsN (ps := ["_law_box", "_law_shape"]) D_law_call fun _ _ _ _ _ _ us hl => match us, hl with | [_, _], _ => rfl
  have b_law_simple := FunD.bindsN (ps := ["_law_box", "_law_shape", "_law_turn", "_law_handler_here"]) D_law_simple fun _ _ _ _ _ _ us hl => match us, hl with | [_, _, _, _], _ => rfl
  have b_law_handler := FunD.bindsN (ps := ["_law_box", "_law_shape", "_law_deep", "_law_turn"]) D_law_handler fun _ _ _ _ _ _ us hl => match us, hl with | [_, _, _, _], _ => rfl
  have b_law_statement := FunD.bindsN (ps := ["_law_box", "_law_shape", "_law_deep", "_law_turn", "_law_handler_here"]) D_law_statement fun _ _ _ _ _ _ us hl => match us, hl with | [_, _, _, _, _], _ => rfl
  have b_law_program := FunD.bindsN (ps := ["_law_box"]) D_law_program fun _ _ _ _ _ _ us hl => match us, hl with | [_], _ => rfl
  have b_law_part_code := FunD.bindsN (ps := ["_law_part_here"]) D_law_part_code fun _ _ _ _ _ _ us hl => match us, hl with | [_], _ => rfl
  have b_law_loop_code := FunD.bindsN (ps := ["_law_one", "_law_base", "_law_depth"]) D_law_loop_code fun _ _ _ _ _ _ us hl => match us, hl with | [_, _, _], _ => rfl
  have b_law_try_code := FunD.bindsN (ps := ["_law_one", "_law_base", "_law_depth", "_law_turn"]) D_law_try_code fun _ _ _ _ _ _ us hl => match us, hl with | [_, _, _, _], _ => rfl
  have b_law_if_code := FunD.bindsN (ps := ["_law_one", "_law_base", "_law_depth", "_law_turn"]) D_law_if_code fun _ _ _ _ _ _ us hl => match us, hl with | [_, _, _, _], _ => rfl
  have b_law_clean_code := FunD.bindsN (ps := ["_law_one", "_law_base", "_law_depth", "_law_turn"]) D_law_clean_code fun _ _ _ _ _ _ us hl => match us, hl with | [_, _, _, _], _ => rfl
  have b_law_plain_code := FunD.bindsN (ps := ["_law_one", "_law_turn"]) D_law_plain_code fun _ _ _ _ _ _ us hl => match us, hl with | [_, _], _ => rfl
  have b_law_code := FunD.bindsN (ps := ["_law_one", "_law_base", "_law_depth", "_law_turn"]) D_law_code fun _ _ _ _ _ _ us hl => match us, hl with | [_, _, _, _], _ => rfl
  have b_law_table := FunD.bindsN (ps := ["_law_rows"]) D_law_table fun _ _ _ _ _ _ us hl => match us, hl with | [_], _ => rfl
  have b_law_coded := FunD.bindsN (ps := ["_law_program_here"]) D_law_coded fun _ _ _ _ _ _ us hl => match us, hl with | [_], _ => rfl
  have b_law_word := FunD.bindsN (ps := ["_law_part_here"]) D_law_word fun _ _ _ _ _ _ us hl => match us, hl with | [_], _ => rfl
  have b_law_listed := FunD.bindsN (ps := ["_law_code_here"]) D_law_listed fun _ _ _ _ _ _ us hl => match us, hl with | [_], _ => rfl
  have b_law_words := FunD.bindsN (ps := []) D_law_words fun _ _ _ _ _ _ us hl => match us, hl with | [], _ => rfl
  have b_law_free_rows := FunD.bindsN (ps := ["_law_box", "_law_most"]) D_law_free_rows fun _ _ _ _ _ _ us hl => match us, hl with | [_, _], _ => rfl
  have b_law_spoilt := FunD.bindsN (ps := ["_law_box", "_law_line_here"]) D_law_spoilt fun _ _ _ _ _ _ us hl => match us, hl with | [_, _], _ => rfl
  have b_law_good_number := FunD.bindsN (ps := ["_law_part_here"]) D_law_good_number fun _ _ _ _ _ _ us hl => match us, hl with | [_], _ => rfl
  have b_law_good_row := FunD.bindsN (ps := ["_law_row"]) D_law_good_row fun _ _ _ _ _ _ us hl => match us, hl with | [_], _ => rfl
  have b_law_good_code := FunD.bindsN (ps := ["_law_code_here"]) D_law_good_code fun _ _ _ _ _ _ us hl => match us, hl with | [_], _ => rfl
  have b_law_line := FunD.bindsN (ps := ["_law_box"]) D_law_line fun _ _ _ _ _ _ us hl => match us, hl with | [_], _ => rfl
  have b_law_refused := FunD.bindsN (ps := ["_law_line_here"]) D_law_refused fun _ _ _ _ _ _ us hl => match us, hl with | [_], _ => rfl
  have b_law := FunD.bindsA (ps := ["_law_script"]) D_law fun _ _ _ _ _ _ us hl => match us, hl with | [_], _ => rfl
  refine ⟨fd_law, fun s v => b_law s [v] rfl, fun base _ _ => ?_⟩
  have c_table_of : Cal PySem.Challenge.pw_leaps_k19_whole_listings_read w K mg base 1 "table_of" ["rows"] (spTable (K := K)) := ⟨_, _, ok_table_of (k := 0) D_table_of B_enumerate B_tuple (fun vs H Q E h => by obtain ⟨_, _, rfl, _⟩ := h; rfl) rd_table_of, b_table_of, D_table_of.kp, G_table_of⟩
  have c_number_of : CalX PySem.Challenge.pw_leaps_k19_whole_listings_read w K mg base 1 "number_of" ["word"] (spNum (He.ga K "Unread")) := ⟨_, _, ok_number_of (k := 0) D_number_of B_len U_Unread Gc_FIGURES B_int (fun vs H Q E h => by obtain ⟨_, rfl, _⟩ := h; rfl) rd_number_of, b_number_of, D_number_of.kp, G_number_of⟩
  have c_number_or_none : CalX PySem.Challenge.pw_leaps_k19_whole_listings_read w K mg base 2 "number_or_none" ["word"] (spNumN (He.ga K "Unread")) := ⟨_, _, ok_number_or_none (k := 1) D_number_or_none (c_number_of.mono (by decide)) (fun vs H Q E h => by obtain ⟨_, rfl, _⟩ := h; rfl) rd_number_or_none, b_number_or_none, D_number_or_none.kp, G_number_or_none⟩
  have c_row_of : CalX PySem.Challenge.pw_leaps_k19_whole_listings_read w K mg base 3 "row_of" ["line"] (spRow K (He.ga K "Unread")) := ⟨_, _, ok_row_of (k := 2) D_row_of G_ROWS T_ROWS B_len U_Unread B_range (c_number_or_none.mono (by decide)) (c_number_of.mono (by decide)) B_tuple (fun vs H Q E h => by obtain ⟨_, rfl, _⟩ := h; rfl) rd_row_of, b_row_of, D_row_of.kp, G_row_of⟩
  have c_table_row_of : CalX PySem.Challenge.pw_leaps_k19_whole_listings_read w K mg base 3 "table_row_of" ["line"] (spTabR K (He.ga K "Unread")) := ⟨_, _, ok_table_row_of (k := 2) D_table_row_of B_len U_Unread (c_number_of.mono (by decide)) (c_number_or_none.mono (by decide)) (fun vs H Q E h => by obtain ⟨_, rfl, _⟩ := h; rfl) rd_table_row_of, b_table_row_of, D_table_row_of.kp, G_table_row_of⟩
  have c_function_of : CalX PySem.Challenge.pw_leaps_k19_whole_listings_read w K mg base 4 "function_of" ["lines"] (spFn K (He.ga K "Unread")) := ⟨_, _, ok_function_of (k := 3) D_function_of B_len U_Unread (c_number_of.mono (by decide)) (c_table_row_of.mono (by decide)) (c_row_of.mono (by decide)) B_tuple (fun vs H Q E h => by obtain ⟨_, _, rfl, _⟩ := h; rfl) rd_function_of, b_function_of, D_function_of.kp, G_function_of⟩
  have c_read_listing : CalX PySem.Challenge.pw_leaps_k19_whole_listings_read w K mg base 5 "read_listing" ["text"] (spRead K (He.ga K "Unread")) := ⟨_, _, ok_read_listing (k := 4) D_read_listing (c_function_of.mono (by decide)) U_Unread (c_table_of.mono (by decide)) B_tuple (fun vs H Q E h => by obtain ⟨_, rfl, _⟩ := h; rfl) rd_read_listing, b_read_listing, D_read_listing.kp, G_read_listing⟩
  have c_law_take : Cal PySem.Challenge.pw_leaps_k19_whole_listings_read w K mg base 1 "_law_take" ["_law_box", "_law_many"] spTake := ⟨_, _, ok_law_take (k := 0) D_law_take  (fun vs H Q E h => by obtain ⟨_, _, _, rfl, _⟩ := h; rfl) rd_take, b_law_take, D_law_take.kp, G__law_take⟩
  have r_law_alike : ∀ n, Cal PySem.Challenge.pw_leaps_k19_whole_listings_read w K mg base (0 + 1 * n) "_law_alike" ["_law_found", "_law_due"] (spAlike K n) := by
    intro n
    induction n with
    | zero => exact ⟨_, _, FnOk.zero spAlike_zero, b_law_alike, D_law_alike.kp, G__law_alike⟩
    | succ n c_law_alike =>
      have z : Cal PySem.Challenge.pw_leaps_k19_whole_listings_read w K mg base (0 + 1 * n + 0 + 1) "_law_alike" ["_law_found", "_law_due"] (spAlike K (n + 1)) := ⟨_, _, ok_law_alike (k := 0 + 1 * n + 0) D_law_alike B_isinstance B_bool B_int B_str B_tuple B_list B_len B_range (c_law_alike.mono (by omega)) (fun vs H Q E h => by obtain ⟨_, _, _, rfl, _⟩ := h; rfl) rd_alike, b_law_alike, D_law_alike.kp, G__law_alike⟩
      exact z.mono (by omega)
  have c_law_alike : Cal PySem.Challenge.pw_leaps_k19_whole_listings_read w K mg base (5) "_law_alike" ["_law_found", "_law_due"] (spAlike K 5) := r_law_alike 5
  have r_law_part : ∀ n, Cal PySem.Challenge.pw_leaps_k19_whole_listings_read w K mg base (1 + 1 * n) "_law_part" ["_law_box", "_law_deep"] (spPart K n) := by
    intro n
    induction n with
    | zero => exact ⟨_, _, FnOk.zero spPart_zero, b_law_part, D_law_part.kp, G__law_part⟩
    | succ n c_law_part =>
      have z : Cal PySem.Challenge.pw_leaps_k19_whole_listings_read w K mg base (1 + 1 * n + 0 + 1) "_law_part" ["_law_box", "_law_deep"] (spPart K (n + 1)) := ⟨_, _, ok_law_part (k := 1 + 1 * n + 0) D_law_part (c_law_take.mono (by omega)) (c_law_part.mono (by omega)) (fun vs H Q E h => by obtain ⟨_, _, _, rfl, _⟩ := h; rfl) rd_law_part, b_law_part, D_law_part.kp, G__law_part⟩
      exact z.mono (by omega)
  have c_law_part : Cal PySem.Challenge.pw_leaps_k19_whole_listings_read w K mg base (6) "_law_part" ["_law_box", "_law_deep"] (spPart K 5) := r_law_part 5
  have c_law_kinds : Cal PySem.Challenge.pw_leaps_k19_whole_listings_read w K mg base 2 "_law_kinds" ["_law_box", "_law_most"] spKinds := ⟨_, _, ok_law_kinds (k := 1) D_law_kinds B_range (c_law_take.mono (by decide)) B_int B_tuple (fun vs H Q E h => by obtain ⟨_, _, _, rfl, _⟩ := h; rfl) rd_kinds, b_law_kinds, D_law_kinds.kp, G__law_kinds⟩
  have c_law_call : Cal PySem.Challenge.pw_leaps_k19_whole_listings_read w K mg base 7 "_law_call" ["_law_box", "_law_shape"] (spCallS K) := ⟨_, _, ok_law_call (k := 6) D_law_call (c_law_take.mono (by decide)) B_len B_range (c_law_part.mono (by decide)) B_tuple (fun vs H Q E h => by obtain ⟨_, _, _, _, _, rfl, _⟩ := h; rfl) rd_law_call, b_law_call, D_law_call.kp, G__law_call⟩
  have c_law_simple : Cal PySem.Challenge.pw_leaps_k19_whole_listings_read w K mg base 8 "_law_simple" ["_law_box", "_law_shape", "_law_turn", "_law_handler_here"] (spSimple K) := ⟨_, _, ok_law_simple (k := 7) D_law_simple (c_law_take.mono (by decide)) (c_law_call.mono (by decide)) (c_law_part.mono (by decide)) (fun vs H Q E h => by obtain ⟨_, _, _, _, _, _, _, rfl, _⟩ := h; rfl) rd_law_simple, b_law_simple, D_law_simple.kp, G__law_simple⟩
  have r_law_statement : ∀ n, Cal PySem.Challenge.pw_leaps_k19_whole_listings_read w K mg base (8 + 2 * n) "_law_statement" ["_law_box", "_law_shape", "_law_deep", "_law_turn", "_law_handler_here"] (spStmt K n) := by
    intro n
    induction n with
    | zero => exact ⟨_, _, FnOk.zero spStmt_zero, b_law_statement, D_law_statement.kp, G__law_statement⟩
    | succ n c_law_statement =>
      have c_law_handler : Cal PySem.Challenge.pw_leaps_k19_whole_listings_read w K mg base (8 + 2 * n + 0 + 1) "_law_handler" ["_law_box", "_law_shape", "_law_deep", "_law_turn"] (spHandler K n) := ⟨_, _, ok_law_handler (k := 8 + 2 * n + 0) D_law_handler (c_law_take.mono (by omega)) (c_law_statement.mono (by omega)) (fun vs H Q E h => by obtain ⟨_, _, _, _, _, _, _, rfl, _⟩ := h; rfl) rd_law_handler, b_law_handler, D_law_handler.kp, G__law_handler⟩
      have z : Cal PySem.Challenge.pw_leaps_k19_whole_listings_read w K mg base (8 + 2 * n + 1 + 1) "_law_statement" ["_law_box", "_law_shape", "_law_deep", "_law_turn", "_law_handler_here"] (spStmt K (n + 1)) := ⟨_, _, ok_law_statement (k := 8 + 2 * n + 1) D_law_statement (c_law_take.mono (by omega)) (c_law_simple.mono (by omega)) B_tuple B_range (c_law_statement.mono (by omega)) (c_law_part.mono (by omega)) (c_law_handler.mono (by omega)) (fun vs H Q E h => by obtain ⟨_, _, _, _, _, _, _, _, rfl, _⟩ := h; rfl) rd_law_statement, b_law_statement, D_law_statement.kp, G__law_statement⟩
      exact z.mono (by omega)
  have c_law_statement : Cal PySem.Challenge.pw_leaps_k19_whole_listings_read w K mg base (16) "_law_statement" ["_law_box", "_law_shape", "_law_deep", "_law_turn", "_law_handler_here"] (spStmt K 4) := r_law_statement 4
  have c_law_program : Cal PySem.Challenge.pw_leaps_k19_whole_listings_read w K mg base 17 "_law_program" ["_law_box"] (spProgram K) := ⟨_, _, ok_law_program (k := 16) D_law_program (c_law_kinds.mono (by decide)) B_range (c_law_take.mono (by decide)) B_len (c_law_statement.mono (by decide)) B_tuple (fun vs H Q E h => by obtain ⟨_, _, rfl, _⟩ := h; rfl) rd_law_program, b_law_program, D_law_program.kp, G__law_program⟩
  have r_law_part_code : ∀ n, Cal PySem.Challenge.pw_leaps_k19_whole_listings_read w K mg base (0 + 1 * n) "_law_part_code" ["_law_part_here"] (spPartCode K n) := by
    intro n
    induction n with
    | zero => exact ⟨_, _, FnOk.zero spPartCode_zero, b_law_part_code, D_law_part_code.kp, G__law_part_code⟩
    | succ n c_law_part_code =>
      have z : Cal PySem.Challenge.pw_leaps_k19_whole_listings_read w K mg base (0 + 1 * n + 0 + 1) "_law_part_code" ["_law_part_here"] (spPartCode K (n + 1)) := ⟨_, _, ok_law_part_code (k := 0 + 1 * n + 0) D_law_part_code (c_law_part_code.mono (by omega)) (fun vs H Q E h => by obtain ⟨_, _, rfl, _⟩ := h; rfl) rd_part_code, b_law_part_code, D_law_part_code.kp, G__law_part_code⟩
      exact z.mono (by omega)
  have c_law_part_code : Cal PySem.Challenge.pw_leaps_k19_whole_listings_read w K mg base (6) "_law_part_code" ["_law_part_here"] (spPartCode K 6) := r_law_part_code 6
  have c_law_plain_code : Cal PySem.Challenge.pw_leaps_k19_whole_listings_read w K mg base 7 "_law_plain_code" ["_law_one", "_law_turn"] (spPlainCode (K := K)) := ⟨_, _, ok_law_plain_code (k := 6) D_law_plain_code (c_law_part_code.mono (by decide)) B_len (fun vs H Q E h => by obtain ⟨_, _, _, _, _, _, _, rfl, _⟩ := h; rfl) rd_plain_code, b_law_plain_code, D_law_plain_code.kp, G__law_plain_code⟩
  have r_law_code : ∀ n, Cal PySem.Challenge.pw_leaps_k19_whole_listings_read w K mg base (7 + 2 * n) "_law_code" ["_law_one", "_law_base", "_law_depth", "_law_turn"] (spCode (K := K) n) := by
    intro n
    induction n with
    | zero => exact ⟨_, _, FnOk.zero spCode_zero, b_law_code, D_law_code.kp, G__law_code⟩
    | succ n c_law_code =>
      have c_law_loop_code : Cal PySem.Challenge.pw_leaps_k19_whole_listings_read w K mg base (7 + 2 * n + 0 + 1) "_law_loop_code" ["_law_one", "_law_base", "_law_depth"] (spLoopCode (K := K) n) := ⟨_, _, ok_law_loop_code (k := 7 + 2 * n + 0) D_law_loop_code (c_law_part_code.mono (by omega)) B_len (c_law_code.mono (by omega)) B_int (fun vs H Q E h => by obtain ⟨_, _, _, _, _, _, rfl, _⟩ := h; rfl) rd_loop_code, b_law_loop_code, D_law_loop_code.kp, G__law_loop_code⟩
      have c_law_try_code : Cal PySem.Challenge.pw_leaps_k19_whole_listings_read w K mg base (7 + 2 * n + 0 + 1) "_law_try_code" ["_law_one", "_law_base", "_law_depth", "_law_turn"] (spTryCode (K := K) n) := ⟨_, _, ok_law_try_code (k := 7 + 2 * n + 0) D_law_try_code (c_law_code.mono (by omega)) B_len B_int (fun vs H Q E h => by obtain ⟨_, _, _, _, _, _, _, rfl, _⟩ := h; rfl) rd_try_code, b_law_try_code, D_law_try_code.kp, G__law_try_code⟩
      have c_law_if_code : Cal PySem.Challenge.pw_leaps_k19_whole_listings_read w K mg base (7 + 2 * n + 0 + 1) "_law_if_code" ["_law_one", "_law_base", "_law_depth", "_law_turn"] (spIfCode (K := K) n) := ⟨_, _, ok_law_if_code (k := 7 + 2 * n + 0) D_law_if_code (c_law_part_code.mono (by omega)) (c_law_code.mono (by omega)) B_len (fun vs H Q E h => by obtain ⟨_, _, _, _, _, _, _, _, rfl, _⟩ := h; rfl) rd_if_code, b_law_if_code, D_law_if_code.kp, G__law_if_code⟩
      have c_law_clean_code : Cal PySem.Challenge.pw_leaps_k19_whole_listings_read w K mg base (7 + 2 * n + 0 + 1) "_law_clean_code" ["_law_one", "_law_base", "_law_depth", "_law_turn"] (spCleanCode (K := K) n) := ⟨_, _, ok_law_clean_code (k := 7 + 2 * n + 0) D_law_clean_code (c_law_code.mono (by omega)) B_len (fun vs H Q E h => by obtain ⟨_, _, _, _, _, _, _, rfl, _⟩ := h; rfl) rd_clean_code, b_law_clean_code, D_law_clean_code.kp, G__law_clean_code⟩
      have z : Cal PySem.Challenge.pw_leaps_k19_whole_listings_read w K mg base (7 + 2 * n + 1 + 1) "_law_code" ["_law_one", "_law_base", "_law_depth", "_law_turn"] (spCode (K := K) (n + 1)) := ⟨_, _, ok_law_code (k := 7 + 2 * n + 1) D_law_code (c_law_code.mono (by omega)) B_len (c_law_if_code.mono (by omega)) (c_law_loop_code.mono (by omega)) (c_law_try_code.mono (by omega)) (c_law_clean_code.mono (by omega)) (c_law_plain_code.mono (by omega)) (fun vs H Q E h => by obtain ⟨_, _, _, _, _, _, rfl, _⟩ := h; rfl) rd_code, b_law_code, D_law_code.kp, G__law_code⟩
      exact z.mono (by omega)
  have c_law_code : Cal PySem.Challenge.pw_leaps_k19_whole_listings_read w K mg base (17) "_law_code" ["_law_one", "_law_base", "_law_depth", "_law_turn"] (spCode (K := K) 5) := r_law_code 5
  have c_law_table : Cal PySem.Challenge.pw_leaps_k19_whole_listings_read w K mg base 1 "_law_table" ["_law_rows"] (spTable (K := K)) := ⟨_, _, ok_law_table (k := 0) D_law_table B_range B_len B_tuple (fun vs H Q E h => by obtain ⟨_, _, rfl, _⟩ := h; rfl) rd_table, b_law_table, D_law_table.kp, G__law_table⟩
  have c_law_coded : Cal PySem.Challenge.pw_leaps_k19_whole_listings_read w K mg base 18 "_law_coded" ["_law_program_here"] (spCodedL (K := K) 5) := ⟨_, _, ok_law_coded (k := 17) D_law_coded B_tuple (c_law_code.mono (by decide)) (c_law_table.mono (by decide)) (fun vs H Q E h => by obtain ⟨_, _, rfl, _⟩ := h; rfl) rd_law_coded, b_law_coded, D_law_coded.kp, G__law_coded⟩
  have c_law_word : Cal PySem.Challenge.pw_leaps_k19_whole_listings_read w K mg base 1 "_law_word" ["_law_part_here"] (KL.spWord K) := ⟨_, _, ok_law_word (k := 0) D_law_word B_str (fun vs H Q E h => by obtain ⟨_, _, rfl, _⟩ := h; rfl) KL.rd_law_word, b_law_word, D_law_word.kp, G__law_word⟩
  have c_law_listed : Cal PySem.Challenge.pw_leaps_k19_whole_listings_read w K mg base 2 "_law_listed" ["_law_code_here"] (spListG K) := ⟨_, _, ok_law_listed (k := 1) D_law_listed B_str (c_law_word.mono (by decide)) (fun vs H Q E h => by obtain ⟨_, _, rfl, _⟩ := h; rfl) rd_law_listedG, b_law_listed, D_law_listed.kp, G__law_listed⟩
  have c_law_words : Cal PySem.Challenge.pw_leaps_k19_whole_listings_read w K mg base 1 "_law_words" [] (spWords K) := ⟨_, _, ok_law_words (k := 0) D_law_words  (fun vs H Q E h => by obtain ⟨rfl, _⟩ := h; rfl) rd_law_words, b_law_words, D_law_words.kp, G__law_words⟩
  have c_law_free_rows : Cal PySem.Challenge.pw_leaps_k19_whole_listings_read w K mg base 2 "_law_free_rows" ["_law_box", "_law_most"] (spFree K) := ⟨_, _, ok_law_free_rows (k := 1) D_law_free_rows (c_law_words.mono (by decide)) B_sorted B_range (c_law_take.mono (by decide)) B_len B_tuple (fun vs H Q E h => by obtain ⟨_, _, _, rfl, _⟩ := h; rfl) rd_law_free_rows, b_law_free_rows, D_law_free_rows.kp, G__law_free_rows⟩
  have c_law_spoilt : Cal PySem.Challenge.pw_leaps_k19_whole_listings_read w K mg base 2 "_law_spoilt" ["_law_box", "_law_line_here"] (spSpo K) := ⟨_, _, ok_law_spoilt (k := 1) D_law_spoilt (c_law_take.mono (by decide)) B_len B_range B_list B_reversed (fun vs H Q E h => by obtain ⟨_, _, rfl, _⟩ := h; rfl) rd_law_spoilt, b_law_spoilt, D_law_spoilt.kp, G__law_spoilt⟩
  have c_law_good_number : Cal PySem.Challenge.pw_leaps_k19_whole_listings_read w K mg base 1 "_law_good_number" ["_law_part_here"] spGNum := ⟨_, _, ok_law_good_number (k := 0) D_law_good_number B_isinstance B_int B_bool (fun vs H Q E h => by obtain ⟨_, rfl, _⟩ := h; rfl) rd_law_good_number, b_law_good_number, D_law_good_number.kp, G__law_good_number⟩
  have c_law_good_row : Cal PySem.Challenge.pw_leaps_k19_whole_listings_read w K mg base 2 "_law_good_row" ["_law_row"] (spGRow K) := ⟨_, _, ok_law_good_row (k := 1) D_law_good_row (c_law_words.mono (by decide)) B_isinstance B_tuple B_len B_str B_range (c_law_good_number.mono (by decide)) (fun vs H Q E h => by obtain ⟨_, _, rfl, _⟩ := h; rfl) rd_law_good_row, b_law_good_row, D_law_good_row.kp, G__law_good_row⟩
  have c_law_good_code : Cal PySem.Challenge.pw_leaps_k19_whole_listings_read w K mg base 6 "_law_good_code" ["_law_code_here"] (spGCode K) := ⟨_, _, ok_law_good_code (k := 5) D_law_good_code B_isinstance B_tuple B_len (c_law_good_number.mono (by decide)) (c_law_good_row.mono (by decide)) (c_law_alike.mono (by decide)) (c_law_table.mono (by decide)) (fun vs H Q E h => by obtain ⟨_, _, rfl, _⟩ := h; rfl) rd_law_good_code, b_law_good_code, D_law_good_code.kp, G__law_good_code⟩
  have c_law_line : Cal PySem.Challenge.pw_leaps_k19_whole_listings_read w K mg base 19 "_law_line" ["_law_box"] (spLine19 K) := ⟨_, _, ok_law_line (k := 18) D_law_line (c_law_take.mono (by decide)) (c_law_free_rows.mono (by decide)) (c_law_listed.mono (by decide)) (c_law_table.mono (by decide)) (c_law_coded.mono (by decide)) (c_law_program.mono (by decide)) (c_law_spoilt.mono (by decide)) (fun vs H Q E h => by obtain ⟨_, _, rfl, _⟩ := h; rfl) rd_law_line, b_law_line, D_law_line.kp, G__law_line⟩
  obtain ⟨cx1, cxr⟩ := Bool.and_eq_true_iff.mp cex
  obtain ⟨cx2, cxr⟩ := Bool.and_eq_true_iff.mp cxr
  obtain ⟨cx3, cxr⟩ := Bool.and_eq_true_iff.mp cxr
  obtain ⟨cx4, cxr⟩ := Bool.and_eq_true_iff.mp cxr
  obtain ⟨cx5, cx6⟩ := Bool.and_eq_true_iff.mp cxr
  have T_ref : RefK K (He.ga K "Unread") (He.ga K "LeapError") (He.ga K "Stray") (He.ga K "Unknown") (He.ga K "Uneven") := ⟨M_Unread_LeapError, M_Unread_Unread, excB_ok cx1, kitB_ok cx2, kitT_ok cx3, kitB_ok cx4, kitB_ok cx5, kitB_ok cx6⟩
  have c_law_refused : Cal PySem.Challenge.pw_leaps_k19_whole_listings_read w K mg base 6 "_law_refused" ["_law_line_here"] (spRef K) := ⟨_, _, ok_law_refused (k := 5) D_law_refused G_LeapError (c_read_listing.mono (by decide)) B_isinstance G_Unread B_ValueError G_Stray G_Unknown G_Uneven (fun vs H Q E h => by obtain ⟨_, rfl, _⟩ := h; rfl) (rd_law_refused T_ref), b_law_refused, D_law_refused.kp, G__law_refused⟩
  exact ok_law (k := 19) D_law B_list (c_law_line.mono (by decide)) G_Unread (c_read_listing.mono (by decide)) (c_law_refused.mono (by decide)) (c_law_good_code.mono (by decide)) (c_law_listed.mono (by decide)) (fun vs H Q E h => by obtain ⟨_, _, rfl, _⟩ := h; rfl) (rd_law T_ref)
end Lr
open PySem PySem.W PySem.Calls PyProof.Rows
set_option maxRecDepth 100000 in
set_option maxHeartbeats 0 in
theorem PySem.Challenge.cw_leaps_k19_whole_listings_read_holds : PySem.Challenge.rw_leaps_k19_whole_listings_read.Holds := by
  w_on; o_law
  refine HandSHeadRun.head_any (r := OpenLaw.row PySem.Challenge.rw_leaps_k19_whole_listings_read) (q := view (OpenLaw.row PySem.Challenge.rw_leaps_k19_whole_listings_read).prog [47]) (H := Lr.hk) (ob := Lr.ob) (M := 4000) (loose := Lr.loose) (d := HandSHeadRun.topDef (OpenLaw.row PySem.Challenge.rw_leaps_k19_whole_listings_read).prog 47) (kwd := []) Lr.ob_eq
    (by kernel_rfl) (fun s => by kernel_rfl) Lr.run (by kernel_rfl) (by kernel_rfl) (by kernel_rfl) (by rfl) (by first | assumption | decide +kernel) (by decide +kernel) ⟨rfl, rfl, rfl, rfl, rfl, by decide +kernel⟩ ?hw ?hc
  case hw => w_witness2
  case hc =>
    refine L2.walk_ofE (l := PySem.Challenge.rw_leaps_k19_whole_listings_read) (n := 63) (k := 20) (x := "_law_script") (CX := L2.CX0) rfl (by decide) (by kernel_rfl) ⟨rfl, by decide, by decide⟩ ?F (fun _ _ _ _ z => z)
    intro w mg fa h Y G hmg0
    obtain ⟨K, KX, c⟩ := Y
    have hmg : mg ("law" : PySem.Str) = some (.ref fa) := by
      have e : (HandSHeadRun.topDef (OpenLaw.row PySem.Challenge.rw_leaps_k19_whole_listings_read).prog 47).name = ("law" : PySem.Str) := by kernel_rfl
      rw [← e]
      exact hmg0
    obtain ⟨fd, hb, hF⟩ := Lr.facts (w := w) KX G hmg c
    exact ⟨K, fd, Lr.spLaw K, KX, hb, fun H a ns hl _ hS => ⟨a, ns, rfl, hS, hl, fun _ => rfl⟩, hF⟩
