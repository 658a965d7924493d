import PyProof.Rows.All
import Wide.All
import OpenK.AllK
import Wide.FinOn
import HandS.ForMost
import HandS.ForExc
import HandS.IsInst
import HandS.Flow
import HandS.Wide
import HandS.Style
import KE.KBits
import KE.BitLaws
import KE.KEqDict
import HandS.Iter
import HandS.SortRule
import HandS.ClsMeth
import HandS.ExcInit
import HandS.Defaults
import HandS.SortInts
import HandS.More
import HandS.WordsDict
import HandS.ExcIs
import HandS.ExcField
import HandS.ExcOwn
import KE.KExcIs
import HandS.Text
import HandS.Walk
import KE.IntTextLaws
import KE.KIntText
import KE.KxLen
import PyProof.FitsInt
import HandS.SuiteRaise
import HandS.TryOnly
import HandS.DictComp
import PySem.Challenge.RW_staywalk_k63_texts_that_are_no_token
set_option Elab.async false
set_option linter.all false
set_option maxRecDepth 100000
set_option maxHeartbeats 4000000
/-! Z1: a small calculus over HandS: what a def may rely on is a list of cells that it owns (L) and a part that stays (B). -/
namespace Z
open PySem L2

abbrev Cell := Addr × HO
/-- B stays for ever, L is owned, both lie in H, apart -/
structure W (B : Hp) (L : List Cell) (H : Hp) : Prop where
  sub : Same B H
  has : ∀ c ∈ L, H c.1 = some c.2
  nd : (L.map (·.1)).Nodup
  out : ∀ c ∈ L, B c.1 = none
def Same' (A B : Hp) : Prop := Same A B
theorem szl {n : Nat} (h : n ≤ 100000) : n ≤ sizeLine := Nat.le_trans h (by decide)
theorem szlt {n : Nat} (h : n < 100000) : n < sizeLine := Nat.lt_of_lt_of_le h (by decide)
theorem same_refl (H : Hp) : Same H H := fun _ _ e => e
theorem same_trans {A B C : Hp} (x : Same A B) (y : Same B C) : Same A C := fun b o e => y b o (x b o e)
theorem same_new {B : Hp} {p : Addr} {o : HO} (h : B p = none) : Same B (upd B p o) := fun b u e => by
  rw [upd_ne (ne_of_none e h)]
  exact e
theorem Same.tq {K : PySem.W.Frag} {H H' : Hp} {a : Addr} {xs : List V} (e : Same H H') (h : SqT K H a xs) : SqT K H' a xs := by
  rcases h with (h | ⟨o, h⟩) | h
  · exact .inl (.inl (e _ _ h))
  · exact .inl (.inr ⟨o, e _ _ h⟩)
  · exact .inr h
theorem Same.rd {A B : Hp} {a : Addr} {o : HO} (s : Same A B) (h : A a = some o) : B a = some o := s _ _ h
theorem Same.sq {K : PySem.W.Frag} {H H' : Hp} {a : Addr} {xs : List V} (e : Same H H') (h : SqL K H a xs) : SqL K H' a xs := L2.Same.seq e h
namespace W
variable {B B' H : Hp} {L L' R : List Cell} {a p : Addr} {o o' : HO}
theorem perm (w : W B L H) (h : L.Perm L') : W B L' H :=
  ⟨w.sub, fun c hc => w.has c (h.mem_iff.mpr hc), (h.map _).nodup_iff.mp w.nd, fun c hc => w.out c (h.mem_iff.mpr hc)⟩
theorem get (w : W B L H) (h : (a, o) ∈ L) : H a = some o := w.has _ h
theorem freeB (w : W B L H) (h : H p = none) : B p = none := by
  cases e : B p with
  | none => rfl
  | some u => rw [w.sub _ _ e] at h; cases h
theorem freeL (w : W B L H) (h : H p = none) : p ∉ L.map (·.1) := fun m => by
  obtain ⟨c, hc, rfl⟩ := List.mem_map.mp m
  rw [w.has c hc] at h
  cases h
/-- a new thing that stays -/
theorem newB (w : W B L H) (h : H p = none) (o : HO) : W (upd B p o) L (upd H p o) := by
  refine ⟨fun b u e => ?_, fun c hc => ?_, w.nd, fun c hc => ?_⟩
  · by_cases q : b = p
    · subst q; rw [upd_same] at e ⊢; exact e
    · rw [upd_ne q] at e ⊢; exact w.sub _ _ e
  · have q : c.1 ≠ p := fun q => w.freeL h (List.mem_map.mpr ⟨c, hc, q⟩)
    rw [upd_ne q]; exact w.has c hc
  · have q : c.1 ≠ p := fun q => w.freeL h (List.mem_map.mpr ⟨c, hc, q⟩)
    rw [upd_ne q]; exact w.out c hc
/-- a new thing that is owned -/
theorem newL (w : W B L H) (h : H p = none) (o : HO) : W B ((p, o) :: L) (upd H p o) := by
  refine ⟨fun b u e => ?_, fun c hc => ?_, ?_, fun c hc => ?_⟩
  · rw [upd_ne (ne_of_none e (w.freeB h))]; exact w.sub _ _ e
  · rcases List.mem_cons.mp hc with rfl | hc
    · exact upd_same
    · have q : c.1 ≠ p := fun q => w.freeL h (List.mem_map.mpr ⟨c, hc, q⟩)
      rw [upd_ne q]; exact w.has c hc
  · exact List.nodup_cons.mpr ⟨w.freeL h, w.nd⟩
  · rcases List.mem_cons.mp hc with rfl | hc
    · exact w.freeB h
    · exact w.out c hc
/-- an owned thing stays from now on -/
theorem give (w : W B ((p, o) :: L) H) : W (upd B p o) L H := by
  have n := List.nodup_cons.mp w.nd
  refine ⟨fun b u e => ?_, fun c hc => w.has c (List.mem_cons_of_mem _ hc), n.2, fun c hc => ?_⟩
  · by_cases q : b = p
    · subst q; rw [upd_same] at e; cases e; exact w.has _ (List.mem_cons_self ..)
    · rw [upd_ne q] at e; exact w.sub _ _ e
  · have q : c.1 ≠ p := fun q => n.1 (List.mem_map.mpr ⟨c, hc, q⟩)
    rw [upd_ne q]; exact w.out c (List.mem_cons_of_mem _ hc)
/-- owned things stay from now on -/
theorem giveAll : ∀ {A : List Cell} {B : Hp}, W B (A ++ L) H → ∃ B', Same B B' ∧ (∀ c ∈ A, B' c.1 = some c.2) ∧ W B' L H
  | [], B, w => ⟨B, same_refl B, fun c h => (nomatch h), w⟩
  | (p, o) :: A, B, w => by
    have h0 := w.out (p, o) (List.mem_cons_self ..)
    obtain ⟨B', s, h, w'⟩ := giveAll (A := A) w.give
    refine ⟨B', same_trans (same_new h0) s, fun c hc => ?_, w'⟩
    rcases List.mem_cons.mp hc with rfl | hc
    · exact s _ _ upd_same
    · exact h c hc
theorem drop (w : W B (L ++ R) H) : W B R H :=
  ⟨w.sub, fun c hc => w.has c (List.mem_append_right _ hc), by have n := w.nd; rw [List.map_append] at n; exact (List.nodup_append.mp n).2.1, fun c hc => w.out c (List.mem_append_right _ hc)⟩
theorem drop1 (w : W B ((p, o) :: L) H) : W B L H := W.drop (L := [(p, o)]) w
theorem outB (w : W B L H) (h : (a, o) ∈ L) : B a = none := w.out _ h
/-- an owned thing is written -/
theorem put (w : W B (L ++ (a, o) :: R) H) (o' : HO) : W B (L ++ (a, o') :: R) (upd H a o') := by
  have n := w.nd
  rw [List.map_append, List.map_cons] at n
  have n1 := List.nodup_append.mp n
  have n2 := List.nodup_cons.mp n1.2.1
  have ha : ∀ c ∈ L ++ R, c.1 ≠ a := fun c hc q => by
    rcases List.mem_append.mp hc with hc | hc
    · exact n1.2.2 _ (List.mem_map.mpr ⟨c, hc, rfl⟩) _ (List.mem_cons_self ..) q
    · exact n2.1 (List.mem_map.mpr ⟨c, hc, q⟩)
  have hm : ∀ c ∈ L ++ (a, o') :: R, c = (a, o') ∨ c ∈ L ++ R := fun c hc => by
    rcases List.mem_append.mp hc with hc | hc
    · exact .inr (List.mem_append_left _ hc)
    · rcases List.mem_cons.mp hc with hc | hc
      · exact .inl hc
      · exact .inr (List.mem_append_right _ hc)
  have hi : ∀ c ∈ L ++ R, c ∈ L ++ (a, o) :: R := fun c hc => by
    rcases List.mem_append.mp hc with hc | hc
    · exact List.mem_append_left _ hc
    · exact List.mem_append_right _ (List.mem_cons_of_mem _ hc)
  have h0 : B a = none := w.out (a, o) (List.mem_append_right _ (List.mem_cons_self ..))
  refine ⟨fun b u e => ?_, fun c hc => ?_, ?_, fun c hc => ?_⟩
  · rw [upd_ne (ne_of_none e h0)]; exact w.sub _ _ e
  · rcases hm c hc with rfl | hc
    · exact upd_same
    · rw [upd_ne (ha c hc)]; exact w.has c (hi c hc)
  · rw [List.map_append, List.map_cons]; exact n
  · rcases hm c hc with rfl | hc
    · exact h0
    · exact w.out c (hi c hc)
theorem put0 (w : W B ((a, o) :: R) H) (o' : HO) : W B ((a, o') :: R) (upd H a o') := put (L := []) w o'
theorem put1 {c1 : Cell} (w : W B (c1 :: (a, o) :: R) H) (o' : HO) : W B (c1 :: (a, o') :: R) (upd H a o') := put (L := [c1]) w o'
theorem put2 {c1 c2 : Cell} (w : W B (c1 :: c2 :: (a, o) :: R) H) (o' : HO) : W B (c1 :: c2 :: (a, o') :: R) (upd H a o') := put (L := [c1, c2]) w o'
theorem put3 {c1 c2 c3 : Cell} (w : W B (c1 :: c2 :: c3 :: (a, o) :: R) H) (o' : HO) : W B (c1 :: c2 :: c3 :: (a, o') :: R) (upd H a o') := put (L := [c1, c2, c3]) w o'
theorem seq {K : PySem.W.Frag} {xs : List V} (w : W B L H) (h : SqL K B a xs) : SqL K H a xs := Same.seq w.sub h
theorem rd (w : W B L H) (h : B a = some o) : H a = some o := w.sub _ _ h
theorem sq {K : PySem.W.Frag} {xs : List V} (w : W B L H) (h : SqL K B a xs) : SqL K H a xs := L2.Same.seq w.sub h
theorem tq {K : PySem.W.Frag} {xs : List V} (w : W B L H) (h : SqT K B a xs) : SqT K H a xs := Z.Same.tq w.sub h
theorem law {K : PySem.W.Frag} {a : Addr} {xs : List V} (h : SqL K H a xs) : ∃ B, SqL K B a xs ∧ W B [] H := ⟨H, h, ⟨same_refl H, by simp, by simp, by simp⟩⟩
theorem nil (H : Hp) : W H [] H := ⟨same_refl H, by simp, by simp, by simp⟩
end W
/-! ### readings, step by step -/
def Br (b : Bool) (A C : Prop) : Prop := if b = true then A else C
def rTst (x : V) (H : Hp) (Q : Bool → Hp → Prop) : Prop := ∃ k, x = .bl k ∧ Q k H
section
variable {K : PySem.W.Frag} {σ : L2.St} {H : Hp} {D : Ends} {t u tb : TS} {te ta tx tc : TE} {tt tu tw : TT} {Q : VK} {R : Bool → Hp → Prop} {v x y : V} {b : Bool} {A C : Prop} {i : Nat} {g : TG} {r r' : R2}
theorem g_seq (h : t { D with nx := u D } σ H) : tSeq t u D σ H := h
theorem g_next (h : D.nx σ H) : tNext D σ H := h
theorem g_brk (h : D.bk σ H) : tBreak D σ H := h
theorem g_cont (h : D.ct σ H) : tCont D σ H := h
theorem g_asg (h : te σ H fun x H1 => g x σ H1 D.nx) : tAsg te g D σ H := h
theorem g_name {Q : L2.St → Hp → Prop} (h : Q (σ.set i (some v)) H) : gName i v σ H Q := h
theorem g_dropE (h : te σ H fun _ H1 => D.nx σ H1) : tDrop te D σ H := h
theorem g_ret (h : te σ H D.rt) : tRet te D σ H := h
theorem g_retN (h : D.rt .non H) : tRetN D σ H := h
theorem g_ifS (h : tt σ H fun b H1 => Br b (t D σ H1) (u D σ H1)) : tIfS tt t u D σ H := h
theorem g_ifJ (J : L2.St → Hp → Prop) (hJ : ∀ σ' H', J σ' H' → D.nx σ' H') (h : ∀ N : L2.St → Hp → Prop, (∀ σ' H', J σ' H' → N σ' H') → tt σ H fun b H1 => Br b (t { D with nx := N } σ H1) (u { D with nx := N } σ H1)) : tIfS tt t u D σ H := h D.nx hJ
theorem g_test (h : te σ H fun x H1 => rTst x H1 R) : tTest te σ H R := h
theorem g_tB (h : te σ H fun x H1 => rTst x H1 R) : tB te σ H R := h
theorem g_tst (h : R b H) : rTst (.bl b) H R := ⟨b, rfl, h⟩
theorem g_and (h : tt σ H fun b H1 => Br b (tu σ H1 R) (R false H1)) : tAnd tt tu σ H R := h
theorem g_or (h : tt σ H fun b H1 => Br b (R true H1) (tu σ H1 R)) : tOr tt tu σ H R := h
theorem g_not (h : tt σ H fun b H1 => R (!b) H1) : tNot tt σ H R := h
theorem g_andV (h : te σ H fun x H1 => rTst x H1 fun b H1 => Br b (tx σ H1 Q) (Q (.bl false) H1)) : tAndV te tx σ H Q := h
theorem g_orV (h : te σ H fun x H1 => rTst x H1 fun b H1 => Br b (Q (.bl true) H1) (tx σ H1 Q)) : tOrV te tx σ H Q := h
theorem g_notV (h : te σ H fun x H1 => rTst x H1 fun b H1 => Q (.bl (!b)) H1) : tNotV te σ H Q := h
theorem g_if (h : tt σ H fun b H1 => Br b (te σ H1 Q) (tx σ H1 Q)) : tIf tt te tx σ H Q := h
theorem g_yes (h : R true H) : tYes σ H R := h
theorem g_var (e : σ[i]? = some (some v)) (h : Q v H) : tVar i σ H Q := ⟨v, e, h⟩
theorem g_c (h : Q v H) : tC v σ H Q := h
theorem g_op (h : ta σ H fun x H1 => tx σ H1 fun y H2 => r x y H2 Q) : tOp r ta tx σ H Q := h
theorem g_un {r : V → Hp → VK → Prop} (h : ta σ H fun x H1 => r x H1 Q) : tUn r ta σ H Q := h
theorem g_chain (h : ta σ H fun x H1 => tx σ H1 fun y H2 => r x y H2 fun z H3 => rTst z H3 fun k H4 => Br k (tc σ H4 fun w' H4 => r' y w' H4 Q) (Q (.bl false) H4)) : tChain r r' ta tx tc σ H Q := h
theorem g_cb {r : List V → Hp → VK → Prop} {t : TA} (h : t σ H fun vs H1 => r vs H1 Q) : tCB r t σ H Q := h
theorem g_nil {Q : List V → Hp → Prop} (h : Q [] H) : tNil σ H Q := h
theorem g_cons {tr : TA} {Q : List V → Hp → Prop} (h : te σ H fun x H1 => tr σ H1 fun xs H2 => Q (x :: xs) H2) : tCons te tr σ H Q := h
theorem g_call {sp : Sp} {dvs : List V} {E : XK} {t : TA} (h : t σ H fun vs H1 => sp (vs ++ dvs) H1 Q E) : tCall sp dvs E t σ H Q := h
theorem g_aug {ti : TIp} (e : σ[i]? = some (some v)) (h : te σ H fun y H1 => ti v y H1 fun z H2 => D.nx (σ.set i (some z)) H2) : tAug i te ti D σ H := ⟨v, e, h⟩
theorem g_ip {f : Int → Int → Int} {m n : Int} (h : Q (.int (f m n)) H) : ipI f (.int m) (.int n) H Q := ⟨m, n, rfl, rfl, h⟩
theorem r_I {Cc : Int → Int → Prop} {gg : Int → Int → V} {m n : Int} (c : Cc m n) (h : Q (gg m n) H) : rI Cc gg (.int m) (.int n) H Q := ⟨m, n, rfl, rfl, c, h⟩
theorem r_I0 {gg : Int → Int → V} {m n : Int} (h : Q (gg m n) H) : rI0 gg (.int m) (.int n) H Q := ⟨m, n, rfl, rfl, h⟩
theorem r_U {gg : Int → V} {m : Int} (h : Q (gg m) H) : rU gg (.int m) H Q := ⟨m, rfl, h⟩
theorem dec_ii {m n : Int} : decide (V.int m = V.int n) = decide (m = n) := by simp
theorem dec_bb {m n : Bool} : decide (V.bl m = V.bl n) = decide (m = n) := by simp
theorem dec_ss {m n : Str} : decide (V.str m = V.str n) = decide (m = n) := by simp
theorem r_eqI {m n : Int} (h : Q (.bl (decide (m = n))) H) : rEq (.int m) (.int n) H Q := ⟨rfl, by rw [dec_ii]; exact h⟩
theorem r_neI {m n : Int} (h : Q (.bl (!decide (m = n))) H) : rNe (.int m) (.int n) H Q := ⟨rfl, by rw [dec_ii]; exact h⟩
theorem r_eqB {m n : Bool} (h : Q (.bl (decide (m = n))) H) : rEq (.bl m) (.bl n) H Q := ⟨rfl, by rw [dec_bb]; exact h⟩
theorem r_neB {m n : Bool} (h : Q (.bl (!decide (m = n))) H) : rNe (.bl m) (.bl n) H Q := ⟨rfl, by rw [dec_bb]; exact h⟩
theorem r_eqS {m n : Str} (h : Q (.bl (decide (m = n))) H) : rEq (.str m) (.str n) H Q := ⟨rfl, by rw [dec_ss]; exact h⟩
theorem r_neS {m n : Str} (h : Q (.bl (!decide (m = n))) H) : rNe (.str m) (.str n) H Q := ⟨rfl, by rw [dec_ss]; exact h⟩
def rTupN (Q : VK) (xs : List V) (H1 : Hp) : Prop := xs.length ≤ sizeLine ∧ ∀ p, H1 p = none → Q (.ref p) (upd H1 p (.tup xs))
def rLstN (Q : VK) (xs : List V) (H1 : Hp) : Prop := xs.length ≤ sizeLine ∧ ∀ p, H1 p = none → Q (.ref p) (upd H1 p (.lst xs))
theorem r_isB {m n : Bool} (h : Q (.bl (decide (m = n))) H) : rIsB (.bl m) (.bl n) H Q := ⟨m, n, rfl, rfl, h⟩
theorem r_notB {m n : Bool} (h : Q (.bl (!decide (m = n))) H) : rNotB (.bl m) (.bl n) H Q := ⟨m, n, rfl, rfl, h⟩
theorem r_tup {ta : TA} (h : ta σ H (rTupN Q)) : tTup ta σ H Q := h
theorem r_lst {ta : TA} (h : ta σ H (rLstN Q)) : tLst ta σ H Q := h
/-! new things that stay -/
section
variable {B : Hp} {L : List Cell} {xs ys : List V}
theorem d_tup (w : W B L H) (hl : xs.length ≤ sizeLine) (q : ∀ p B' H', H p = none → Same B B' → B' p = some (.tup xs) → W B' L H' → Q (.ref p) H') : rTupN Q xs H :=
  ⟨hl, fun p hp => q p _ _ hp (same_new (w.freeB hp)) upd_same (w.newB hp _)⟩
theorem d_lst (w : W B L H) (hl : xs.length ≤ sizeLine) (q : ∀ p B' H', H p = none → Same B B' → B' p = some (.lst xs) → W B' L H' → Q (.ref p) H') : rLstN Q xs H :=
  ⟨hl, fun p hp => q p _ _ hp (same_new (w.freeB hp)) upd_same (w.newB hp _)⟩
theorem d_dnew (w : W B L H) (q : ∀ p B' H', H p = none → Same B B' → B' p = some (.dK []) → W B' L H' → Q (.ref p) H') : tDNewK σ H Q :=
  fun p hp => q p _ _ hp (same_new (w.freeB hp)) upd_same (w.newB hp _)
theorem d_cat {a b : Addr} (w : W B L H) (h1 : H a = some (.lst xs)) (h2 : H b = some (.lst ys)) (hl : xs.length + ys.length ≤ sizeLine)
    (q : ∀ p B' H', H p = none → Same B B' → B' p = some (.lst (xs ++ ys)) → W B' L H' → Q (.ref p) H') : rCat (.ref a) (.ref b) H Q :=
  ⟨a, b, xs, ys, rfl, rfl, h1, h2, hl, fun p hp => q p _ _ hp (same_new (w.freeB hp)) upd_same (w.newB hp _)⟩
theorem d_slL {a : Addr} {lo hi : Option Int} (w : W B L H) (h : SqL K H a xs) (q : ∀ p B' H', H p = none → Same B B' → B' p = some (.lst (cutV xs lo hi)) → W B' L H' → Q (.ref p) H') : rSlL K (.ref a) lo hi H Q :=
  ⟨a, xs, rfl, h, fun p hp => q p _ _ hp (same_new (w.freeB hp)) upd_same (w.newB hp _)⟩
/-! new things that are owned -/
theorem o_lst (w : W B L H) (hl : xs.length ≤ sizeLine) (q : ∀ p H', H p = none → W B ((p, .lst xs) :: L) H' → Q (.ref p) H') : rLstN Q xs H :=
  ⟨hl, fun p hp => q p _ hp (w.newL hp _)⟩
theorem o_dnew (w : W B L H) (q : ∀ p H', H p = none → W B ((p, .dK []) :: L) H' → Q (.ref p) H') : tDNewK σ H Q :=
  fun p hp => q p _ hp (w.newL hp _)
end
section
variable {r1 r2 r3 r4 : R2} {t1 t2 t3 t4 t5 : TE}
end
/-! branches -/
theorem br {p : Prop} [Decidable p] (h1 : p → A) (h2 : ¬ p → C) : Br (decide p) A C := by
  unfold Br
  by_cases h : p
  · rw [if_pos (decide_eq_true h)]; exact h1 h
  · rw [if_neg (by simp [h])]; exact h2 h
theorem brN {p : Prop} [Decidable p] (h1 : ¬ p → A) (h2 : p → C) : Br (!decide p) A C := by
  unfold Br
  by_cases h : p
  · rw [if_neg (by simp [h])]; exact h2 h
  · rw [if_pos (by simp [h])]; exact h1 h
theorem br_pt {p : Prop} [Decidable p] (c : p) (h : A) : Br (decide p) A C := br (fun _ => h) fun n => (n c).elim
theorem br_pf {p : Prop} [Decidable p] (c : ¬ p) (h : C) : Br (decide p) A C := br (fun n => (c n).elim) fun _ => h
theorem br_nt {p : Prop} [Decidable p] (c : ¬ p) (h : A) : Br (!decide p) A C := brN (fun _ => h) fun n => (c n).elim
theorem br_nf {p : Prop} [Decidable p] (c : p) (h : C) : Br (!decide p) A C := brN (fun n => (n c).elim) fun _ => h
theorem brB (h1 : b = true → A) (h2 : b = false → C) : Br b A C := by
  unfold Br
  cases b
  · rw [if_neg (by simp)]; exact h2 rfl
  · rw [if_pos rfl]; exact h1 rfl
theorem brBN (h1 : b = false → A) (h2 : b = true → C) : Br (!b) A C := by
  cases b
  · exact brB (fun _ => h1 rfl) (fun z => nomatch z)
  · exact brB (fun z => nomatch z) (fun _ => h2 rfl)
theorem brT (h : A) : Br true A C := by unfold Br; rw [if_pos rfl]; exact h
theorem brF (h : C) : Br false A C := by unfold Br; rw [if_neg (by simp)]; exact h
theorem br_rn {p : Addr} (h : C) : Br (decide (V.ref p = V.non)) A C := br_pf nofun h
theorem br_in {n : Int} (h : C) : Br (decide (V.int n = V.non)) A C := br_pf nofun h
theorem br_sn {n : Str} (h : C) : Br (decide (V.str n = V.non)) A C := br_pf nofun h
theorem br_nn (h : A) : Br (decide (V.non = V.non)) A C := br_pt rfl h
theorem brN_rn {p : Addr} (h : A) : Br (!decide (V.ref p = V.non)) A C := br_nt nofun h
theorem brN_in {n : Int} (h : A) : Br (!decide (V.int n = V.non)) A C := br_nt nofun h
theorem brN_sn {n : Str} (h : A) : Br (!decide (V.str n = V.non)) A C := br_nt nofun h
theorem brN_nn (h : C) : Br (!decide (V.non = V.non)) A C := br_nf rfl h
theorem brNT (h : C) : Br (!true) A C := brF h
theorem brNF (h : A) : Br (!false) A C := brT h
theorem br_t (e : b = true) (h : A) : Br b A C := by rw [e]; exact brT h
theorem br_f (e : b = false) (h : C) : Br b A C := by rw [e]; exact brF h
end
/-! ### loops, by the turn -/
def FOR (J : It) (g : TG) (tb : TS) (D : Ends) (σ : L2.St) (H1 : Hp) : Prop := ∃ W : Nat → Nat → L2.St → Hp → Prop, (∃ m, W 0 m σ H1) ∧ ∀ i m σ H, W i m σ H →
  (J.stop i H ∧ D.nx σ H) ∨ (J.go i H ∧ ∃ N : L2.St → Hp → Prop, (∀ σ' H', N σ' H' → ∃ m', m' < m ∧ W (i + 1) m' σ' H') ∧ ∀ x H', J.yld i H x H' → g x σ H' fun σ2 H2 => tb { D with nx := N, ct := N, bk := D.nx } σ2 H2)
section
variable {K : PySem.W.Frag} {σ : L2.St} {H : Hp} {D : Ends} {tb : TS} {g : TG} {wi : TI} {R : It → Hp → Prop}
theorem g_for (h : wi σ H fun J H1 => FOR J g tb D σ H1) : tFor wi g tb D σ H := h
def rRng1 (R : It → Hp → Prop) (vs : List V) (H1 : Hp) : Prop := ∃ j : Int, vs = [.int j] ∧ -(2 ^ 62) ≤ j ∧ j < 2 ^ 62 ∧ R (Itr 0 j.toNat) H1
def rRng2 (R : It → Hp → Prop) (vs : List V) (H1 : Hp) : Prop := ∃ i j : Int, vs = [.int i, .int j] ∧ (-(2 ^ 62) ≤ i ∧ i < 2 ^ 62 ∧ -(2 ^ 62) ≤ j ∧ j < 2 ^ 62) ∧ R (Itr i (j - i).toNat) H1
def rIl (K : PySem.W.Frag) (R : It → Hp → Prop) (x : V) (H1 : Hp) : Prop := ∃ a, x = .ref a ∧ (∃ xs, SqL K H1 a xs) ∧ R (Itl K a) H1
def rIt (K : PySem.W.Frag) (R : It → Hp → Prop) (x : V) (H1 : Hp) : Prop := ∃ a, x = .ref a ∧ (∃ xs, SqT K H1 a xs) ∧ R (Itt K a) H1
theorem g_rng1 {ta : TA} (h : ta σ H (rRng1 R)) : iRng1 ta σ H R := h
theorem g_rng2 {ta : TA} (h : ta σ H (rRng2 R)) : iRng2 ta σ H R := h
theorem g_ilist {tl : TE} (h : tl σ H (rIl K R)) : iList K tl σ H R := h
theorem g_itup {tl : TE} (h : tl σ H (rIt K R)) : iTup K tl σ H R := h
theorem r_rng1 {m : Int} (h : -(2 ^ 62) ≤ m ∧ m < 2 ^ 62) (q : R (Itr 0 m.toNat) H) : rRng1 R [.int m] H := ⟨m, rfl, h.1, h.2, q⟩
theorem r_rng2 {i j : Int} (h : -(2 ^ 62) ≤ i ∧ i < 2 ^ 62 ∧ -(2 ^ 62) ≤ j ∧ j < 2 ^ 62) (q : R (Itr i (j - i).toNat) H) : rRng2 R [.int i, .int j] H := ⟨i, j, rfl, h, q⟩
theorem r_il {a : Addr} {xs : List V} (h : SqL K H a xs) (q : R (Itl K a) H) : rIl K R (.ref a) H := ⟨a, rfl, ⟨xs, h⟩, q⟩
theorem r_it {a : Addr} {xs : List V} (h : SqT K H a xs) (q : R (Itt K a) H) : rIt K R (.ref a) H := ⟨a, rfl, ⟨xs, h⟩, q⟩
/-- a loop over lo, lo + 1, .. -/
theorem FOR.range {lo : Int} {n : Nat} (Pv : Nat → L2.St → Hp → Prop) (h0 : Pv 0 σ H)
    (hs : ∀ i σ H, i < n → Pv i σ H → g (.int (lo + i)) σ H fun σ2 H2 => tb { D with nx := Pv (i + 1), ct := Pv (i + 1), bk := D.nx } σ2 H2) (hd : ∀ σ H, Pv n σ H → D.nx σ H) : FOR (Itr lo n) g tb D σ H :=
  for_range Pv h0 hs hd
theorem FOR.list {a : Addr} {xs : List V} (Pv : Nat → L2.St → Hp → Prop) (h0 : Pv 0 σ H) (hl : ∀ i σ H, i ≤ xs.length → Pv i σ H → SqL K H a xs)
    (hs : ∀ i x σ H, xs[i]? = some x → Pv i σ H → g x σ H fun σ2 H2 => tb { D with nx := Pv (i + 1), ct := Pv (i + 1), bk := D.nx } σ2 H2) (hd : ∀ σ H, Pv xs.length σ H → D.nx σ H) : FOR (Itl K a) g tb D σ H :=
  for_list Pv h0 hl hs hd
/-- .. both ways out (the end, a break) by one word J -/
theorem FOR.listJ {a : Addr} {xs : List V} (J : L2.St → Hp → Prop) (hJ : ∀ σ H, J σ H → D.nx σ H) (Pv : Nat → L2.St → Hp → Prop) (h0 : Pv 0 σ H) (hl : ∀ i σ H, i ≤ xs.length → Pv i σ H → SqL K H a xs)
    (hs : ∀ N : L2.St → Hp → Prop, (∀ σ' H', J σ' H' → N σ' H') → ∀ i x σ H, xs[i]? = some x → Pv i σ H → g x σ H fun σ2 H2 => tb { D with nx := Pv (i + 1), ct := Pv (i + 1), bk := N } σ2 H2) (hd : ∀ σ H, Pv xs.length σ H → J σ H) : FOR (Itl K a) g tb D σ H :=
  FOR.list (K := K) Pv h0 hl (hs D.nx hJ) fun σ H p => hJ _ _ (hd σ H p)
theorem FOR.tup {a : Addr} {xs : List V} (Pv : Nat → L2.St → Hp → Prop) (h0 : Pv 0 σ H) (hl : ∀ i σ H, i ≤ xs.length → Pv i σ H → SqT K H a xs)
    (hs : ∀ i x σ H, xs[i]? = some x → Pv i σ H → g x σ H fun σ2 H2 => tb { D with nx := Pv (i + 1), ct := Pv (i + 1), bk := D.nx } σ2 H2) (hd : ∀ σ H, Pv xs.length σ H → D.nx σ H) : FOR (Itt K a) g tb D σ H :=
  for_tup Pv h0 hl hs hd
end
def LC (J : It) (D : Addr) (g : TG) (tt : TT) (te : TE) (vs : List Nat) (σ : L2.St) (H1 : Hp) (Q : VK) : Prop := ∃ W : Nat → Nat → Hp → Prop, (∃ m, W 0 m (upd H1 D (.lst []))) ∧ ∀ i m H, W i m H →
  (J.stop i H ∧ Q (.ref D) H) ∨ (J.go i H ∧ ∃ Nx : Hp → Prop, (∀ H', Nx H' → ∃ m', m' < m ∧ W (i + 1) m' H') ∧ ∀ x H', J.yld i H x H' → g x (wipe σ vs) H' fun σ2 H2 => wipe σ2 vs = wipe σ vs ∧ tt σ2 H2 fun b H3 =>
    if b = true then te σ2 H3 fun y H4 => ∃ acc, H4 D = some (.lst acc) ∧ acc.length < sizeLine ∧ Nx (upd H4 D (.lst (acc ++ [y]))) else Nx H3)
/-- what an element's making asks: the items so far stand at D, one more comes -/
def rAcc (D : Addr) (Nx : Hp → Prop) (y : V) (H4 : Hp) : Prop := ∃ acc, H4 D = some (.lst acc) ∧ acc.length < sizeLine ∧ Nx (upd H4 D (.lst (acc ++ [y])))
theorem g_lc {wi : TI} {g : TG} {tt : TT} {te : TE} {vs : List Nat} {σ : L2.St} {H : Hp} {Q : VK} (h : wi σ H fun J H1 => ∀ D, H1 D = none → LC J D g tt te vs σ H1 Q) : tLc wi g tt te vs σ H Q := h
section
variable {K : PySem.W.Frag} {B H H1 : Hp} {L : List Cell} {D : Addr} {Q : VK} {g : TG} {tt : TT} {te : TE} {vs : List Nat} {σ : L2.St} {acc : List V} {y : V} {Nx : Hp → Prop}
theorem r_acc (w : W B ((D, .lst acc) :: L) H) (hl : acc.length < sizeLine) (h : ∀ H', W B ((D, .lst (acc ++ [y])) :: L) H' → Nx H') : rAcc D Nx y H :=
  ⟨acc, w.has _ (List.mem_cons_self ..), hl, h _ (w.put0 _)⟩
/-- a comprehension over a list of what stays: Pv i B acc, what the first i items have given -/
theorem LC.list {a : Addr} {xs : List V} (w : W B L H1) (hD : H1 D = none) (hx : SqL K B a xs) (hlen : xs.length < sizeLine) (Pv : Nat → Hp → List V → Prop) (h0 : Pv 0 B [])
    (hs : ∀ i x B' acc H (Nx : Hp → Prop), xs[i]? = some x → Same B B' → W B' ((D, .lst acc) :: L) H → Pv i B' acc → acc.length ≤ i → acc.length < sizeLine →
      (∀ B'' acc' H', Same B' B'' → W B'' ((D, .lst acc') :: L) H' → Pv (i + 1) B'' acc' → acc'.length ≤ i + 1 → Nx H') →
      g x (wipe σ vs) H fun σ2 H2 => wipe σ2 vs = wipe σ vs ∧ tt σ2 H2 fun b H3 => Br b (te σ2 H3 (rAcc D Nx)) (Nx H3))
    (hd : ∀ B' B'' acc H, Same B B'' → Same' B' B'' → B'' D = some (.lst acc) → W B'' L H → Pv xs.length B' acc → acc.length ≤ xs.length → Q (.ref D) H) : LC (Itl K a) D g tt te vs σ H1 Q := by
  refine lc_list (K := K) (a := a) (xs := xs) (fun i H => ∃ B' acc, Same B B' ∧ W B' ((D, .lst acc) :: L) H ∧ Pv i B' acc ∧ acc.length ≤ i) ⟨B, [], same_refl B, w.newL hD _, h0, Nat.le_refl _⟩
    (fun i H _ ⟨B', acc, s, w', _⟩ => Same.seq (same_trans s w'.sub) hx) ?_ (fun H ⟨B', acc, s, w', p, l⟩ => hd B' _ acc H (same_trans s (same_new (w'.out _ (List.mem_cons_self ..)))) (same_new (w'.out _ (List.mem_cons_self ..))) upd_same w'.give p l)
  rintro i x H hi ⟨B', acc, s, w', p, l⟩
  have hil := (List.getElem?_eq_some_iff.mp hi).1
  exact hs i x B' acc H _ hi s w' p l (by omega) fun B'' acc' H' s' w'' p' l' => ⟨B'', acc', same_trans s s', w'', p', l'⟩
theorem LC.range {lo : Int} {n : Nat} (w : W B L H1) (hD : H1 D = none) (hlen : n < sizeLine) (Pv : Nat → Hp → List V → Prop) (h0 : Pv 0 B [])
    (hs : ∀ (i : Nat) B' acc H (Nx : Hp → Prop), i < n → Same B B' → W B' ((D, .lst acc) :: L) H → Pv i B' acc → acc.length ≤ i → acc.length < sizeLine →
      (∀ B'' acc' H', Same B' B'' → W B'' ((D, .lst acc') :: L) H' → Pv (i + 1) B'' acc' → acc'.length ≤ i + 1 → Nx H') →
      g (.int (lo + i)) (wipe σ vs) H fun σ2 H2 => wipe σ2 vs = wipe σ vs ∧ tt σ2 H2 fun b H3 => Br b (te σ2 H3 (rAcc D Nx)) (Nx H3))
    (hd : ∀ B' B'' acc H, Same B B'' → Same' B' B'' → B'' D = some (.lst acc) → W B'' L H → Pv n B' acc → acc.length ≤ n → Q (.ref D) H) : LC (Itr lo n) D g tt te vs σ H1 Q := by
  refine lc_range (lo := lo) (n := n) (fun i H => ∃ B' acc, Same B B' ∧ W B' ((D, .lst acc) :: L) H ∧ Pv i B' acc ∧ acc.length ≤ i) ⟨B, [], same_refl B, w.newL hD _, h0, Nat.le_refl _⟩
    ?_ (fun H ⟨B', acc, s, w', p, l⟩ => hd B' _ acc H (same_trans s (same_new (w'.out _ (List.mem_cons_self ..)))) (same_new (w'.out _ (List.mem_cons_self ..))) upd_same w'.give p l)
  rintro i H hi ⟨B', acc, s, w', p, l⟩
  exact hs i B' acc H _ hi s w' p l (by omega) fun B'' acc' H' s' w'' p' l' => ⟨B'', acc', same_trans s s', w'', p', l'⟩
end
section
variable {K : PySem.W.Frag} {B H H1 : Hp} {L : List Cell} {D : Addr} {Q : VK} {g : TG} {tt : TT} {te : TE} {vs : List Nat} {σ : L2.St} {acc : List V} {y : V} {Nx : Hp → Prop}
/-- a comprehension over a list, owned or not; what it makes may be owned, too (A) -/
theorem LC.listA {a : Addr} {xs : List V} (w : W B L H1) (hD : H1 D = none) (hx : ∀ B' A acc H, Same B B' → W B' ((D, .lst acc) :: (A ++ L)) H → SqL K H a xs) (hlen : xs.length < sizeLine) (Pv : Nat → Hp → List Cell → List V → Prop) (h0 : Pv 0 B [] [])
    (hs : ∀ i x B' A acc H (Nx : Hp → Prop), xs[i]? = some x → Same B B' → W B' ((D, .lst acc) :: (A ++ L)) H → Pv i B' A acc → acc.length ≤ i → acc.length < sizeLine →
      (∀ B'' A' acc' H', Same B' B'' → W B'' ((D, .lst acc') :: (A' ++ L)) H' → Pv (i + 1) B'' A' acc' → acc'.length ≤ i + 1 → Nx H') →
      g x (wipe σ vs) H fun σ2 H2 => wipe σ2 vs = wipe σ vs ∧ tt σ2 H2 fun b H3 => Br b (te σ2 H3 (rAcc D Nx)) (Nx H3))
    (hd : ∀ B' A acc H, Same B B' → W B' ((D, .lst acc) :: (A ++ L)) H → Pv xs.length B' A acc → acc.length ≤ xs.length → Q (.ref D) H) : LC (Itl K a) D g tt te vs σ H1 Q := by
  refine lc_list (K := K) (a := a) (xs := xs) (fun i H => ∃ B' A acc, Same B B' ∧ W B' ((D, .lst acc) :: (A ++ L)) H ∧ Pv i B' A acc ∧ acc.length ≤ i) ⟨B, [], [], same_refl B, w.newL hD _, h0, Nat.le_refl _⟩
    (fun i H _ ⟨B', A, acc, s, w', _⟩ => hx B' A acc H s w') ?_ (fun H ⟨B', A, acc, s, w', p, l⟩ => hd B' A acc H s w' p l)
  rintro i x H hi ⟨B', A, acc, s, w', p, l⟩
  have hil := (List.getElem?_eq_some_iff.mp hi).1
  exact hs i x B' A acc H _ hi s w' p l (by omega) fun B'' A' acc' H' s' w'' p' l' => ⟨B'', A', acc', same_trans s s', w'', p', l'⟩
end
/-! ### slices, subscripts -/
def rPart (Q : Option Int → Hp → Prop) (x : V) (H : Hp) : Prop := ∃ i, x = .int i ∧ Q (some i) H
section
variable {K : PySem.W.Frag} {σ : L2.St} {H : Hp} {Q : VK} {te : TE} {tl th : TO}
theorem g_sl {r : V → Option Int → Option Int → Hp → VK → Prop} (h : te σ H fun x H1 => tl σ H1 fun l H2 => th σ H2 fun u H3 => r x l u H3 Q) : tSl r te tl th σ H Q := h
theorem g_nopart {Q : Option Int → Hp → Prop} (h : Q none H) : tNoPart σ H Q := h
theorem g_part {Q : Option Int → Hp → Prop} (h : te σ H (rPart Q)) : tPart te σ H Q := h
theorem r_part {Q : Option Int → Hp → Prop} {i : Int} (h : Q (some i) H) : rPart Q (.int i) H := ⟨i, rfl, h⟩
theorem r_slL {a : Addr} {xs : List V} {lo hi : Option Int} (h : SqL K H a xs) (q : ∀ p, H p = none → Q (.ref p) (upd H p (.lst (cutV xs lo hi)))) : rSlL K (.ref a) lo hi H Q := ⟨a, xs, rfl, h, q⟩
def cutI (ns : List Int) (lo hi : Option Int) : List Int := (ns.drop (HT.sIx ns.length 0 lo)).take (HT.sIx ns.length ns.length hi - HT.sIx ns.length 0 lo)
theorem cutV_int (ns : List Int) (lo hi : Option Int) : cutV (ns.map V.int) lo hi = (cutI ns lo hi).map V.int := by
  unfold cutV cutI
  rw [List.length_map, List.map_take, List.map_drop]
theorem cutI_len (ns : List Int) (lo hi : Option Int) : (cutI ns lo hi).length ≤ ns.length := by
  unfold cutI
  rw [List.length_take, List.length_drop]
  omega
theorem cutI_take (ns : List Int) (k : Nat) : cutI ns none (some (k : Int)) = ns.take k := by
  unfold cutI
  simp only [HT.sIx]
  rw [if_neg (by omega)]
  simp
theorem cutI_drop (ns : List Int) (k : Nat) : cutI ns (some (k : Int)) none = ns.drop k := by
  unfold cutI
  simp only [HT.sIx]
  rw [if_neg (by omega), Int.toNat_natCast]
  by_cases h : k ≤ ns.length
  · rw [Nat.min_eq_left h]
    exact List.take_of_length_le (by simp)
  · rw [List.drop_eq_nil_of_le (show ns.length ≤ k by omega)]
    simp
    omega
theorem r_ixL {a : Addr} {xs : List V} {i : Int} {v : V} (h : SqL K H a xs) (e : atI xs i = some v) (q : Q v H) : rIxL K (.ref a) (.int i) H Q := ⟨a, xs, i, v, rfl, rfl, h, e, q⟩
theorem r_ixT {a : Addr} {xs : List V} {i : Int} {v : V} (h : SqT K H a xs) (e : atI xs i = some v) (q : Q v H) : rIxT K (.ref a) (.int i) H Q := ⟨a, xs, i, v, rfl, rfl, h, e, q⟩
theorem r_t0 {a : Addr} {xs : List V} {v : V} (h : SqT K H a (v :: xs)) (q : Q v H) : rIxT K (.ref a) (.int 0) H Q := by
  refine ⟨a, v :: xs, 0, v, rfl, rfl, h, ?_, q⟩
  unfold atI ixN
  rw [if_pos (by decide), if_pos (by simp only [List.length_cons]; omega)]
  rfl
theorem r_t1 {a : Addr} {xs : List V} {u v : V} (h : SqT K H a (u :: v :: xs)) (q : Q v H) : rIxT K (.ref a) (.int 1) H Q := by
  refine ⟨a, u :: v :: xs, 1, v, rfl, rfl, h, ?_, q⟩
  unfold atI ixN
  rw [if_pos (by decide), if_pos (by simp only [List.length_cons]; omega)]
  rfl
theorem r_t2 {a : Addr} {xs : List V} {u z v : V} (h : SqT K H a (u :: z :: v :: xs)) (q : Q v H) : rIxT K (.ref a) (.int 2) H Q := by
  refine ⟨a, u :: z :: v :: xs, 2, v, rfl, rfl, h, ?_, q⟩
  unfold atI ixN
  rw [if_pos (by decide), if_pos (by simp only [List.length_cons]; omega)]
  rfl
theorem getV {ns : List Int} {i : Nat} {x : V} (h : (ns.map V.int)[i]? = some x) : ∃ n, x = .int n ∧ ns[i]? = some n ∧ i < ns.length := by
  rw [List.getElem?_map] at h
  cases e : ns[i]? with
  | none => rw [e] at h; cases h
  | some n => rw [e] at h; exact ⟨n, (Option.some.inj h).symm, rfl, (List.getElem?_eq_some_iff.mp e).1⟩
end
/-! ### promises by the number of arguments -/
def Sp0 (φ : Hp → VK → XK → Prop) : Sp := fun vs H Q E => vs = [] ∧ φ H Q E
def Sp1 (φ : V → Hp → VK → XK → Prop) : Sp := fun vs H Q E => ∃ x, vs = [x] ∧ φ x H Q E
def Sp2 (φ : V → V → Hp → VK → XK → Prop) : Sp := fun vs H Q E => ∃ x y, vs = [x, y] ∧ φ x y H Q E
def Sp3 (φ : V → V → V → Hp → VK → XK → Prop) : Sp := fun vs H Q E => ∃ x y z, vs = [x, y, z] ∧ φ x y z H Q E
def Sp4 (φ : V → V → V → V → Hp → VK → XK → Prop) : Sp := fun vs H Q E => ∃ x y z u, vs = [x, y, z, u] ∧ φ x y z u H Q E
def Sp5 (φ : V → V → V → V → V → Hp → VK → XK → Prop) : Sp := fun vs H Q E => ∃ x y z u v, vs = [x, y, z, u, v] ∧ φ x y z u v H Q E
section
variable {vs : List V} {H : Hp} {Q : VK} {E : XK}
theorem sp0_len {φ} (h : Sp0 φ vs H Q E) : vs.length = 0 := by obtain ⟨rfl, _⟩ := h; rfl
theorem sp1_len {φ} (h : Sp1 φ vs H Q E) : vs.length = 1 := by obtain ⟨x, rfl, _⟩ := h; rfl
theorem sp2_len {φ} (h : Sp2 φ vs H Q E) : vs.length = 2 := by obtain ⟨x, y, rfl, _⟩ := h; rfl
theorem sp3_len {φ} (h : Sp3 φ vs H Q E) : vs.length = 3 := by obtain ⟨x, y, z, rfl, _⟩ := h; rfl
theorem sp4_len {φ} (h : Sp4 φ vs H Q E) : vs.length = 4 := by obtain ⟨x, y, z, u, rfl, _⟩ := h; rfl
theorem sp5_len {φ} (h : Sp5 φ vs H Q E) : vs.length = 5 := by obtain ⟨x, y, z, u, v, rfl, _⟩ := h; rfl
end
/-- a law's own promise -/
def spEnd (K : PySem.W.Frag) : Sp := Sp1 fun x H Q E => ∃ (a : Addr) (ns : List Int), x = .ref a ∧ SqL K H a (ns.map V.int) ∧ ns.length ≤ 63 ∧ ∀ H', Q (.bl true) H'
section
variable {P : Program} {w : World} {K : PySem.W.Frag} {mg : Str → Option Value} {base : Heap} {N : List Str} {qual : Str} {scope : Scope} {f : Addr} {cd : Value} {A : Around} {outer : List Env} {s : Shared} {H : Hp} {E : XK}
theorem pX : Passes (L2.CX P w) (cxOf (L2.CX P w) P w K mg base N qual scope f cd A outer s H E) E := passes_call (takes_of rfl rfl rfl rfl) fun _ _ _ _ h => h
theorem cx_false {l : List Env} {e : Value} {s' : Shared} (h : L2.CX P w l H s (fun _ _ _ => False) e s') : False := by
  obtain ⟨_, _, _, _, _, _, _, _, _, _, _, _, z⟩ := h
  exact z
theorem passF {X : Cx} : Passes (L2.CX P w) X (fun _ _ _ => False) := fun _ _ _ _ _ _ _ h => (cx_false h).elim
end
/-! ### union of two ways -/
theorem pe_either {X : Cx} {e : Expr} {t u : TE} (h1 : PE X e t) (h2 : PE X e u) : PE X e (fun σ H Q => t σ H Q ∨ u σ H Q) :=
  ⟨fun pins s σ H Q I h => h.elim (h1.run pins s σ H Q I) (h2.run pins s σ H Q I)⟩
/-! ### len, str, fields, methods, new instances, dicts: by names -/
def rLen (K : PySem.W.Frag) : List V → Hp → VK → Prop := fun xs H Q => ∃ p ys, xs = [.ref p] ∧ (SqL K H p ys ∨ SqT K H p ys) ∧ Q (.int ys.length) H
theorem call_lenZ {X : Cx} : CallR X (.builtin "len") (rLen X.K) := call_len_seq
def rLenStr : List V → Hp → VK → Prop := fun xs H Q => ∃ z, xs = [.str z] ∧ z.length ≤ sizeLine ∧ Q (.int z.length) H
theorem call_lenS {X : Cx} : CallR X (.builtin "len") rLenStr := call_len_str
def rLenDi : List V → Hp → VK → Prop := fun xs H Q => ∃ a kvs, xs = [V.ref a] ∧ H a = some (.dK kvs) ∧ Q (.int kvs.length) H
theorem call_lenDi {X : Cx} : CallR X (.builtin "len") rLenDi := call_lenD
def rStrI : List V → Hp → VK → Prop := fun xs H Q => ∃ i, xs = [.int i] ∧ i.natAbs.log2 < 1920 ∧ Q (.str (toString i)) H
theorem call_strI {X : Cx} : CallR X (.type "str") rStrI := call_str_int
def rIsNo : R2 := fun x y H Q => y = .non ∧ Q (.bl (decide (x = .non))) H
def rNotNo : R2 := fun x y H Q => y = .non ∧ Q (.bl (!decide (x = .non))) H
theorem op_isNo {X : Cx} : OpR X (compareOp .Is) rIsNo := op_isN
theorem op_notNo {X : Cx} : OpR X (compareOp .IsNot) rNotNo := op_notN
def rAddS : R2 := fun x y H Q => ∃ i j, x = .str i ∧ y = .str j ∧ i.length + j.length ≤ sizeLine ∧ Q (.str (i ++ j)) H
theorem op_addS {X : Cx} : OpR X (binaryOp .Add) rAddS := op_add_str
def rListOf (K : PySem.W.Frag) : List V → Hp → VK → Prop := fun xs H Q => ∃ p ys, xs = [.ref p] ∧ (SqL K H p ys ∨ SqT K H p ys) ∧ ∀ l, H l = none → Q (.ref l) (upd H l (.lst ys))
theorem call_listOf {X : Cx} : CallR X (.type "list") (rListOf X.K) := call_list_of
def rFldN (K : PySem.W.Frag) (f : Str) (Q : VK) (x : V) (H1 : Hp) : Prop := ∃ a C dx fs v, x = .ref a ∧ H1 a = some (.ins C dx fs) ∧ Cls K C ∧ NoAttr K C f ∧ fs.lookup f = some v ∧ Q v H1
def rStF (K : PySem.W.Frag) (f : Str) (P : Hp → Prop) (y x : V) (H2 : Hp) : Prop := ∃ a C dx fs, x = .ref a ∧ H2 a = some (.ins C dx fs) ∧ Cls K C ∧ NoAttr K C f ∧ fs.length < 1000 ∧ P (upd H2 a (.ins C dx (putF f y fs)))
def rMe (C : Addr) (m : Str) (P : Prop) (x : V) (H1 : Hp) : Prop := ∃ a dx fs, x = .ref a ∧ H1 a = some (.ins C dx fs) ∧ fs.lookup m = none ∧ P
def rMk (C : Addr) (sp : Sp) (dvs : List V) (E : XK) (Q : VK) (vs : List V) (H1 : Hp) : Prop := ∀ x dx, H1 x = none → H1 dx = none → dx ≠ x → sp (.ref x :: (vs ++ dvs)) (upd (upd H1 dx (.own x)) x (.ins C dx [])) (fun v H2 => v = .non ∧ Q (.ref x) H2) E
def rDIn (Q : VK) (y x : V) (H2 : Hp) : Prop := ∃ a o, x = .ref a ∧ DGet H2 a y o ∧ Q (.bl o.isSome) H2
def rDNi (Q : VK) (y x : V) (H2 : Hp) : Prop := ∃ a o, x = .ref a ∧ DGet H2 a y o ∧ Q (.bl (!o.isSome)) H2
def rDGe (Q : VK) (x y : V) (H2 : Hp) : Prop := ∃ a v, x = .ref a ∧ DGet H2 a y (some v) ∧ Q v H2
def rDPu (P : Hp → Prop) (v x y : V) (H3 : Hp) : Prop := ∃ a H4, x = .ref a ∧ DPut H3 a y v H4 ∧ P H4
def rDPo (Q : VK) (x y : V) (H2 : Hp) : Prop := ∃ kvs k v, ∃ a, x = .ref a ∧ H2 a = some (.dK kvs) ∧ y = kV k ∧ valV kvs k = some v ∧ Q v (upd H2 a (.dK (dropK kvs k)))
section
variable {K : PySem.W.Frag} {σ : L2.St} {H : Hp} {Q : VK} {ta tb tv td ty : TE} {t : TA} {D : Ends} {f m : Str} {a p C dx : Addr} {fs : List (Str × V)} {v x y : V} {xs : List V} {sp : Sp} {dvs : List V} {E : XK} {P : Hp → Prop} {R : Prop} {i : Int} {z u : Str} {kvs : List (Key × V)} {n : Int}
theorem r_lenL (h : SqL K H p xs) (q : Q (.int xs.length) H) : rLen K [.ref p] H Q := ⟨p, xs, rfl, .inl h, q⟩
theorem r_lenT (h : SqT K H p xs) (q : Q (.int xs.length) H) : rLen K [.ref p] H Q := ⟨p, xs, rfl, .inr h, q⟩
theorem r_lenS (h : z.length ≤ sizeLine) (q : Q (.int z.length) H) : rLenStr [.str z] H Q := ⟨z, rfl, h, q⟩
theorem r_lenD (h : H p = some (.dK kvs)) (q : Q (.int kvs.length) H) : rLenDi [.ref p] H Q := ⟨p, kvs, rfl, h, q⟩
theorem r_strI (h : i.natAbs.log2 < 1920) (q : Q (.str (toString i)) H) : rStrI [.int i] H Q := ⟨i, rfl, h, q⟩
theorem r_isNo (q : Q (.bl (decide (x = .non))) H) : rIsNo x .non H Q := ⟨rfl, q⟩
theorem r_notNo (q : Q (.bl (!decide (x = .non))) H) : rNotNo x .non H Q := ⟨rfl, q⟩
theorem r_addS (h : z.length + u.length ≤ sizeLine) (q : Q (.str (z ++ u)) H) : rAddS (.str z) (.str u) H Q := ⟨z, u, rfl, rfl, h, q⟩
theorem r_listOf {B : Hp} {L : List Cell} (h : SqL K H p xs) (w : W B L H) (q : ∀ l H', W B ((l, .lst xs) :: L) H' → Q (.ref l) H') : rListOf K [.ref p] H Q := ⟨p, xs, rfl, .inl h, fun l hl => q l _ (w.newL hl _)⟩
theorem g_fld (h : ta σ H (rFldN K f Q)) : tFld K ta f σ H Q := h
theorem r_fld (h : H a = some (.ins C dx fs)) (c : Cls K C) (no : NoAttr K C f) (l : fs.lookup f = some v) (q : Q v H) : rFldN K f Q (.ref a) H := ⟨a, C, dx, fs, v, rfl, h, c, no, l, q⟩
theorem g_sfld (h : tv σ H fun y H1 => ta σ H1 (rStF K f (D.nx σ) y)) : sFld K ta tv f D σ H := h
theorem r_sfld (h : H a = some (.ins C dx fs)) (c : Cls K C) (no : NoAttr K C f) (l : fs.length < 1000) (q : P (upd H a (.ins C dx (putF f y fs)))) : rStF K f P y (.ref a) H := ⟨a, C, dx, fs, rfl, h, c, no, l, q⟩
theorem g_meth (h : ta σ H fun x H1 => rMe C m (t σ H1 fun vs H2 => sp (x :: (vs ++ dvs)) H2 Q E) x H1) : tMeth C m sp dvs E ta t σ H Q := h
theorem r_meth (h : H a = some (.ins C dx fs)) (l : fs.lookup m = none) (q : R) : rMe C m R (.ref a) H := ⟨a, dx, fs, rfl, h, l, q⟩
theorem g_make (h : t σ H (rMk C sp dvs E Q)) : tMake C sp dvs E t σ H Q := h
theorem g_din (h : ty σ H fun y H1 => td σ H1 (rDIn Q y)) : tDIn ty td σ H Q := h
theorem g_dni (h : ty σ H fun y H1 => td σ H1 (rDNi Q y)) : tDNotIn ty td σ H Q := h
theorem g_dge (h : td σ H fun x H1 => ty σ H1 (rDGe Q x)) : tDGet td ty σ H Q := h
theorem g_dpu (h : tv σ H fun v H1 => td σ H1 fun x H2 => ty σ H2 (rDPu (D.nx σ) v x)) : sDPut td ty tv D σ H := h
theorem r_din (h : H a = some (.dK kvs)) (q : Q (.bl (valV kvs (Sum.inl n)).isSome) H) : rDIn Q (.int n) (.ref a) H := ⟨a, _, rfl, DGet.k (k := Sum.inl n) h, q⟩
theorem r_dni (h : H a = some (.dK kvs)) (q : Q (.bl (!(valV kvs (Sum.inl n)).isSome)) H) : rDNi Q (.int n) (.ref a) H := ⟨a, _, rfl, DGet.k (k := Sum.inl n) h, q⟩
theorem r_dge (h : H a = some (.dK kvs)) (e : valV kvs (Sum.inl n) = some v) (q : Q v H) : rDGe Q (.ref a) (.int n) H := ⟨a, v, rfl, by have := DGet.k (k := Sum.inl n) h; rw [e] at this; exact this, q⟩
theorem r_dpu (h : H a = some (.dK kvs)) (l : kvs.length < sizeLine) (q : P (upd H a (.dK (putK kvs (Sum.inl n) v)))) : rDPu P v (.ref a) (.int n) H := ⟨a, _, rfl, DPut.k (k := Sum.inl n) h l, q⟩
end
/-! ### a list of numbers, by its place -/
theorem atI_nat' {xs : List V} {i : Int} (h0 : 0 ≤ i) (h1 : i < xs.length) : atI xs i = xs[i.toNat]? := by
  unfold atI ixN
  rw [if_pos h0, if_pos h1]
  rfl
theorem atI_ex {ns : List Int} {i : Int} (h0 : 0 ≤ i) (h1 : i < ns.length) : ∃ v, v ∈ ns ∧ atI (ns.map V.int) i = some (.int v) := by
  have hl : i.toNat < ns.length := by omega
  refine ⟨ns[i.toNat], List.getElem_mem _, ?_⟩
  rw [atI_nat' h0 (by rw [List.length_map]; exact h1), List.getElem?_map, List.getElem?_eq_getElem hl]
  rfl
section
variable {K : PySem.W.Frag} {H : Hp} {σ : L2.St} {a : Addr} {u v x : V} {n : Nat} {t1 t2 t3 : TG} {Q : L2.St → Hp → Prop}
theorem g_tup2 (h : SqT K H a [u, v]) (hn : n = 2) (q : t1 u σ H fun σ' H' => t2 v σ' H' Q) : gTup K n (gCons t1 (gCons t2 gNil)) (.ref a) σ H Q :=
  ⟨a, _, rfl, h, hn.symm, u, _, rfl, (show t1 u σ H fun σ' H' => gCons t2 gNil [v] σ' H' Q from by
    have e : (fun σ' H' => gCons t2 gNil [v] σ' H' Q) = fun σ' H' => t2 v σ' H' Q := by
      funext σ' H'
      refine propext ⟨fun ⟨v', r, e, h⟩ => ?_, fun h => ⟨v, [], rfl, ?_⟩⟩
      · cases e
        have e2 : (fun σ' H' => gNil [] σ' H' Q) = Q := by funext a b; exact propext ⟨fun h => h.2, fun h => ⟨rfl, h⟩⟩
        rwa [e2] at h
      · have e2 : (fun σ' H' => gNil [] σ' H' Q) = Q := by funext a b; exact propext ⟨fun h => h.2, fun h => ⟨rfl, h⟩⟩
        rwa [e2]
    rw [e]
    exact q)⟩
end
section
variable {c : TT} {tb : TS} {D : Ends} {σ : L2.St} {H : Hp} {m : Nat}
def WhB (Pv : Nat → L2.St → Hp → Prop) (m : Nat) (tb : TS) (D : Ends) (σ : L2.St) (H1 : Hp) : Prop := ∃ N : L2.St → Hp → Prop, (∀ σ' H', N σ' H' → ∃ m', m' < m ∧ Pv m' σ' H') ∧ tb { D with nx := N, ct := N, bk := D.nx } σ H1
theorem g_while (m : Nat) (Pv : Nat → L2.St → Hp → Prop) (h0 : Pv m σ H) (hs : ∀ m σ H, Pv m σ H → c σ H fun b H1 => Br b (WhB Pv m tb D σ H1) (D.nx σ H1)) : tWhile c tb D σ H := ⟨Pv, ⟨m, h0⟩, hs⟩
theorem g_whb {Pv : Nat → L2.St → Hp → Prop} (h : tb { D with nx := fun σ' H' => ∃ m', m' < m ∧ Pv m' σ' H', ct := fun σ' H' => ∃ m', m' < m ∧ Pv m' σ' H', bk := D.nx } σ H) : WhB Pv m tb D σ H := ⟨_, fun _ _ h => h, h⟩
end
/-! ### == of data -/
theorem eqvAll_ints : ∀ ns ms : List Int, PyData.eqvAll (ns.map PyData.int) (ms.map PyData.int) = decide (ns = ms)
  | [], [] => by simp [PyData.eqvAll]
  | [], _ :: _ => by simp [PyData.eqvAll]
  | _ :: _, [] => by simp [PyData.eqvAll]
  | a :: r, b :: t => by
    simp only [List.map_cons, PyData.eqvAll, PyData.eqv, eqvAll_ints r t]
    by_cases h : a = b <;> by_cases h' : r = t <;> simp [h, h']
theorem canAll_ints : ∀ ns : List Int, PyData.canLayAll0 (ns.map PyData.int) = true
  | [] => by simp [PyData.canLayAll0]
  | _ :: r => by simp [PyData.canLayAll0, PyData.canLay0, canAll_ints r]
theorem depAll_ints : ∀ ns : List Int, PyData.depthAll (ns.map PyData.int) = 0
  | [] => by simp [PyData.depthAll]
  | _ :: r => by simp [PyData.depthAll, PyData.depth, depAll_ints r]
theorem sh_lints (ns : List Int) : SeqAt.shaped (.list (ns.map PyData.int)) = true := by simp [SeqAt.shaped, PyData.canLay0, PyData.depth, canAll_ints, depAll_ints]
theorem sh_tints (ns : List Int) : SeqAt.shaped (.tuple (ns.map PyData.int)) = true := by simp [SeqAt.shaped, PyData.canLay0, PyData.depth, canAll_ints, depAll_ints]
section
variable {K : PySem.W.Frag} {H : Hp} {Q : VK} {a b : Addr} {ns ms : List Int} {x y : V} {d : PyData}
theorem dp_ints : ∀ ns : List Int, DpAll K H (ns.map V.int) (ns.map PyData.int)
  | [] => .nil
  | _ :: r => .cons (.int _) (dp_ints r)
theorem eqv_self (h : SeqAt.shaped d = true) : PyData.eqv d d = true := SeqAt.eqv_refl d (SeqAt.canLay_of_shaped h)
theorem r_eqD (h1 : Dp K H x d) (h2 : Dp K H y d) (sh : SeqAt.shaped d = true) (q : Q (.bl true) H) : rEqD K x y H Q := ⟨d, d, h1, h2, sh, sh, by rw [eqv_self sh]; exact q⟩
theorem r_neD (h1 : Dp K H x d) (h2 : Dp K H y d) (sh : SeqAt.shaped d = true) (q : Q (.bl false) H) : rNeD K x y H Q := ⟨d, d, h1, h2, sh, sh, by rw [eqv_self sh]; exact q⟩
theorem r_eqLI (h1 : SqL K H a (ns.map V.int)) (h2 : SqL K H b (ms.map V.int)) (q : Q (.bl (decide (ns = ms))) H) : rEqD K (.ref a) (.ref b) H Q :=
  ⟨_, _, .lst h1 (dp_ints ns), .lst h2 (dp_ints ms), sh_lints ns, sh_lints ms, by rw [PyData.eqv, eqvAll_ints]; exact q⟩
theorem r_neLI (h1 : SqL K H a (ns.map V.int)) (h2 : SqL K H b (ms.map V.int)) (q : Q (.bl (!decide (ns = ms))) H) : rNeD K (.ref a) (.ref b) H Q :=
  ⟨_, _, .lst h1 (dp_ints ns), .lst h2 (dp_ints ms), sh_lints ns, sh_lints ms, by rw [PyData.eqv, eqvAll_ints]; exact q⟩
theorem r_eqTI (h1 : SqT K H a (ns.map V.int)) (h2 : SqT K H b (ms.map V.int)) (q : Q (.bl (decide (ns = ms))) H) : rEqD K (.ref a) (.ref b) H Q :=
  ⟨_, _, .tup h1 (dp_ints ns), .tup h2 (dp_ints ms), sh_tints ns, sh_tints ms, by rw [PyData.eqv, eqvAll_ints]; exact q⟩
theorem r_neTI (h1 : SqT K H a (ns.map V.int)) (h2 : SqT K H b (ms.map V.int)) (q : Q (.bl (!decide (ns = ms))) H) : rNeD K (.ref a) (.ref b) H Q :=
  ⟨_, _, .tup h1 (dp_ints ns), .tup h2 (dp_ints ms), sh_tints ns, sh_tints ms, by rw [PyData.eqv, eqvAll_ints]; exact q⟩
theorem r_eqDI (h1 : Dp K H x d) (sh : SeqAt.shaped d = true) (n : Int) (q : Q (.bl (PyData.eqv d (.int n))) H) : rEqD K x (.int n) H Q := ⟨d, _, h1, .int n, sh, rfl, q⟩
end
/-! ### isinstance -/
theorem kb_int_int : kitB "int" "int" = some true := by decide +kernel
theorem kb_int_bool : kitB "int" "bool" = some false := by decide +kernel
theorem kb_int_str : kitB "int" "str" = some false := by decide +kernel
theorem kb_int_tuple : kitB "int" "tuple" = some false := by decide +kernel
theorem kb_int_list : kitB "int" "list" = some false := by decide +kernel
theorem kb_bool_int : kitB "bool" "int" = some true := by decide +kernel
theorem kb_bool_bool : kitB "bool" "bool" = some true := by decide +kernel
theorem kb_bool_str : kitB "bool" "str" = some false := by decide +kernel
theorem kb_non_int : kitB "NoneType" "int" = some false := by decide +kernel
theorem kb_non_bool : kitB "NoneType" "bool" = some false := by decide +kernel
theorem kb_non_str : kitB "NoneType" "str" = some false := by decide +kernel
theorem kb_str_int : kitB "str" "int" = some false := by decide +kernel
theorem kb_str_bool : kitB "str" "bool" = some false := by decide +kernel
theorem kb_str_str : kitB "str" "str" = some true := by decide +kernel
theorem kb_tup_int : kitB "tuple" "int" = some false := by decide +kernel
theorem kb_tup_bool : kitB "tuple" "bool" = some false := by decide +kernel
theorem kb_tup_str : kitB "tuple" "str" = some false := by decide +kernel
theorem kb_tup_tup : kitB "tuple" "tuple" = some true := by decide +kernel
theorem kb_tup_list : kitB "tuple" "list" = some false := by decide +kernel
theorem kb_list_int : kitB "list" "int" = some false := by decide +kernel
theorem kb_list_bool : kitB "list" "bool" = some false := by decide +kernel
theorem kb_list_str : kitB "list" "str" = some false := by decide +kernel
theorem kb_list_list : kitB "list" "list" = some true := by decide +kernel
theorem kb_list_tup : kitB "list" "tuple" = some false := by decide +kernel
theorem kb_dict_int : kitB "dict" "int" = some false := by decide +kernel
theorem kb_dict_bool : kitB "dict" "bool" = some false := by decide +kernel
section
variable {K : PySem.W.Frag} {H : Hp} {Q : VK} {x : V} {t n : String} {b : Bool} {i : Int} {z : Str}
theorem r_isi (ty : TyX K H x (.type t)) (h : kitB t n = some b) (q : Q (.bl b) H) : rIsi K [x, .ty n] H Q := ⟨x, .ty n, .type t, .type n, b, rfl, .ty n, ty, kit_ty h, q⟩
theorem isi_ii (q : Q (.bl true) H) : rIsi K [.int i, .ty "int"] H Q := r_isi (.base (.int i)) kb_int_int q
theorem isi_ib (q : Q (.bl false) H) : rIsi K [.int i, .ty "bool"] H Q := r_isi (.base (.int i)) kb_int_bool q
theorem isi_bi (q : Q (.bl true) H) : rIsi K [.bl b, .ty "int"] H Q := r_isi (.base (.bl b)) kb_bool_int q
theorem isi_bb (q : Q (.bl true) H) : rIsi K [.bl b, .ty "bool"] H Q := r_isi (.base (.bl b)) kb_bool_bool q
theorem isi_ni (q : Q (.bl false) H) : rIsi K [.non, .ty "int"] H Q := r_isi (.base .non) kb_non_int q
theorem isi_si (q : Q (.bl false) H) : rIsi K [.str z, .ty "int"] H Q := r_isi (.base (.str z)) kb_str_int q
end
/-! ### names of built-ins -/
theorem bt_len : bootBuiltins "len" = some (.builtin "len") := by decide +kernel
theorem bt_isinstance : bootBuiltins "isinstance" = some (.builtin "isinstance") := by decide +kernel
theorem bt_int : bootBuiltins "int" = some (.type "int") := by decide +kernel
theorem bt_bool : bootBuiltins "bool" = some (.type "bool") := by decide +kernel
theorem bt_str : bootBuiltins "str" = some (.type "str") := by decide +kernel
theorem bt_list : bootBuiltins "list" = some (.type "list") := by decide +kernel
theorem bt_tuple : bootBuiltins "tuple" = some (.type "tuple") := by decide +kernel
theorem bt_dict : bootBuiltins "dict" = some (.type "dict") := by decide +kernel
theorem bt_min : bootBuiltins "min" = some (.builtin "min") := by decide +kernel
theorem bt_max : bootBuiltins "max" = some (.builtin "max") := by decide +kernel
theorem bt_sum : bootBuiltins "sum" = some (.builtin "sum") := by decide +kernel
theorem bt_all : bootBuiltins "all" = some (.builtin "all") := by decide +kernel
theorem bt_any : bootBuiltins "any" = some (.builtin "any") := by decide +kernel
theorem bt_sorted : bootBuiltins "sorted" = some (.builtin "sorted") := by decide +kernel
theorem bt_ValueError : bootBuiltins "ValueError" = some (.type "ValueError") := by decide +kernel
/-- a number, or None -/
def oV : Option Int → V
  | none => .non
  | some n => .int n
end Z

/-! Mbits: the bits of a number the other way round, in plain Lean. -/
namespace Z
open PySem PySem.W PyProof.Rows
/-- the k lowest bits of n, turned about -/
def rv : Nat → Nat → Nat
  | 0, _ => 0
  | k + 1, n => 2 * rv k n + n / 2 ^ k % 2
theorem rv_lt (k n : Nat) : rv k n < 2 ^ k := by
  induction k with
  | zero => simp [rv]
  | succ k ih => simp only [rv, Nat.pow_succ]; omega
theorem pow_pos2 (k : Nat) : 0 < 2 ^ k := Nat.pow_pos (by decide)
theorem rv_add (j k n : Nat) : rv (j + k) n = rv j n * 2 ^ k + rv k (n / 2 ^ j) := by
  induction k with
  | zero => simp [rv]
  | succ k ih =>
    have e : n / 2 ^ (j + k) = n / 2 ^ j / 2 ^ k := by rw [Nat.div_div_eq_div_mul, ← Nat.pow_add]
    show 2 * rv (j + k) n + n / 2 ^ (j + k) % 2 = _
    rw [ih, e, Nat.pow_succ]
    show _ = rv j n * (2 ^ k * 2) + (2 * rv k (n / 2 ^ j) + n / 2 ^ j / 2 ^ k % 2)
    rw [Nat.mul_add, ← Nat.mul_assoc (rv j n), Nat.mul_comm (rv j n * 2 ^ k) 2, Nat.mul_comm 2 (rv j n * 2 ^ k)]
    omega
theorem rv_one (n : Nat) : rv 1 n = n % 2 := by simp [rv]
theorem rv_succ (k n : Nat) : rv (k + 1) n = (n % 2) * 2 ^ k + rv k (n / 2) := by
  rw [Nat.add_comm k 1, rv_add, rv_one, Nat.pow_one]
theorem rv_zero (k : Nat) : rv k 0 = 0 := by
  induction k with
  | zero => rfl
  | succ k ih => simp [rv, ih]
theorem rv_congr {k a b : Nat} (h : a % 2 ^ k = b % 2 ^ k) : rv k a = rv k b := by
  induction k generalizing a b with
  | zero => rfl
  | succ k ih =>
    rw [rv_succ, rv_succ]
    have h2 : a % 2 = b % 2 := by
      have := congrArg (· % 2) h
      simp only [Nat.pow_succ, Nat.mod_mul_left_mod] at this
      exact this
    have h3 : a / 2 % 2 ^ k = b / 2 % 2 ^ k := by
      have q : ∀ x : Nat, x % 2 ^ (k + 1) / 2 = x / 2 % 2 ^ k := fun x => by
        rw [Nat.pow_succ, Nat.mul_comm, Nat.mod_mul_right_div_self]
      rw [← q a, ← q b, h]
    rw [h2, ih h3]
theorem rv_mod (k n : Nat) : rv k (n % 2 ^ k) = rv k n := rv_congr (Nat.mod_mod _ _)
theorem rv_rv (k n : Nat) : rv k (rv k n) = n % 2 ^ k := by
  induction k generalizing n with
  | zero => simp [rv, Nat.mod_one]
  | succ k ih =>
    have e : rv (k + 1) n = 2 * rv k n + n / 2 ^ k % 2 := rfl
    rw [rv_succ, e]
    have e1 : (2 * rv k n + n / 2 ^ k % 2) % 2 = n / 2 ^ k % 2 := by omega
    have e2 : (2 * rv k n + n / 2 ^ k % 2) / 2 = rv k n := by omega
    rw [e1, e2, ih, Nat.pow_succ, Nat.mod_mul]
    rw [Nat.mul_comm, Nat.add_comm]
theorem rv_bit {k d : Nat} (n : Nat) (h : d < k) : rv k n / 2 ^ (k - 1 - d) % 2 = n / 2 ^ d % 2 := by
  have e : k = (d + 1) + (k - 1 - d) := by omega
  have q : rv k n = rv (d + 1) n * 2 ^ (k - 1 - d) + rv (k - 1 - d) (n / 2 ^ (d + 1)) := by
    conv => lhs; rw [e]
    exact rv_add _ _ _
  have l := rv_lt (k - 1 - d) (n / 2 ^ (d + 1))
  rw [q, Nat.mul_comm, Nat.mul_add_div (pow_pos2 _), Nat.div_eq_of_lt l, Nat.add_zero]
  show (2 * rv d n + n / 2 ^ d % 2) % 2 = _
  omega
theorem rv_inj {k a b : Nat} (h : rv k a = rv k b) : a % 2 ^ k = b % 2 ^ k := by rw [← rv_rv, ← rv_rv, h]
/-- sixteen bits turned about -/
@[irreducible] def r16 (n : Nat) : Nat := rv 16 n
theorem r16_eq (n : Nat) : r16 n = rv 16 n := by unfold r16; rfl
theorem r16_lt (n : Nat) : r16 n < 65536 := by rw [r16_eq]; exact rv_lt 16 n
theorem r16_r16 (n : Nat) : r16 (r16 n) = n % 65536 := by rw [r16_eq, r16_eq]; exact rv_rv 16 n
/-! by the program's own operators -/
theorem bor_even (a : Int) {b : Int} (h0 : 0 ≤ b) (h1 : b ≤ 1) : Builtin.bitOr (a * 2) b = a * 2 + b := by
  have e : Builtin.bitAnd (a * 2) b = 0 := by
    rw [kbt_halves]
    have e1 : a * 2 % 2 = 0 := by omega
    have e2 : b / 2 = 0 := by omega
    rw [e1, e2]
    have e3 : Builtin.bitAnd (a * 2 / 2) 0 = 0 := by
      have := kbt_mask (a * 2 / 2) 0
      simpa using this
    rw [e3]
    simp
  have x := bitXor_and (a * 2) b
  unfold Builtin.bitXor at x
  rw [e] at x
  omega
def tnI (n : Int) : Nat → Int
  | 0 => 0
  | k + 1 => Builtin.bitOr (tnI n k * 2 ^ (1 : Int).toNat) (Builtin.bitAnd (n / 2 ^ ((0 : Int) + (k : Nat)).toNat) 1)
theorem tnI_eq (n k : Nat) : tnI (n : Int) k = (rv k n : Nat) := by
  induction k with
  | zero => rfl
  | succ k ih =>
    show Builtin.bitOr (tnI n k * 2 ^ (1 : Int).toNat) (Builtin.bitAnd ((n : Int) / 2 ^ ((0 : Int) + (k : Nat)).toNat) 1) = ((2 * rv k n + n / 2 ^ k % 2 : Nat) : Int)
    have e1 : ((0 : Int) + (k : Nat)).toNat = k := by omega
    have e2 : (1 : Int).toNat = 1 := rfl
    rw [bitAnd_m1, e1, e2, ih, Int.pow_succ, Int.pow_zero, Int.one_mul, bor_even _ (by omega) (by omega)]
    have e3 : (n : Int) / 2 ^ k = ((n / 2 ^ k : Nat) : Int) := by simp
    rw [e3]
    omega
theorem tnI_small (n : Nat) {k : Nat} (h : k ≤ 16) : (tnI (n : Int) k).natAbs < 2 ^ 64 := by
  rw [tnI_eq, Int.natAbs_natCast]
  exact Nat.lt_of_lt_of_le (rv_lt k n) (Nat.pow_le_pow_right (by decide) (by omega))
end Z
namespace Z
open PySem PySem.W PyProof.Rows
theorem r16_mod (k : Nat) : r16 (k % 65536) = r16 k := by
  rw [r16_eq, r16_eq]
  exact rv_mod 16 k
theorem and_pow (k s : Nat) : Builtin.bitAnd (k : Int) (((2 ^ s : Nat) : Int) - 1) = ((k % 2 ^ s : Nat) : Int) := by
  have h := kbt_mask (k : Int) s
  have e : ((2 ^ s : Nat) : Int) = (2 : Int) ^ s := by simp
  rw [e, h, ← e]
  simp
theorem and_mark (k : Nat) : Builtin.bitAnd (k : Int) (65536 - 1) = ((k % 65536 : Nat) : Int) := and_pow k 16
theorem pow_dvd16 {s : Nat} (h : s ≤ 16) : 2 ^ s ∣ 65536 := (Nat.pow_dvd_pow_iff_le_right (by decide : 1 < 2)).mpr h
theorem pow_mul16 {s : Nat} (h : s ≤ 16) : 2 ^ s * 2 ^ (16 - s) = 65536 := by
  rw [← Nat.pow_add, Nat.add_sub_cancel' h]
theorem mod16 {s : Nat} (k : Nat) (h : s ≤ 16) : k % 65536 % 2 ^ s = k % 2 ^ s := Nat.mod_mod_of_dvd k (pow_dvd16 h)
theorem div16 {s : Nat} (h : s ≤ 16) : 65536 / 2 ^ s = 2 ^ (16 - s) := by
  rw [← pow_mul16 h]
  exact Nat.mul_div_cancel_left _ (pow_pos2 s)
theorem pow_le16 {s : Nat} (h : s ≤ 16) : 2 ^ s ≤ 65536 := Nat.le_of_dvd (by decide) (pow_dvd16 h)
/-- a place: its block, and where in it -/
theorem r16_split {s : Nat} (k : Nat) (h : s ≤ 16) : r16 k = rv s k * 2 ^ (16 - s) + rv (16 - s) (k / 2 ^ s) := by
  rw [r16_eq]
  have := rv_add s (16 - s) k
  rwa [Nat.add_sub_cancel' h] at this
theorem r16_slot {s n : Nat} (h : s ≤ 16) (hn : n < 2 ^ s) : r16 n = rv s n * 2 ^ (16 - s) := by
  rw [r16_split n h, Nat.div_eq_of_lt hn, rv_zero, Nat.add_zero]
theorem r16_div {s : Nat} (k : Nat) (h : s ≤ 16) : r16 k / 2 ^ (16 - s) = rv s k := by
  rw [r16_split k h, Nat.mul_comm, Nat.mul_add_div (pow_pos2 _), Nat.div_eq_of_lt (rv_lt _ _), Nat.add_zero]
theorem slotAt_eq {s : Nat} (p : Nat) (h : s ≤ 16) : r16 p % 2 ^ s = rv s (p / 2 ^ (16 - s)) := by
  have e := rv_add (16 - s) s p
  rw [Nat.sub_add_cancel h] at e
  rw [r16_eq, e, Nat.mul_comm, Nat.mul_add_mod, Nat.mod_eq_of_lt (rv_lt _ _)]
/-- the place lies in the stretch of just that slot -/
theorem in_stretch {s n : Nat} (k : Nat) (h : s ≤ 16) (hn : n < 2 ^ s) : (r16 n ≤ r16 k ∧ r16 k < r16 n + 2 ^ (16 - s)) ↔ k % 2 ^ s = n := by
  have e1 := r16_split k h
  have e2 := r16_slot h hn
  have l := rv_lt (16 - s) (k / 2 ^ s)
  constructor
  · rintro ⟨h1, h2⟩
    have q : rv s k = rv s n := by
      have d := r16_div k h
      rw [← d]
      apply Nat.div_eq_of_lt_le
      · rw [← e2]; exact h1
      · rw [Nat.succ_mul, ← e2]; exact h2
    have := rv_inj q
    rwa [Nat.mod_eq_of_lt hn] at this
  · intro e
    have q : rv s k = rv s n := by rw [← e, rv_mod]
    rw [e1, e2, q]
    omega
theorem at_stretch {s n p : Nat} (h : s ≤ 16) (hn : n < 2 ^ s) (h1 : r16 n ≤ p) (h2 : p < r16 n + 2 ^ (16 - s)) : r16 p % 2 ^ s = n := by
  have e2 := r16_slot h hn
  have q : p / 2 ^ (16 - s) = rv s n := by
    apply Nat.div_eq_of_lt_le
    · rw [← e2]; exact h1
    · rw [Nat.succ_mul, ← e2]; exact h2
  rw [slotAt_eq p h, q, rv_rv, Nat.mod_eq_of_lt hn]
theorem stretch_end {s n : Nat} (h : s ≤ 16) (hn : n < 2 ^ s) : r16 n + 2 ^ (16 - s) ≤ 65536 := by
  rw [r16_slot h hn, ← pow_mul16 h]
  have := rv_lt s n
  calc rv s n * 2 ^ (16 - s) + 2 ^ (16 - s) = (rv s n + 1) * 2 ^ (16 - s) := by rw [Nat.succ_mul]
    _ ≤ 2 ^ s * 2 ^ (16 - s) := Nat.mul_le_mul_right _ this
theorem r16_inj {a b : Nat} (h : r16 a = r16 b) : a % 65536 = b % 65536 := by
  rw [r16_eq, r16_eq] at h
  exact rv_inj h
end Z
namespace Z
open PySem PySem.W PyProof.Rows
theorem and_half (b : Nat) : ∀ a : Int, 0 < b → (b : Int) ≠ 2 * Builtin.bitAnd a b := by
  induction b using Nat.strongRecOn with
  | _ b ih =>
    intro a hb e
    have hh := kbt_halves a b
    by_cases o : b % 2 = 1
    · omega
    · have e2 : ((b : Int) / 2) = ((b / 2 : Nat) : Int) := by omega
      rw [if_neg (by omega), e2] at hh
      exact ih (b / 2) (by omega) (a / 2) (by omega) (by omega)
theorem xor_other {a b : Nat} (h0 : 0 < b) (h1 : b < 65536) : ∃ m : Nat, Builtin.bitXor (a : Int) (b : Int) = (m : Int) ∧ m % 65536 ≠ a % 65536 := by
  have x := bitXor_and (a : Int) (b : Int)
  have r1 := bitAnd_range (a : Int) (y := (b : Int)) (by omega)
  have r2 := bitAnd_range (b : Int) (y := (a : Int)) (by omega)
  rw [bitAnd_comm] at r2
  have n := and_half b (a : Int) h0
  refine ⟨(Builtin.bitXor (a : Int) (b : Int)).toNat, by omega, fun h => ?_⟩
  omega
end Z
namespace Z
open PySem PySem.W PyProof.Rows
theorem pow4 (d : Nat) : (4 : Int) * 2 ^ d = ((2 ^ (d + 2) : Nat) : Int) := by
  rw [Nat.pow_add, Nat.mul_comm]; simp
theorem st_e {n s : Nat} (hs : s ≤ 16) : ((r16 n : Nat) : Int) + 65536 / ((2 ^ s : Nat) : Int) = ((r16 n + 2 ^ (16 - s) : Nat) : Int) := by
  rw [← div16 hs, Int.natCast_add, Int.natCast_ediv]; simp
theorem rv_one1 (k : Nat) : rv (k + 1) 1 = 2 ^ k := by
  rw [rv_succ]
  show 1 % 2 * 2 ^ k + rv k 0 = _
  rw [rv_zero]
  omega
theorem half_second {s n : Nat} (hs : s ≤ 15) (hn : n < 2 ^ s) : r16 (n + 2 ^ s) = r16 n + 2 ^ (16 - (s + 1)) := by
  have h : s ≤ 16 := by omega
  have e1 := r16_split (n + 2 ^ s) h
  have e2 := r16_slot h hn
  have e3 : rv s (n + 2 ^ s) = rv s n := rv_congr (Nat.add_mod_right _ _)
  have e4 : (n + 2 ^ s) / 2 ^ s = 1 := by rw [Nat.add_div_right _ (pow_pos2 s), Nat.div_eq_of_lt hn]
  have e5 : 16 - s = 16 - (s + 1) + 1 := by omega
  rw [e1, e2, e3, e4]
  congr 1
  rw [e5]
  exact rv_one1 _
theorem half_pow {s : Nat} (hs : s ≤ 15) : 2 ^ (16 - s) = 2 ^ (16 - (s + 1)) + 2 ^ (16 - (s + 1)) := by
  have e5 : 16 - s = 16 - (s + 1) + 1 := by omega
  rw [e5, Nat.pow_succ]
  omega
theorem pow_two2 (s : Nat) : (2 : Int) * ((2 ^ s : Nat) : Int) = ((2 ^ (s + 1) : Nat) : Int) := by
  rw [Nat.pow_succ]; omega
theorem rv_perm (s : Nat) : ((List.range (2 ^ s)).map (rv s)).Perm (List.range (2 ^ s)) := by
  have n1 : ((List.range (2 ^ s)).map (rv s)).Nodup := by
    refine List.pairwise_map.mpr (List.Pairwise.imp_of_mem ?_ List.nodup_range)
    intro a b ha hb hne h
    have := rv_inj h
    rw [Nat.mod_eq_of_lt (List.mem_range.mp ha), Nat.mod_eq_of_lt (List.mem_range.mp hb)] at this
    exact hne this
  refine (List.perm_ext_iff_of_nodup n1 List.nodup_range).mpr fun x => ?_
  rw [List.mem_range, List.mem_map]
  constructor
  · rintro ⟨y, _, rfl⟩
    exact rv_lt s y
  · intro h
    exact ⟨rv s x, List.mem_range.mpr (rv_lt s x), by rw [rv_rv, Nat.mod_eq_of_lt h]⟩
theorem sorted_places {s : Nat} (hs : s ≤ 16) {l : List Int} (hp : l.Perm ((List.range (2 ^ s)).map fun i => ((r16 i : Nat) : Int))) (ho : l.Pairwise (· ≤ ·)) :
    l = (List.range (2 ^ s)).map fun i => ((i * 2 ^ (16 - s) : Nat) : Int) := by
  have e : ((List.range (2 ^ s)).map fun i => ((r16 i : Nat) : Int)) = ((List.range (2 ^ s)).map (rv s)).map fun i => ((i * 2 ^ (16 - s) : Nat) : Int) := by
    rw [List.map_map]
    refine List.map_congr_left fun i hi => ?_
    show ((r16 i : Nat) : Int) = ((rv s i * 2 ^ (16 - s) : Nat) : Int)
    rw [r16_slot hs (List.mem_range.mp hi)]
  rw [e] at hp
  have hp2 := hp.trans ((rv_perm s).map _)
  refine List.Perm.eq_of_pairwise (le := (· ≤ ·)) (fun a b _ _ h1 h2 => Int.le_antisymm h1 h2) ho ?_ hp2
  refine List.pairwise_map.mpr ((List.pairwise_lt_range).imp fun {a b} h => ?_)
  have : a * 2 ^ (16 - s) ≤ b * 2 ^ (16 - s) := Nat.mul_le_mul_right _ (Nat.le_of_lt h)
  omega
theorem r16_at {s p : Nat} (hs : s ≤ 16) (hp : p < 65536) : r16 (r16 p % 2 ^ s) = p / 2 ^ (16 - s) * 2 ^ (16 - s) := by
  have l : p / 2 ^ (16 - s) < 2 ^ s := (Nat.div_lt_iff_lt_mul (pow_pos2 _)).mpr (by rw [pow_mul16 hs]; exact hp)
  rw [r16_slot hs (Nat.mod_lt _ (pow_pos2 s)), slotAt_eq p hs, rv_rv, Nat.mod_eq_of_lt l]
theorem next_slot {s n : Nat} (hs : s ≤ 16) (hn : n < 2 ^ s) (h : r16 n + 2 ^ (16 - s) < 65536) : r16 (r16 (r16 n + 2 ^ (16 - s)) % 2 ^ s) = r16 n + 2 ^ (16 - s) := by
  rw [r16_at hs h, r16_slot hs hn]
  have e : rv s n * 2 ^ (16 - s) + 2 ^ (16 - s) = (rv s n + 1) * 2 ^ (16 - s) := by rw [Nat.succ_mul]
  rw [e, Nat.mul_div_cancel _ (pow_pos2 _)]
theorem prev_slot {s n : Nat} (hs : s ≤ 16) (hn : n < 2 ^ s) (h : 0 < r16 n) : r16 (r16 (r16 n - 1) % 2 ^ s) + 2 ^ (16 - s) = r16 n := by
  have l := r16_lt n
  rw [r16_at hs (by omega)]
  rw [r16_slot hs hn] at h ⊢
  have hw := pow_pos2 (16 - s)
  generalize 2 ^ (16 - s) = w at h hw ⊢
  cases e : rv s n with
  | zero => rw [e] at h; simp at h
  | succ q =>
    have e2 : (q + 1) * w - 1 = q * w + (w - 1) := by rw [Nat.succ_mul]; omega
    rw [e2, Nat.mul_comm q w, Nat.mul_add_div hw, Nat.div_eq_of_lt (by omega), Nat.add_zero, Nat.succ_mul]
theorem pow_split {s g : Nat} (hs : s ≤ g) (hg : g ≤ 16) : 2 ^ (16 - s) = 2 ^ (g - s) * 2 ^ (16 - g) := by
  rw [← Nat.pow_add]
  congr 1
  omega
theorem sub_stretch {s g n m : Nat} (hs : s ≤ g) (hg : g ≤ 16) (hm : m < 2 ^ g) (hn : n < 2 ^ s) (hmn : m % 2 ^ s = n) : r16 n ≤ r16 m ∧ r16 m + 2 ^ (16 - g) ≤ r16 n + 2 ^ (16 - s) := by
  have h := (in_stretch m (show s ≤ 16 by omega) hn).mpr hmn
  refine ⟨h.1, ?_⟩
  have h2 := h.2
  rw [r16_slot hg hm, r16_slot (show s ≤ 16 by omega) hn, pow_split hs hg] at h2 ⊢
  have hv := pow_pos2 (16 - g)
  generalize 2 ^ (16 - g) = v at h2 hv ⊢
  rw [← Nat.mul_assoc, ← Nat.add_mul] at h2 ⊢
  have h3 := Nat.lt_of_mul_lt_mul_right h2
  have h4 : (rv g m + 1) * v ≤ (rv s n * 2 ^ (g - s) + 2 ^ (g - s)) * v := Nat.mul_le_mul_right v h3
  rwa [Nat.succ_mul] at h4
theorem slot_mono {s a b : Nat} (hs : s ≤ 16) (h : r16 a ≤ r16 b) : r16 (a % 2 ^ s) ≤ r16 (b % 2 ^ s) := by
  rw [r16_slot hs (Nat.mod_lt _ (pow_pos2 s)), r16_slot hs (Nat.mod_lt _ (pow_pos2 s)), rv_mod, rv_mod, ← r16_div a hs, ← r16_div b hs]
  exact Nat.mul_le_mul_right _ (Nat.div_le_div_right h)
theorem mod_mod_pow {s g : Nat} (k : Nat) (hs : s ≤ g) : k % 2 ^ g % 2 ^ s = k % 2 ^ s := Nat.mod_mod_of_dvd k ((Nat.pow_dvd_pow_iff_le_right (by decide : 1 < 2)).mpr hs)
/-- the j-th slot of the greater row in a stretch -/
theorem inner_slot {s g n j : Nat} (hs : s ≤ g) (hg : g ≤ 16) (hn : n < 2 ^ s) (hj : j < 2 ^ (g - s)) :
    r16 (r16 n + j * 2 ^ (16 - g)) % 2 ^ g % 2 ^ s = n ∧ r16 (r16 (r16 n + j * 2 ^ (16 - g)) % 2 ^ g) = r16 n + j * 2 ^ (16 - g) := by
  have e := pow_split hs hg
  have hv := pow_pos2 (16 - g)
  have l : (j + 1) * 2 ^ (16 - g) ≤ 2 ^ (g - s) * 2 ^ (16 - g) := Nat.mul_le_mul_right _ hj
  rw [Nat.succ_mul] at l
  have se := stretch_end (show s ≤ 16 by omega) hn
  rw [e] at se
  constructor
  · rw [mod_mod_pow _ hs]
    exact at_stretch (by omega) hn (by omega) (by rw [e]; omega)
  · rw [r16_at hg (by omega), r16_slot (show s ≤ 16 by omega) hn, e, ← Nat.mul_assoc, ← Nat.add_mul, Nat.mul_div_cancel _ hv]
end Z

/-! Z2: rules of my own: chains of three and four, d.update(e). -/
namespace Z
open PySem PySem.Spec PyProof.Rows L2
section
variable {X : Cx} {a b c d f : Expr} {ta tb tc td tf : TE} {pos : Pos} {pins : List (Addr × Obj)} {σ : L2.St} {H : Hp}
def tLink (r : R2) (y : V) (tc : TE) (nxt : V → L2.St → Hp → VK → Prop) : V → L2.St → Hp → VK → Prop := fun x σ H Q => r x y H fun z H3 => rTst z H3 fun k H4 => Br k (tc σ H4 fun w H5 => nxt w σ H5 Q) (Q (.bl false) H4)
def tChain3 (r r' r'' : R2) (ta tb tc td : TE) : TE := fun σ H Q => ta σ H fun x H1 => tb σ H1 fun y H2 => r x y H2 fun z H3 => rTst z H3 fun k H4 => Br k (tc σ H4 fun z' H5 => r' y z' H5 fun u H6 => rTst u H6 fun k' H7 => Br k' (td σ H7 fun w' H8 => r'' z' w' H8 Q) (Q (.bl false) H7)) (Q (.bl false) H4)
theorem pe_chain3 {op op' op'' : CmpOp} {r r' r'' : R2} (ho : OpR X (compareOp op) r) (ho' : OpR X (compareOp op') r') (ho'' : OpR X (compareOp op'') r'') (ha : PE X a ta) (hb : PE X b tb) (hc : PE X c tc) (hd : PE X d td)
    (hm : lastMarks [op, op', op''] [b, c, d] = false := by with_unfolding_all rfl) : PE X (.Compare a [op, op', op''] [b, c, d] pos) (tChain3 r r' r'' ta tb tc td) := by
  refine ⟨fun pins s σ H Q I h => ?_⟩
  refine Compare_chain (thn (ha.run pins s σ H _ I h) fun v s1 ⟨x, H1, I1, r1, q1⟩ => chain_link (thn (hb.run pins s1 σ H1 _ I1 q1) fun u s2 ⟨y, H2, I2, r2, q2⟩ =>
    thn (ho pins s2 σ H2 x y v u _ I2 r1 r2 q2) fun d s3 ⟨z, H3, I3, r3, k, e, q3⟩ => ?_)) hm
  subst e
  cases r3
  refine wpAny_truthy_bool ?_
  unfold Br at q3
  cases k with
  | false => exact ite_ff ⟨.bl false, H3, I3, rfl, q3⟩
  | true =>
    refine ite_tt (chain_link (thn (hc.run pins s3 σ H3 _ I3 q3) fun w' s4 ⟨z', H4, I4, r4, q4⟩ => thn (ho' pins s4 σ H4 y z' u w' _ I4 r2 r4 q4) fun d' s5 ⟨u2, H5, I5, r5, k2, e2, q5⟩ => ?_))
    subst e2
    cases r5
    refine wpAny_truthy_bool ?_
    cases k2 with
    | false => exact ite_ff ⟨.bl false, H5, I5, rfl, q5⟩
    | true => exact ite_tt (chain_last (thn (hd.run pins s5 σ H5 _ I5 q5) fun w2 s6 ⟨z2, H6, I6, r6, q6⟩ => ho'' pins s6 σ H6 z' z2 w' w2 Q I6 r4 r6 q6))
def tChain4 (r1 r2 r3 r4 : R2) (ta tb tc td tf : TE) : TE := fun σ H Q => ta σ H fun x H1 => tb σ H1 fun y H2 => r1 x y H2 fun z H3 => rTst z H3 fun k H4 => Br k (tc σ H4 fun z' H5 => r2 y z' H5 fun u H6 => rTst u H6 fun k' H7 => Br k' (td σ H7 fun w' H8 => r3 z' w' H8 fun u H6 => rTst u H6 fun k' H7 => Br k' (tf σ H7 fun w2 H8 => r4 w' w2 H8 Q) (Q (.bl false) H7)) (Q (.bl false) H7)) (Q (.bl false) H4)
theorem pe_chain4 {o1 o2 o3 o4 : CmpOp} {q1 q2 q3 q4 : R2} (h1 : OpR X (compareOp o1) q1) (h2 : OpR X (compareOp o2) q2) (h3 : OpR X (compareOp o3) q3) (h4 : OpR X (compareOp o4) q4) (ha : PE X a ta) (hb : PE X b tb) (hc : PE X c tc) (hd : PE X d td) (hf : PE X f tf)
    (hm : lastMarks [o1, o2, o3, o4] [b, c, d, f] = false := by with_unfolding_all rfl) : PE X (.Compare a [o1, o2, o3, o4] [b, c, d, f] pos) (tChain4 q1 q2 q3 q4 ta tb tc td tf) := by
  refine ⟨fun pins s σ H Q I h => ?_⟩
  refine Compare_chain (thn (ha.run pins s σ H _ I h) fun v s1 ⟨x, H1, I1, r1, q1⟩ => chain_link (thn (hb.run pins s1 σ H1 _ I1 q1) fun u s2 ⟨y, H2, I2, r2, q2⟩ =>
    thn (h1 pins s2 σ H2 x y v u _ I2 r1 r2 q2) fun d s3 ⟨z, H3, I3, r3, k, e, q3⟩ => ?_)) hm
  subst e
  cases r3
  refine wpAny_truthy_bool ?_
  unfold Br at q3
  cases k with
  | false => exact ite_ff ⟨.bl false, H3, I3, rfl, q3⟩
  | true =>
    refine ite_tt (chain_link (thn (hc.run pins s3 σ H3 _ I3 q3) fun w' s4 ⟨z', H4, I4, r4, q4⟩ => thn (h2 pins s4 σ H4 y z' u w' _ I4 r2 r4 q4) fun d' s5 ⟨u2, H5, I5, r5, k2, e2, q5⟩ => ?_))
    subst e2
    cases r5
    refine wpAny_truthy_bool ?_
    cases k2 with
    | false => exact ite_ff ⟨.bl false, H5, I5, rfl, q5⟩
    | true =>
      refine ite_tt (chain_link (thn (hd.run pins s5 σ H5 _ I5 q5) fun w2 s6 ⟨z2, H6, I6, r6, q6⟩ => thn (h3 pins s6 σ H6 z' z2 w' w2 _ I6 r4 r6 q6) fun d' s7 ⟨u2, H7, I7, r7, k2, e2, q7⟩ => ?_))
      subst e2
      cases r7
      refine wpAny_truthy_bool ?_
      cases k2 with
      | false => exact ite_ff ⟨.bl false, H7, I7, rfl, q7⟩
      | true => exact ite_tt (chain_last (thn (hf.run pins s7 σ H7 _ I7 q7) fun w3 s8 ⟨z3, H8, I8, r8, q8⟩ => h4 pins s8 σ H8 z2 z3 w2 w3 Q I8 r6 r8 q8))
end
section
variable {σ : L2.St} {H : Hp} {Q : VK} {r1 r2 r3 r4 : R2} {ta tb tc td tf : TE}
theorem g_chain3 (h : ta σ H fun x H1 => tb σ H1 fun y H2 => r1 x y H2 fun z H3 => rTst z H3 fun k H4 => Br k (tc σ H4 fun z' H5 => r2 y z' H5 fun u H6 => rTst u H6 fun k' H7 => Br k' (td σ H7 fun w' H8 => r3 z' w' H8 Q) (Q (.bl false) H7)) (Q (.bl false) H4)) : tChain3 r1 r2 r3 ta tb tc td σ H Q := h
theorem g_chain4 (h : ta σ H fun x H1 => tb σ H1 fun y H2 => r1 x y H2 fun z H3 => rTst z H3 fun k H4 => Br k (tc σ H4 fun z' H5 => r2 y z' H5 fun u H6 => rTst u H6 fun k' H7 => Br k' (td σ H7 fun w' H8 => r3 z' w' H8 fun u H6 => rTst u H6 fun k' H7 => Br k' (tf σ H7 fun w2 H8 => r4 w' w2 H8 Q) (Q (.bl false) H7)) (Q (.bl false) H7)) (Q (.bl false) H4)) : tChain4 r1 r2 r3 r4 ta tb tc td tf σ H Q := h
end
section
variable {X : Cx}
def rUpd : V → List V → Hp → VK → Prop := fun x vs H Q => ∃ a b kvs more, x = .ref a ∧ vs = [.ref b] ∧ b ≠ a ∧ H a = some (.dK kvs) ∧ H b = some (.dK more) ∧ kvs.length + more.length ≤ sizeLine ∧ Q .non (upd H a (.dK (mergeK kvs more)))
theorem mt_update : MtR X "dict.update" rUpd := by
  intro pins s σ H x vs v us Q I rx rv h
  obtain ⟨a, b, kvs, more, rfl, rfl, hab, hA, hB, hz, q⟩ := h
  cases rx
  obtain ⟨u, rfl, ru⟩ := vals1 rv
  cases ru
  obtain ⟨z, hd, vs, rel, dd⟩ := dk_of I.hok hA
  obtain ⟨z2, hd2, vs2, rel2, dd2⟩ := dk_of I.hok hB
  refine call_meetsIn PySem.F.slot_dict_update dd.typeIs PySem.F.entry_dict_update (PySem.F.args_dict_update_2 _ _) (meets_dict_update (mixKind X.prog X.w) a b (Ne.symm hab) hd2)
    ⟨vs, vs2, dd, dd2, by rw [← rel.length, ← rel2.length]; exact hz, fun h' dd' _ hs => ?_⟩
  have he : ∃ q, h'.get? a = some q := let ⟨q, _, _, hq, _⟩ := dd'; ⟨q, hq⟩
  refine ⟨.non, _, d_write (t' := s.toks) I (by rw [hA]; exact True.intro) hs he (dk_new (Nat.le_trans (length_mergeK more kvs) hz) hd (rel2.merge rel) dd'), rfl, q⟩
end
end Z

/-! Z3: sorted of pairs of ints. -/
namespace Z
open PySem PySem.Spec PyProof.Rows L2
def pairOf (B : Hp) (p : Addr) : Int × Int := match B p with | some (.tup [.int i, .int j]) => (i, j) | _ => (0, 0)
theorem pairOf_eq {B : Hp} {p : Addr} {i j : Int} (h : B p = some (.tup [.int i, .int j])) : pairOf B p = (i, j) := by unfold pairOf; rw [h]
def vAd : V → Addr | .ref a => a | _ => 0
def rSortP (K : PySem.W.Frag) : List V → Hp → VK → Prop := rSortedPO K
theorem call_sortP {X : Cx} : CallR X (.builtin "sorted") (rSortP X.K) := cr_sortedPO
theorem refs_of : ∀ {ys : List V}, (∀ y ∈ ys, ∃ p, y = V.ref p) → ∃ qs : List Addr, ys = qs.map V.ref
  | [], _ => ⟨[], rfl⟩
  | y :: ys, h => by
    obtain ⟨p, rfl⟩ := h y (List.mem_cons_self ..)
    obtain ⟨qs, rfl⟩ := refs_of fun z hz => h z (List.mem_cons_of_mem _ hz)
    exact ⟨p :: qs, rfl⟩
theorem map_ref_perm {ps qs : List Addr} (h : (ps.map V.ref).Perm (qs.map V.ref)) : ps.Perm qs := by
  have := h.map vAd
  rwa [List.map_map, List.map_map, show (vAd ∘ V.ref) = id from rfl, List.map_id, List.map_id] at this
theorem r_sortP {K : PySem.W.Frag} {B H : Hp} {L : List Cell} {a : Addr} {ps : List Addr} {Q : VK} (w : W B L H) (h : SqL K B a (ps.map V.ref)) (hp : ∀ p ∈ ps, ∃ i j, B p = some (.tup [.int i, .int j]))
    (q : ∀ (p : Addr) (B' H' : Hp) (qs : List Addr), Same B B' → qs.Perm ps → (qs.map fun p => (pairOf B p).1).Pairwise (· ≤ ·) → qs.Pairwise (fun x y => ¬ ((pairOf B y).1 < (pairOf B x).1 ∨ ((pairOf B y).1 = (pairOf B x).1 ∧ (pairOf B y).2 < (pairOf B x).2))) → B' p = some (.lst (qs.map V.ref)) → W B' L H' → Q (.ref p) H') : rSortP K [.ref a] H Q := by
  refine ⟨a, ps.map V.ref, fun v => pairOf B (vAd v), rfl, w.sq h, fun x hx => ?_, fun ys p hs hb hn => ?_⟩
  · obtain ⟨t, ht, rfl⟩ := List.mem_map.mp hx
    obtain ⟨i, j, e⟩ := hp t ht
    refine ⟨t, rfl, ?_⟩
    show H t = some (.tup [.int (pairOf B t).1, .int (pairOf B t).2])
    rw [pairOf_eq e]
    exact w.rd e
  · obtain ⟨qs, rfl⟩ := refs_of (ys := ys) fun y hy => by
      obtain ⟨t, _, e⟩ := List.mem_map.mp (hb.perm.mem_iff.mp hy)
      exact ⟨t, e.symm⟩
    have pm := map_ref_perm hb.perm
    have pw : qs.Pairwise (fun x y => ¬ ((pairOf B y).1 < (pairOf B x).1 ∨ ((pairOf B y).1 = (pairOf B x).1 ∧ (pairOf B y).2 < (pairOf B x).2))) := by
      have := List.pairwise_map.mp hs
      exact this.imp fun {x y} hxy => SrtO.lexB_no.mp hxy
    refine q p _ _ qs (same_new (w.freeB hn)) pm (List.pairwise_map.mpr (pw.imp fun {x y} hxy => by omega)) pw upd_same (w.newB hn _)
end Z

/-! Z5: C.__init__(self, ..) of an own class C, by its name; what is never reached. -/
namespace Z
open PySem PySem.Spec PyProof.Rows L2
section
variable {X : Cx} {CX : CXT} {k : Nat} {x m : Str} {C0 fI : Addr} {mc : Value} {fd : FuncData} {ps : List Str} {sp : Sp} {ds : List Value} {dvs : List V} {E : XK} {e : Expr} {es : List Expr} {ta t : TA} {p1 p2 pos : Pos} {st : Stmt} {pl : Sem Bool}
theorem ps_dead : PS X st (fun _ _ _ => False) := ⟨fun _ _ _ _ _ _ h => h.elim⟩
/-- WalkError.__init__(self, ..): nothing of it is told -/
theorem pe_weinit (hg : Gl X x) (hm : X.mg x = some (.ref C0)) (r : ClX.CRead X.K C0 mc) (vV : PySem.W.findCls X.K (.ref C0) mc "__init__" = some (.val (.builtin "ValueError.__init__"))) (ha : PA X (e :: es) ta)
    (hdb : (x == ("__debug__" : Str)) = false := by decide)
    (hc : eval (.Call (.Attribute (.Name x p1) "__init__" p2) (e :: es) [] pos) X.env = (do
      let ov ← eval (.Name x p1) X.env
      standAt p2.atName
      let (f, first) ← holding [ov] (getMethod ov "__init__" pl)
      callWith pos f first (backTo pos (starEach (e :: es) X.env)) (backToKw pos (keywordEach [] X.env))) := by rfl)
    (he : starEach (e :: es) X.env = (false, eval e X.env) :: starEach es X.env := by rfl) (hpl : (backTo pos (starEach es X.env)).any (·.1) = false := by rfl) :
    PE X (.Call (.Attribute (.Name x p1) "__init__" p2) (e :: es) [] pos) (tVeI X.K ta) := by
  refine ⟨fun pins s σ H Q I h => ?_⟩
  refine PySem.W.methodCall_KW (ld_glob I hg hm ?_ hdb) hc
  refine PySem.W.method_cls I.kIn r.ga (PySem.W.cls_value I.kIn r.rd vV (by decide +kernel) ?_)
  show wpAny _ _ (callWith pos (Value.builtin "ValueError.__init__") [] (backTo pos (starEach (e :: es) X.env)) []) _ _ _
  refine PyProof.Rows.callWith_method1 (thn (ha.run pos pins _ σ H _ (I.tok _) h) fun us s1 ⟨vs, H1, I1, r1, a, C, ws, ev, hl, T, ea, q⟩ => ?_) he hpl
  subst ev
  cases r1 with
  | @cons _ u0 _ ur ra rw' =>
    obtain rfl : u0 = Value.ref a := ra
    have hlen : ur.length ≤ sizeLine := by
      rw [← Paired.length rw', sizeLine_eq]
      omega
    exact oinit_ok T I1 ea hlen fun s' J => ⟨.non, H1, J, rfl, q⟩
/-- C.m(a, ..), m a def of the class at C0 -/
theorem pe_cinit (hg : Gl X x) (hm : X.mg x = some (.ref C0)) (r : ClX.CRead X.K C0 mc) (vV : PySem.W.findCls X.K (.ref C0) mc m = some (.val (.ref fI))) (hh : PySem.W.handedIn (.ref fI) = true)
    (F : FnOk X.prog X.w X.K X.mg X.base CX k fI fd ps sp) (hr : Room k X.A) (hk : PySem.W.keepIn X.K (.ref fI) = true) (hb : Binds X.K fd ps ds) (hd : Vals dvs ds) (hx : Passes CX X E) (ha : PA X (e :: es) t)
    (hdb : (x == ("__debug__" : Str)) = false := by decide)
    (hc : eval (.Call (.Attribute (.Name x p1) m p2) (e :: es) [] pos) X.env = (do
      let ov ← eval (.Name x p1) X.env
      standAt p2.atName
      let (f, first) ← holding [ov] (getMethod ov m pl)
      callWith pos f first (backTo pos (starEach (e :: es) X.env)) (backToKw pos (keywordEach [] X.env))) := by rfl)
    (he : starEach (e :: es) X.env = (false, eval e X.env) :: starEach es X.env := by rfl) (hpl : (backTo pos (starEach es X.env)).any (·.1) = false := by rfl) :
    PE X (.Call (.Attribute (.Name x p1) m p2) (e :: es) [] pos) (tCall sp dvs E t) := by
  refine ⟨fun pins s σ H Q I h => ?_⟩
  refine PySem.W.methodCall_KW (ld_glob I hg hm ?_ hdb) hc
  refine PySem.W.method_cls I.kIn r.ga (PySem.W.cls_value I.kIn r.rd vV hh ?_)
  show wpAny _ _ (callWith pos (Value.ref fI) [] (backTo pos (starEach (e :: es) X.env)) []) _ _ _
  refine PySem.W.callWith_K (h₀ := X.base) I.ok.mod.kin hk (thn (ha.run pos pins _ σ H _ (I.tok _) h) fun us s1 ⟨vs, H1, I1, r, q⟩ => ⟨I1.kIn, ?_⟩) he hpl
  exact run_fn F hr hb hd hx I1 r q
end
end Z

/-! Z6: readings of lists: methods, stores, in, sum, sorted. -/
namespace Z
open PySem PySem.Spec PyProof.Rows L2
def rBm (K : PySem.W.Frag) (T : String) (r : V → List V → Hp → VK → Prop) (t : TA) (σ : L2.St) (x : V) (H1 : Hp) (Q : VK) : Prop := tyV K T x H1 ∧ t σ H1 fun xs H2 => r x xs H2 Q
section
variable {K : PySem.W.Frag} {T : String} {r : V → List V → Hp → VK → Prop} {t : TA} {to ti : TE} {σ : L2.St} {H : Hp} {Q : VK} {x y v : V} {l p : Addr} {xs : List V} {ns : List Int} {n : Int} {k : Nat} {ts : TSet} {QS : L2.St → Hp → Prop} {P : Hp → Prop}
theorem g_bm (h : to σ H fun x H1 => rBm K T r t σ x H1 Q) : tBM K T r to t σ H Q := h
theorem g_bm0 (h : to σ H fun x H1 => tyV K T x H1 ∧ r x [] H1 Q) : tBM0 K T r to σ H Q := h
theorem r_bmL (h : SqL K H l xs) (q : t σ H fun xs H2 => r (.ref l) xs H2 Q) : rBm K "list" r t σ (.ref l) H Q := ⟨.inl ⟨rfl, _, h⟩, q⟩
theorem r_append (h : H l = some (.lst xs)) (z : xs.length < sizeLine) (q : Q .non (upd H l (.lst (xs ++ [y])))) : rAppend (.ref l) [y] H Q := ⟨l, xs, y, rfl, rfl, h, z, q⟩
theorem r_extend {zs : List V} (h : H l = some (.lst xs)) (h2 : H p = some (.lst zs)) (z : xs.length + zs.length ≤ sizeLine) (q : Q .non (upd H l (.lst (xs ++ zs)))) : rExtend (.ref l) [.ref p] H Q := ⟨l, p, xs, zs, rfl, rfl, h, h2, z, q⟩
theorem seqIx (h : k < xs.length) : seqIndex? (k : Int) xs.length = some k := by
  unfold seqIndex?
  have e : (if (k : Int) < 0 then (k : Int) + (xs.length : Nat) else (k : Int)) = (k : Int) := if_neg (by omega)
  simp only [e]
  rw [if_pos (by simp; omega)]
  simp
theorem r_popAt (h : H l = some (.lst xs)) (z : xs.length < 2 ^ 62) (e : xs[k]? = some y) (q : Q y (upd H l (.lst (xs.eraseIdx k)))) : rPopAt (.ref l) [.int (k : Nat)] H Q := by
  have hk := (List.getElem?_eq_some_iff.mp e).1
  exact ⟨l, xs, k, k, y, rfl, rfl, h, by omega, by omega, seqIx hk, e, q⟩
def rInsert : V → List V → Hp → VK → Prop := fun x vs H Q => ∃ (l : Addr) (xs : List V) (i : Int) (y : V), x = .ref l ∧ vs = [.int i, y] ∧ H l = some (.lst xs) ∧ xs.length < sizeLine ∧ 0 ≤ i ∧ i < 2 ^ 63 ∧ Q .non (upd H l (.lst (xs.take i.toNat ++ [y] ++ xs.drop i.toNat)))
theorem mt_insertZ {X : Cx} : MtR X "list.insert" rInsert := mt_insert
theorem r_insert (h : H l = some (.lst xs)) (z : xs.length < sizeLine) (hk : k < 2 ^ 62) (q : Q .non (upd H l (.lst (xs.take k ++ [y] ++ xs.drop k)))) : rInsert (.ref l) [.int (k : Nat), y] H Q :=
  ⟨l, xs, k, y, rfl, rfl, h, z, by omega, by omega, q⟩
def rSubS (ts : TSet) (v : V) (QS : Hp → Prop) (o i : V) (H2 : Hp) : Prop := ts o i v H2 QS
theorem g_sub (h : to σ H fun o H1 => ti σ H1 fun i H2 => rSubS ts v (QS σ) o i H2) : gSub to ti ts v σ H QS := h
theorem r_setL (h : H l = some (.lst xs)) (hk : k < xs.length) (q : P (upd H l (.lst (xs.set k v)))) : rSubS rSetL v P (.ref l) (.int (k : Nat)) H := by
  refine ⟨l, xs, k, k, rfl, rfl, h, ?_, q⟩
  unfold ixN
  rw [if_pos (by omega), if_pos (by omega)]
  simp
theorem flat_ints : ∀ ns : List Int, (ns.map V.int).all flatV = true
  | [] => rfl
  | _ :: r => by rw [List.map_cons, List.all_cons, flat_ints r]; rfl
theorem in_ints (n : Int) : ∀ ns : List Int, inV (.int n) (ns.map V.int) = decide (n ∈ ns)
  | [] => by simp [inV]
  | m :: r => by
    have h := in_ints n r
    unfold inV at h ⊢
    rw [List.map_cons, List.any_cons, h]
    show (m == n || decide (n ∈ r)) = decide (n ∈ m :: r)
    by_cases e : n = m
    · subst e; simp
    · have e2 : (m == n) = false := by simpa using fun h : m = n => e h.symm
      rw [e2]
      simp [e]
theorem r_inL (h : SqL K H p (ns.map V.int)) (q : Q (.bl (decide (n ∈ ns))) H) : rIn K false (.int n) (.ref p) H Q := ⟨p, _, rfl, .inl h, rfl, flat_ints ns, by rw [in_ints]; exact q⟩
theorem r_ninL (h : SqL K H p (ns.map V.int)) (q : Q (.bl (!decide (n ∈ ns))) H) : rIn K true (.int n) (.ref p) H Q := ⟨p, _, rfl, .inl h, rfl, flat_ints ns, by rw [in_ints]; exact q⟩
theorem r_sum (h : SqL K H p (ns.map V.int)) (q : Q (.int ns.sum) H) : rSum K [.ref p] H Q := ⟨p, ns, rfl, h, q⟩
theorem r_sortI {B : Hp} {L : List Cell} (w : W B L H) (h : SqL K H p (ns.map V.int)) (q : ∀ (p' : Addr) (B' H' : Hp) (ms : List Int), ms.Perm ns → ms.Pairwise (· ≤ ·) → Same B B' → B' p' = some (.lst (ms.map V.int)) → W B' L H' → Q (.ref p') H') : rSortedI K [.ref p] H Q :=
  ⟨p, ns, rfl, h, fun ms p' h1 h2 hn => q p' _ _ ms h1 h2 (same_new (w.freeB hn)) upd_same (w.newB hn _)⟩
end
end Z

/-! Z7: sorted of a dict's keys, whole numbers, any number of them. -/
namespace Z
open PySem PySem.Spec PyProof.Rows L2
def rSortDI : List V → Hp → VK → Prop := fun xs H Q => ∃ (a : Addr) (kvs : List (Key × V)) (ns : List Int), xs = [.ref a] ∧ Rd H a (.dK kvs) ∧ kvs.map (·.1) = ns.map Sum.inl ∧
  ∀ (ms : List Int) (p : Addr), ms.Perm ns → ms.Pairwise (· ≤ ·) → H p = none → Q (.ref p) (upd H p (.lst (ms.map V.int)))
theorem call_sortDI {X : Cx} (hcalm : X.calm = true) : CallR X (.builtin "sorted") rSortDI := by
  intro pins s σ H xs us Q I r q
  obtain ⟨a, kvs, ns, ex, hd, hks, q⟩ := q
  subst ex
  obtain ⟨u, eu, rx⟩ := vals1 r
  subst eu
  cases rx
  obtain ⟨z, lo, vs, rel, dd⟩ := dk_rd I.hok hd
  obtain ⟨ep, hat⟩ := dd.dictAt
  have hkeys : vs.map (·.1) = ns.map Sum.inl := rel.keys.symm.trans hks
  have hl : vs.length = ns.length := by
    have e := congrArg List.length hkeys
    rw [List.length_map, List.length_map] at e
    exact e
  have h16 : vs.length ≤ sizeLine := by rw [← rel.length]; exact z
  refine Calls.call_function_entry PyProof.Rows.kind_sorted PyProof.Rows.plain_sorted PyProof.Rows.entry_sorted (PyProof.Rows.args_sorted1 _) ?_
  unfold Builtin.«sorted»
  refine wpAny_bind (m := checkCount "sorted" 1 1 _) (wpAny_pure ?_)
  refine wpAny_bind (PySem.W.kdu_collect (A := X.A.in1) (PySem.W.kdl_dict (knd := mixKind X.prog X.w) (kvs := vs) (ep := ep) lo) (I.ok.hd hcalm) hat h16 fun h' tk acc hk hacc => ?_)
  have hv : Vals (vs.map fun p => kV p.1) acc.toList := keys_at (by rw [Array.length_toList]; exact hacc.1) fun j v e => hacc.2 j v (by rw [← Array.getElem?_toList]; exact e)
  have ek : (vs.map fun p => kV p.1) = ns.map V.int := by
    have e := congrArg (List.map kV) hkeys
    rw [List.map_map, List.map_map] at e
    exact e
  rw [ek] at hv
  have hi := hv.ints
  have hal : acc.toList.length = ns.length := by rw [Array.length_toList, hacc.1, hl]
  have hz : acc.toList.length ≤ sizeLine := by rw [hal, ← hl]; exact h16
  have I1 : Inv X pins σ H { s with heap := h', toks := tk } := I.kept hk
  refine wpAny_bind (wpAny_newList ?_ hz)
  have hoL : (h'.push (seqObj "list" acc.toList.toArray 0)).get? h'.objs.size = some (seqObj "list" acc.toList.toArray 0) := Heap.get?_push_size _ rfl
  show wpAny _ _ _ _ _ { s with heap := h'.push (seqObj "list" acc.toList.toArray 0), toks := tk }
  refine wpAny_bind (wpAny_holding (wpAny_call_entry PyProof.Rows.slot_list_sort ⟨_, hoL, rfl⟩ PyProof.Rows.entry_list_sort
    (SrtO.list_sort_ord SrtO.swo_int (s := { s with heap := h'.push (seqObj "list" acc.toList.toArray 0), toks := tk }) hoL hz (fun h2 => SrtO.ints_sortable hi h2) fun out h1 h2 => ⟨_, rfl, ?_⟩)
    (PyProof.Rows.args_list_sort _)))
  obtain ⟨k1, k2, k3⟩ := SrtO.ints_out hi h1 h2
  obtain ⟨e', he'⟩ := PyProof.Rows.sortedHeap_at (vs := acc.toList) (out := out.toArray) hoL
  have hlen : ((out.map SrtO.iv).map V.int).length ≤ sizeLine := by
    rw [List.length_map, k2.length_eq, ← hl]
    exact h16
  refine wpAny_pure ⟨_, rfl, .ref h'.objs.size, upd H h'.objs.size (.lst ((out.map SrtO.iv).map V.int)), I1.laid (t' := tk) (fun b u e => ?_) (Nat.le_refl _)
    (show ObjOk X.prog X.w _ _ _ (.lst ((out.map SrtO.iv).map V.int)) from ⟨hlen, out, e', vals_of_ints k1, he'⟩), rfl, q _ _ k2 k3 (I1.hok.fresh (Nat.le_refl _))⟩
  have hb : b < h'.objs.size := Heap.lt_size e
  rw [PyProof.Rows.sortedHeap_old (Nat.ne_of_lt hb) (by rw [size_push']; exact Nat.lt_succ_of_lt hb)]
  exact Heap.get?_push_of_some _ e
end Z

/-! Z8: slices by a step of two or more. -/
namespace Z
open PySem PySem.Spec PyProof.Rows L2
theorem vals_pick {xs : List V} {us : List Value} (r : Vals xs us) : ∀ js : List Nat, Vals (js.filterMap (xs[·]?)) (js.filterMap (us.toArray[·]?))
  | [] => .nil
  | j :: js => by
    have ih := vals_pick r js
    cases e : xs[j]? with
    | none =>
      have e2 : us[j]? = none := r.none_of e
      have e3 : us.toArray[j]? = none := by simpa using e2
      rw [List.filterMap_cons_none e, List.filterMap_cons_none e3]
      exact ih
    | some x =>
      obtain ⟨u, e2, ru⟩ := r.get e
      have e3 : us.toArray[j]? = some u := by simpa using e2
      rw [List.filterMap_cons_some e, List.filterMap_cons_some e3]
      exact .cons ru ih
theorem range_up {a b c : Int} (ha : 0 ≤ a) (hc : 0 < c) : (sliceRange a b c).Pairwise (· < ·) := by
  unfold sliceRange
  refine List.pairwise_map.mpr ?_
  refine List.pairwise_lt_range.imp ?_
  intro i j hij
  have h1 : 0 ≤ c * (i : Int) := Int.mul_nonneg (by omega) (by omega)
  have h2 : c * (i : Int) < c * (j : Int) := Int.mul_lt_mul_of_pos_left (by omega) hc
  omega
def rStep (K : PySem.W.Frag) (Q : VK) (x : V) (H : Hp) : Prop := ∃ a xs, x = .ref a ∧ SqL K H a xs ∧ ∀ (js : List Nat) p, js.Pairwise (· < ·) → (js.filterMap (xs[·]?)).length ≤ xs.length → H p = none → Q (.ref p) (upd H p (.lst (js.filterMap (xs[·]?))))
def tStep0 (K : PySem.W.Frag) (te : TE) : TE := fun σ H Q => te σ H (rStep K Q)
def tStepL (K : PySem.W.Frag) (te : TE) (lo : Int) : TE := fun σ H Q => te σ H (rStep K Q)
section
variable {X : Cx}
theorem pe_step {e : Expr} {te : TE} {low : Option Expr} {tl : TO} {lo : Option Int} {c : Int} {k : Nat} {p1 p3 pos : Pos} (hc : 0 < c) (hp : PO X low tl) (htl : ∀ σ H (Q : Option Int → Hp → Prop), Q lo H → tl σ H Q) (he : PE X e te) : PE X (.Subscript e (.Slice low none (some (.Constant (.int c) k p1)) p3) pos) (tStep0 X.K te) := by
  refine ⟨fun pins s σ H Q I h => ?_⟩
  refine Subscript_ (thn (he.run pins s σ H _ I h) fun v s1 ⟨x, H1, I1, r1, q1⟩ => ?_)
  obtain ⟨a, xs, ex, hx, q⟩ := q1
  subst ex
  cases r1
  have hst : PO X (some (.Constant (.int c) k p1)) (tPart (tC (.int c))) := po_some pe_int
  refine wpAny_Slice (thn (hp.run pins s1 σ H1 (fun o H2 => o = lo ∧ H2 = H1) I1 (htl _ _ _ ⟨rfl, rfl⟩)) fun vl s2 ⟨l, H2, I2, pl, el, e2⟩ => ?_)
  subst el e2
  refine thn (po_none.run pins s2 σ H2 (fun o H3 => o = none ∧ H3 = H2) I2 ⟨rfl, rfl⟩) fun vu s3 ⟨u, H3, I3, pu, eu, e3⟩ => ?_
  subst eu e3
  refine thn (hst.run pins s3 σ H3 (fun o H4 => o = some c ∧ H4 = H3) I3 ⟨c, rfl, rfl, rfl⟩) fun vs s4 ⟨o, H4, I4, ps, eo, e4⟩ => ?_
  subst eo e4
  have I5 : Inv X pins σ H4 { s4 with heap := s4.heap.push { cls := .type "slice", data := .fields #[vl, vu, vs] } } := I4.kept (t' := s4.toks) fun b ob q => Heap.get?_push_of_some _ q
  obtain ⟨its, r, ht, hz⟩ := I5.list hx
  have hlen := r.length
  show wpAny (model X.prog X.w) X.A (subscriptTail e (.Slice low none (some (.Constant (.int c) k p1)) p3) (.ref a) (.ref s4.heap.objs.size)) (EP X pins σ Q) X.xe { s4 with heap := s4.heap.push { cls := .type "slice", data := .fields #[vl, vu, vs] } }
  refine tail_any (ops := [.ref a, .ref s4.heap.objs.size]) ht.isList.typeIs (PySem.slot_list_getitem.lookup) ?_ (by with_unfolding_all rfl)
  refine wpAny_getItem_list_slice ht.isList (Heap.IsSliceOf.new _ vl vu vs) pl pu ps (by simp; omega) ?_ (by rw [List.size_toArray]; omega)
  have h1 := slicePick_size_le its.toArray l none (some c)
  have hv := vals_pick r (sliceRange (sliceBounds l none (some c) its.toArray.size).1 (sliceBounds l none (some c) its.toArray.size).2.1 (sliceBounds l none (some c) its.toArray.size).2.2)
  have hj : (sliceRange (sliceBounds l none (some c) its.toArray.size).1 (sliceBounds l none (some c) its.toArray.size).2.1 (sliceBounds l none (some c) its.toArray.size).2.2).Pairwise (· < ·) := by
    have h3 : (sliceBounds l none (some c) its.toArray.size).2.2 = c := rfl
    rw [h3]
    refine range_up ?_ hc
    simp only [sliceBounds, Option.getD_some, gt_iff_lt, hc, if_true]
    cases l with
    | none => simp
    | some i => dsimp only; omega
  unfold slicePick at h1 ⊢
  generalize sliceRange (sliceBounds l none (some c) its.toArray.size).1 (sliceBounds l none (some c) its.toArray.size).2.1 (sliceBounds l none (some c) its.toArray.size).2.2 = js at h1 hv hj ⊢
  have hl2 : (js.filterMap (xs[·]?)).length ≤ xs.length := by rw [hv.length]; rw [List.size_toArray, List.size_toArray] at h1; omega
  refine ⟨.ref _, _, I5.laid (t' := s4.toks) (o := .lst (js.filterMap (xs[·]?))) (fun b ob q => Heap.get?_push_of_some _ q) (Nat.le_refl _) ?_, rfl, q js _ hj hl2 (I5.hok.fresh (Nat.le_refl _))⟩
  exact ⟨by omega, _, 0, hv, Heap.get?_push_size _ rfl⟩
theorem pe_step0 {e : Expr} {te : TE} {c : Int} {k : Nat} {p1 p3 pos : Pos} (hc : 0 < c) (he : PE X e te) : PE X (.Subscript e (.Slice none none (some (.Constant (.int c) k p1)) p3) pos) (tStep0 X.K te) :=
  pe_step (lo := none) hc po_none (fun _ _ _ h => h) he
theorem pe_stepL {e : Expr} {te : TE} {c lo : Int} {k k2 : Nat} {p1 p2 p3 pos : Pos} (hc : 0 < c) (he : PE X e te) : PE X (.Subscript e (.Slice (some (.Constant (.int lo) k2 p2)) none (some (.Constant (.int c) k p1)) p3) pos) (tStep0 X.K te) :=
  pe_step (lo := some lo) (tl := tPart (tC (.int lo))) hc (po_some pe_int) (fun _ _ _ h => ⟨lo, rfl, h⟩) he
end
section
variable {K : PySem.W.Frag} {σ : L2.St} {B H : Hp} {L : List Cell} {te : TE} {a : Addr} {ns : List Int} {Q : VK}
theorem g_step0 (h : te σ H (rStep K Q)) : tStep0 K te σ H Q := h
theorem pick_int (ns : List Int) : ∀ js : List Nat, js.filterMap ((ns.map V.int)[·]?) = (js.filterMap (ns[·]?)).map V.int
  | [] => rfl
  | j :: js => by
    have ih := pick_int ns js
    cases e : ns[j]? with
    | none => rw [List.filterMap_cons_none (by rw [List.getElem?_map, e]; rfl), List.filterMap_cons_none e, ih]
    | some n => rw [List.filterMap_cons_some (b := V.int n) (by rw [List.getElem?_map, e]; rfl), List.filterMap_cons_some e, ih]; rfl
theorem pick_mem {ns : List Int} {js : List Nat} {n : Int} (h : n ∈ js.filterMap (ns[·]?)) : n ∈ ns := by
  obtain ⟨j, _, e⟩ := List.mem_filterMap.mp h
  exact List.mem_of_getElem? e
theorem pick_nd {ns : List Int} {js : List Nat} (h : ns.Nodup) (hj : js.Pairwise (· < ·)) : (js.filterMap (ns[·]?)).Nodup := by
  unfold List.Nodup
  refine List.pairwise_filterMap.mpr (hj.imp ?_)
  intro i j hij x hx y hy e
  subst e
  obtain ⟨h1, e1⟩ := List.getElem?_eq_some_iff.mp hx
  obtain ⟨h2, e2⟩ := List.getElem?_eq_some_iff.mp hy
  have := List.pairwise_iff_getElem.mp h i j h1 h2 hij
  rw [e1, e2] at this
  exact this rfl
/-- every so many of a list of numbers: some of them, none twice where none stood twice -/
theorem d_step (w : W B L H) (h : SqL K H a (ns.map V.int)) (q : ∀ (ms : List Int) p B' H', (∀ n ∈ ms, n ∈ ns) → (ns.Nodup → ms.Nodup) → ms.length ≤ ns.length → H p = none → Same B B' → B' p = some (.lst (ms.map V.int)) → W B' L H' → Q (.ref p) H') : rStep K Q (.ref a) H := by
  refine ⟨a, _, rfl, h, fun js p hj hl hp => ?_⟩
  rw [pick_int] at hl ⊢
  rw [List.length_map, List.length_map] at hl
  exact q _ p _ _ (fun n => pick_mem) (fun hn => pick_nd hn hj) hl hp (same_new (w.freeB hp)) upd_same (w.newB hp _)
end
section
variable {K : PySem.W.Frag} {σ : L2.St} {B H : Hp} {L : List Cell} {te : TE} {a : Addr} {xs : List V} {Q : VK}
def rRevL (K : PySem.W.Frag) (Q : VK) (x : V) (H1 : Hp) : Prop := ∃ a xs, x = .ref a ∧ SqL K H1 a xs ∧ ∀ p, H1 p = none → Q (.ref p) (upd H1 p (.lst xs.reverse))
theorem g_revL (h : te σ H (rRevL K Q)) : tRevL K te σ H Q := h
theorem d_revL (w : W B L H) (h : SqL K H a xs) (q : ∀ p B' H', H p = none → Same B B' → B' p = some (.lst xs.reverse) → W B' L H' → Q (.ref p) H') : rRevL K Q (.ref a) H :=
  ⟨a, xs, rfl, h, fun p hp => q p _ _ hp (same_new (w.freeB hp)) upd_same (w.newB hp _)⟩
end
end Z

/-! Z9: dicts with whole numbers as keys; enumerate. -/
namespace Z
open PySem PySem.Spec PyProof.Rows L2
/-- the keys of a dict, in their order -/
def Ks (kvs : List (Key × V)) (ns : List Int) : Prop := kvs.map (·.1) = ns.map Sum.inl
section
variable {kvs : List (Key × V)} {ns : List Int} {n : Int} {v : V}
theorem Ks.nil : Ks [] [] := rfl
theorem Ks.len (h : Ks kvs ns) : kvs.length = ns.length := by
  have e := congrArg List.length h
  rwa [List.length_map, List.length_map] at e
theorem inl_mem {ns : List Int} {n : Int} : (Sum.inl n : Key) ∈ ns.map Sum.inl ↔ n ∈ ns := by
  rw [List.mem_map]
  constructor
  · rintro ⟨m, h, e⟩; cases e; exact h
  · exact fun h => ⟨n, h, rfl⟩
theorem Ks.isSome (h : Ks kvs ns) : (valV kvs (Sum.inl n)).isSome = decide (n ∈ ns) := by
  cases e : valV kvs (Sum.inl n) with
  | none =>
    have h1 := valV_not e
    rw [h, inl_mem] at h1
    exact (decide_eq_false h1).symm
  | some v =>
    have h1 := valV_in e
    rw [h, inl_mem] at h1
    exact (decide_eq_true h1).symm
theorem Ks.some (h : Ks kvs ns) (hn : n ∈ ns) : ∃ v, valV kvs (Sum.inl n) = some v := by
  have e := h.isSome (n := n)
  rw [decide_eq_true hn] at e
  exact Option.isSome_iff_exists.mp e
theorem Ks.none (h : Ks kvs ns) (hn : n ∉ ns) : valV kvs (Sum.inl n) = none := by
  have e := h.isSome (n := n)
  rw [decide_eq_false hn] at e
  cases e2 : valV kvs (Sum.inl n) with
  | none => rfl
  | some u => rw [e2] at e; cases e
theorem Ks.new (h : Ks kvs ns) (hn : n ∉ ns) : Ks (putK kvs (Sum.inl n) v) (ns ++ [n]) := by
  rw [putK_new v (h.none hn)]
  unfold Ks at h ⊢
  rw [List.map_append, h, List.map_append]
  rfl
theorem Ks.old (h : Ks kvs ns) (hn : n ∈ ns) : Ks (putK kvs (Sum.inl n) v) ns := by
  have e : (kvs.any fun kv => decide (kv.1 = Sum.inl n)) = true := by rw [valV_any, h.isSome, decide_eq_true hn]
  unfold Ks putK at *
  rw [if_pos e, List.map_map, ← h]
  refine List.map_congr_left fun p _ => ?_
  show (if p.1 = Sum.inl n then (p.1, v) else p).1 = p.1
  split <;> rfl
theorem Ks.drop : ∀ {kvs : List (Key × V)} {ns : List Int}, Ks kvs ns → Ks (dropK kvs (Sum.inl n)) (ns.filter fun m => !decide (m = n))
  | [], [], _ => rfl
  | [], _ :: _, h => nomatch h
  | _ :: _, [], h => nomatch h
  | p :: r, m :: ms, h => by
    unfold Ks at h
    rw [List.map_cons, List.map_cons] at h
    injection h with h1 h2
    have ih := Ks.drop (show Ks r ms from h2)
    by_cases e : m = n
    · subst e
      rw [dropK_pos h1, List.filter_cons_of_neg (by simp)]
      exact ih
    · rw [dropK_neg (by rw [h1]; intro z; cases z; exact e rfl), List.filter_cons_of_pos (by simpa using e)]
      unfold Ks at ih ⊢
      rw [List.map_cons, List.map_cons, h1, ih]
end
section
variable {K : PySem.W.Frag} {σ : L2.St} {H : Hp} {Q : VK} {td ty tx : TE} {a : Addr} {kvs : List (Key × V)} {n : Int} {v z : V}
def rDPop1 (Q : VK) (ty : TE) (σ : L2.St) (x : V) (H1 : Hp) : Prop := ∃ a, x = .ref a ∧ IsD H1 a ∧ ty σ H1 fun y H2 => ∃ kvs k v, H2 a = some (.dK kvs) ∧ y = kV k ∧ valV kvs k = some v ∧ Q v (upd H2 a (.dK (dropK kvs k)))
def rDP1 (Q : VK) (a : Addr) (y : V) (H2 : Hp) : Prop := ∃ kvs k v, H2 a = some (.dK kvs) ∧ y = kV k ∧ valV kvs k = some v ∧ Q v (upd H2 a (.dK (dropK kvs k)))
theorem g_dpop1 (h : td σ H (rDPop1 Q ty σ)) : tDPop1 td ty σ H Q := h
theorem r_dpop1 (h : IsD H a) (q : ty σ H (rDP1 Q a)) : rDPop1 Q ty σ (.ref a) H := ⟨a, rfl, h, q⟩
theorem r_dp1 (h : H a = some (.dK kvs)) (e : valV kvs (Sum.inl n) = some v) (q : Q v (upd H a (.dK (dropK kvs (Sum.inl n))))) : rDP1 Q a (.int n) H := ⟨kvs, Sum.inl n, v, h, rfl, e, q⟩
theorem isD_of (h : H a = some (.dK kvs)) : IsD H a := .inl ⟨kvs, .inl h⟩
end
section
variable {K : PySem.W.Frag} {σ : L2.St} {H : Hp} {D : Ends} {tb : TS} {g : TG} {R : It → Hp → Prop} {ta : TA} {a : Addr} {xs : List V}
def rEnum (K : PySem.W.Frag) (R : It → Hp → Prop) (vs : List V) (H1 : Hp) : Prop := ∃ a xs, vs = [.ref a] ∧ SqL K H1 a xs ∧ R (Ite K a) H1
theorem g_enum (h : ta σ H (rEnum K R)) : iEnum K ta σ H R := h
theorem r_enum (h : SqL K H a xs) (q : R (Ite K a) H) : rEnum K R [.ref a] H := ⟨a, xs, rfl, h, q⟩
theorem FOR.enum (Pv : Nat → L2.St → Hp → Prop) (h0 : Pv 0 σ H) (hl : ∀ i σ H, i ≤ xs.length → Pv i σ H → SqL K H a xs)
    (hs : ∀ i x σ H T, xs[i]? = some x → Pv i σ H → H T = none → g (.ref T) σ (upd H T (.tup [.int (i : Nat), x])) fun σ2 H2 => tb { D with nx := Pv (i + 1), ct := Pv (i + 1), bk := D.nx } σ2 H2) (hd : ∀ σ H, Pv xs.length σ H → D.nx σ H) : FOR (Ite K a) g tb D σ H := by
  refine ⟨fun i m σ H => m + i = xs.length ∧ Pv i σ H, ⟨xs.length, by omega, h0⟩, fun i m σ H ⟨hm, p⟩ => ?_⟩
  have hq := hl i σ H (by omega) p
  by_cases c : i = xs.length
  · subst c
    exact .inl ⟨⟨xs, hq, Nat.le_refl _⟩, hd _ _ p⟩
  · have hi : i < xs.length := by omega
    refine .inr ⟨⟨xs, xs[i], hq, List.getElem?_eq_getElem hi⟩, Pv (i + 1), fun σ' H' h' => ⟨m - 1, by omega, by omega, h'⟩, fun x H' hy => ?_⟩
    obtain ⟨T, y, rfl, hT, rfl, hx⟩ := hy
    exact hs i y σ H T (hx _ hq) p hT
end
section
variable {K : PySem.W.Frag} {B H : Hp} {L : List Cell} {Q : VK} {a : Addr} {kvs : List (Key × V)} {ns : List Int}
theorem r_sortD (w : W B L H) (h : H a = some (.dK kvs)) (ks : Ks kvs ns) (q : ∀ (ms : List Int) (p : Addr) (B' H' : Hp), ms.Perm ns → ms.Pairwise (· ≤ ·) → Same B B' → B' p = some (.lst (ms.map V.int)) → W B' L H' → Q (.ref p) H') : rSortDI [.ref a] H Q :=
  ⟨a, kvs, ns, rfl, .inl h, ks, fun ms p h1 h2 hn => q ms p _ _ h1 h2 (same_new (w.freeB hn)) upd_same (w.newB hn _)⟩
end
end Z

/-! Z12: exceptions of the program's own classes: made, raised, caught, asked. -/
namespace Z
open PySem PySem.Spec PyProof.Rows L2
/-- what the written part says of an exception's class -/
structure XC (K : PySem.W.Frag) (C : Addr) : Prop where
  ox : OexC K C
  ex : ExcC K C
  sl : PySem.W.subIn K (.ref C) (.ref C) = some true
section
variable {K : PySem.W.Frag} {A B C : Addr} {b : Bool}
theorem XC.xf (h : XC K C) : XfC K C := ⟨h.ex.hg, h.ex.hk, h.ex.hs, h.ex.hd⟩
theorem XC.exm (h : XC K C) (s : PySem.W.subIn K (.ref A) (.ref C) = some b) : PySem.W.exmOne K (.ref A) (.ref C) = some b := PySem.W.exm_ref h.ex.hs h.ex.hd h.ox.tyC s
theorem XC.kit (hA : XC K A) (h : XC K C) (s : PySem.W.subIn K (.ref A) (.ref C) = some b) : PySem.W.kitOne K (.ref A) (.ref C) = some b := by
  obtain ⟨cd, hc, _⟩ := PySem.W.any_some h.ex.hd
  unfold PySem.W.kitOne
  by_cases e : A = C
  · subst e
    rw [hA.sl] at s
    cases s
    simp
  · have e2 : (Value.ref A == Value.ref C) = false := by
      refine Bool.eq_false_iff.mpr fun q => e (Value.ref.inj (beq_iff_eq.mp q))
    rw [e2, if_neg Bool.false_ne_true]
    show (if ((PySem.W.clsIn K C).isSome && PySem.W.typeIn K (.ref C) == some (.type "type")) = true then PySem.W.subIn K (.ref A) (.ref C) else none) = some b
    have e3 : ((PySem.W.clsIn K C).isSome && PySem.W.typeIn K (.ref C) == some (.type "type")) = true := by rw [hc, h.ox.tyC] <;> rfl
    rw [if_pos e3, s]
theorem kitVE (s : PySem.W.subIn K (.ref A) (.type "ValueError") = some b) : PySem.W.kitOne K (.ref A) (.type "ValueError") = some b := by
  unfold PySem.W.kitOne
  have e2 : (Value.ref A == Value.type "ValueError") = false := Bool.eq_false_iff.mpr fun q => nomatch (beq_iff_eq.mp q)
  rw [e2, if_neg Bool.false_ne_true]
  have e3 : PySem.W.kitMeta "ValueError" = true := by decide +kernel
  show (if PySem.W.kitMeta "ValueError" = true then PySem.W.subIn K (.ref A) (.type "ValueError") else none) = some b
  rw [if_pos e3, s]
end
/-! ### isinstance(e, c), e.f in a suite -/
def rIsX (K : PySem.W.Frag) (a : Addr) (cls : Value) (d : Option Addr) : List V → Hp → VK → Prop := fun xs H Q => ∃ (D : Addr) (c : V) (cv : Value) (b : Bool), xs = [.ref a, c] ∧ cls = .ref D ∧ XC K D ∧ (d = none ∨ ∃ dd fs, d = some dd ∧ H dd = some (.xd fs)) ∧ (∀ u, RelV c u → u = cv) ∧ PySem.W.kitOne K (.ref D) cv = some b ∧ Q (.bl b) H
theorem call_isX {X : Cx} {a : Addr} {oe : Obj} {cls : Value} {d : Option Addr} {pn : List (Addr × Obj)} (hz : Zc cls d oe) (hf : ∃ vs, oe.data = .fields vs) : CallR (X.suite a ((a, oe) :: pn)) (.builtin "isinstance") (rIsX X.K a cls d) := by
  intro pins s σ H xs us Q I r h
  obtain ⟨D, c, cv, b, rfl, rfl, C, hd, hcv, e, q⟩ := h
  cases r with
  | cons rx rr =>
    cases rr with
    | cons rt rr =>
      cases rr
      cases rx
      have ec := hcv _ rt
      subst ec
      obtain ⟨hget, _⟩ := I.pin (a, oe) (List.mem_append.mpr (.inl List.mem_cons_self))
      obtain ⟨vs, hv⟩ := hf
      have hcl : (PySem.W.clsIn X.K D).isSome = true := by
        obtain ⟨cd, hc, _⟩ := PySem.W.any_some C.ex.hd
        rw [hc]
        rfl
      obtain ⟨od, J⟩ : ∃ od : Option Obj, PySem.W.InstAt s.heap a oe D od := by
        rcases hd with rfl | ⟨dd, fs, rfl, ed⟩
        · refine ⟨none, ?_⟩
          obtain ⟨oc, od, oda, osl⟩ := oe
          obtain ⟨h1, h2⟩ := hz
          dsimp only at h1 h2 hv
          subst h1 h2 hv
          exact ⟨hget, rfl, rfl, trivial⟩
        · have hx : ObjOk X.prog X.w H s.heap dd (.xd fs) := I.hok dd _ ed
          obtain ⟨mA, hns, hr⟩ := hx
          obtain ⟨od, ho, hl⟩ := lookIn_ns hns
          exact ⟨some od, hget, hz.1, by unfold PySem.W.notCls; rw [hv] <;> rfl, by rw [hz.2]; exact ho⟩
      exact PySem.W.kia_one (PySem.W.kitx_exc hcl C.ex.hg C.ex.hk C.ex.hs C.ex.ha C.ex.hn C.ex.ht C.ex.hm) I.kIn J e (fun z => nomatch z) fun tk => ⟨.bl b, H, I.kept (t' := tk) fun _ _ z => z, rfl, q⟩
def rXf (K : PySem.W.Frag) (a : Addr) (cls : Value) (d : Option Addr) (f : Str) (Q : VK) (x : V) (H1 : Hp) : Prop := x = .ref a ∧ ∃ (C dd : Addr) (fs : List (Str × V)) (v : V), cls = .ref C ∧ XC K C ∧ PySem.W.findIn K (.ref C) f = some none ∧ d = some dd ∧ H1 dd = some (.xd fs) ∧ fs.lookup f = some v ∧ Q v H1
def tXfA (K : PySem.W.Frag) (a : Addr) (cls : Value) (d : Option Addr) (f : Str) (te : TE) : TE := fun σ H Q => te σ H (rXf K a cls d f Q)
theorem pe_xfA {X : Cx} {a : Addr} {oe : Obj} {cls : Value} {d : Option Addr} {pn : List (Addr × Obj)} {e : Expr} {te : TE} {pos : Pos} {n : Str}
    (hz : Zc cls d oe) (hf : ∃ vs, oe.data = .fields vs) (he : PE (X.suite a ((a, oe) :: pn)) e te) (hb : attributeBase e n X.env (eval e X.env) = eval e X.env := by rfl) :
    PE (X.suite a ((a, oe) :: pn)) (.Attribute e n pos) (tXfA X.K a cls d n te) := by
  refine ⟨fun pins s σ H Q I h => ?_⟩
  refine attr_of hb (thn (he.run pins s σ H _ I h) fun u s1 hh => ?_)
  obtain ⟨x, H1, I1, rx, ex, C, dd, fs, v, ec, T, hno, ed, ea, l, q⟩ := hh
  subst ex
  obtain rfl : u = Value.ref a := rx
  subst ec
  subst ed
  obtain ⟨ha, _⟩ := I1.pin (a, oe) (List.mem_append_left _ List.mem_cons_self)
  obtain ⟨vs, hd⟩ := hf
  have hx : ObjOk X.prog X.w H1 s1.heap dd (.xd fs) := I1.hok dd _ ea
  obtain ⟨mA, hns, hr⟩ := hx
  obtain ⟨od, ho, hl⟩ := lookIn_ns hns
  obtain ⟨u, hu, ru⟩ := RelO.some_of (v := v) (o := mA n) (by rw [← l]; exact hr n)
  have J : PySem.W.InstAt s1.heap a oe C (some od) := ⟨ha, hz.1, by unfold PySem.W.notCls; rw [hd] <;> rfl, by rw [hz.2]; exact ho⟩
  exact HandSPX.exc_get I1.kIn J T.ex.hg T.ex.hk T.ex.hs (PySem.W.findObj_own T.ex.hd hno rfl (by rw [hl, hu])) (handed_of ru) ⟨v, H1, I1.tok _, ru, q⟩
/-! ### calls in a try's body -/
section
variable {X : Cx} {CX : CXT} {k : Nat} {f C : Addr} {fd : FuncData} {ps : List Str} {sp : Sp} {E : L2.St → XK} {x m : Str} {p pos apos : Pos} {e o : Expr} {es : List Expr} {ta : TE} {t : TA} {ds : List Value} {dvs : List V}
theorem run_fnW {pins : List (Addr × Obj)} {σ : L2.St} {H : Hp} {s : Shared} {Q : VK} {us : List Value} {vs : List V} (F : FnOk X.prog X.w X.K X.mg X.base CX k f fd ps sp) (hr : Room k X.A) (hb : Binds X.K fd ps ds) (hd : Vals dvs ds) (hx : PassesAt CX X σ (E σ))
    (I : Inv X pins σ H s) (r : Vals vs us) (h : sp (vs ++ dvs) H Q (E σ)) : wpAny (model X.prog X.w) X.A (call (.ref f) us) (EP X pins σ Q) X.xe s := by
  have r2 : Vals (vs ++ dvs) (us ++ ds) := r.append hd
  have hl : (us ++ ds).length = ps.length := by rw [← r2.length]; exact F.len _ _ _ _ h
  refine wpAny_call (codeAny_mono (F.run X.A X.stack s H ⟨us, []⟩ (us ++ ds) (vs ++ dvs) Q (E σ) hr I.env0 (hb s us I.kIn hl) r2 h) fun r s' hq => ?_)
  cases r with
  | error e => exact hx pins H s e s' I hq
  | ok fl =>
    cases fl with
    | ret u => exact I.after hq
    | next => exact False.elim hq
    | brk => exact False.elim hq
    | cont => exact False.elim hq
def tCallW (sp : Sp) (dvs : List V) (E : L2.St → XK) (t : TA) : TE := fun σ H Q => t σ H fun vs H1 => sp (vs ++ dvs) H1 Q (E σ)
def tMethW (C : Addr) (m : Str) (sp : Sp) (dvs : List V) (E : L2.St → XK) (ta : TE) (t : TA) : TE := fun σ H Q => ta σ H fun x H1 => rMe C m (t σ H1 fun vs H2 => sp (x :: (vs ++ dvs)) H2 Q (E σ)) x H1
theorem pe_callW (F : FnOk X.prog X.w X.K X.mg X.base CX k f fd ps sp) (hr : Room k X.A) (hg : Gl X x) (hm : X.mg x = some (.ref f)) (hk : PySem.W.keepIn X.K (.ref f) = true) (hb : Binds X.K fd ps ds) (hd : Vals dvs ds) (hx : ∀ σ, PassesAt CX X σ (E σ))
    (ha : PA X (e :: es) t) (hdb : (x == ("__debug__" : Str)) = false := by decide) (he : starEach (e :: es) X.env = (false, eval e X.env) :: starEach es X.env := by rfl) (hpl : (backTo pos (starEach es X.env)).any (·.1) = false := by rfl) :
    PE X (.Call (.Name x p) (e :: es) [] pos) (tCallW sp dvs E t) := by
  refine ⟨fun pins s σ H Q I h => ?_⟩
  refine wpAny_Call_Name_kw (ld_glob I hg hm ?_ hdb)
  refine PySem.W.callWith_K (h₀ := X.base) I.ok.mod.kin hk (thn (ha.run pos pins s σ H _ I h) fun us s1 ⟨vs, H1, I1, r, q⟩ => ⟨I1.kIn, ?_⟩) he hpl
  exact run_fnW F hr hb hd (hx σ) I1 r q
theorem pe_methW {pl : Sem Bool} (he : PE X o ta) (c : Cls X.K C) (hm : Meth X.K C m f) (F : FnOk X.prog X.w X.K X.mg X.base CX k f fd ps sp) (hr : Room k X.A) (hb : Binds X.K fd ps ds) (hd : Vals dvs ds) (hx : ∀ σ, PassesAt CX X σ (E σ)) (ha : PA X (e :: es) t)
    (hst : starEach (e :: es) X.env = (false, eval e X.env) :: starEach es X.env := by rfl) (hpl : (backTo pos (starEach es X.env)).any (·.1) = false := by rfl)
    (ht : eval (.Call (.Attribute o m apos) (e :: es) [] pos) X.env = (do
      let ov ← eval o X.env
      standAt apos.atName
      let (f, first) ← holding [ov] (getMethod ov m pl)
      callWith pos f first (backTo pos (starEach (e :: es) X.env)) (backToKw pos (keywordEach [] X.env))) := by rfl) :
    PE X (.Call (.Attribute o m apos) (e :: es) [] pos) (tMethW C m sp dvs E ta t) := by
  refine ⟨fun pins s σ H Q I h => ?_⟩
  refine PySem.W.methodCall_KW (pl := pl) (thn (he.run pins s σ H _ I h) fun u s1 ⟨x, H1, I1, rx, a, dx, fs, ex, ea, l, q⟩ => ?_) ht
  subst ex
  obtain rfl : u = Value.ref a := rx
  refine getmeth_ok I1 ea c hm l ?_
  refine PySem.W.callWith_K (first := [.ref a]) (h₀ := X.base) I.ok.mod.kin hm.kp (thn (ha.run pos pins s1 σ H1 _ I1 q) fun us s2 ⟨vs, H2, I2, r, q2⟩ => ⟨I2.kIn, ?_⟩) hst hpl
  exact run_fnW (us := .ref a :: us) (vs := .ref a :: vs) F hr hb hd (hx σ) I2 (.cons rfl r) q2
theorem pe_meth0W {pl : Sem Bool} (he : PE X o ta) (c : Cls X.K C) (hm : Meth X.K C m f) (F : FnOk X.prog X.w X.K X.mg X.base CX k f fd ps sp) (hr : Room k X.A) (hb : Binds X.K fd ps ds) (hd : Vals dvs ds) (hx : ∀ σ, PassesAt CX X σ (E σ))
    (ht : eval (.Call (.Attribute o m apos) [] [] pos) X.env = (do
      let ov ← eval o X.env
      standAt apos.atName
      let (f, first) ← holding [ov] (getMethod ov m pl)
      callWith pos f first (backTo pos (starEach [] X.env)) (backToKw pos (keywordEach [] X.env))) := by rfl) :
    PE X (.Call (.Attribute o m apos) [] [] pos) (tMethW C m sp dvs E ta tNil) := by
  refine ⟨fun pins s σ H Q I h => ?_⟩
  refine PySem.W.methodCall_KW (pl := pl) (thn (he.run pins s σ H _ I h) fun u s1 ⟨x, H1, I1, rx, a, dx, fs, ex, ea, l, q⟩ => ?_) ht
  subst ex
  obtain rfl : u = Value.ref a := rx
  refine getmeth_ok I1 ea c hm l ?_
  exact PySem.W.callWith_K0 (first := [.ref a]) I1.kIn hm.kp (run_fnW (us := [.ref a]) (vs := [.ref a]) F hr hb hd (hx σ) I1 (.cons rfl .nil) q)
end
/-! ### raise C(e), C's __init__ keeping one field -/
def rMkO (C : Addr) (sp : Sp) (dvs : List V) (Q : XK) (vs : List V) (H1 : Hp) : Prop := vs.length ≤ 1000 ∧ ∀ a, H1 a = none → sp (.ref a :: (vs ++ dvs)) (upd H1 a (exo a C none))
  (fun v H2 => v = .non ∧ ∃ (d : Addr) (fs : List (Str × V)), H2 a = some (exo a C (some d)) ∧ H2 d = some (exd d fs) ∧ H1 d = none ∧ Q (.ref C) (some d) (upd (del H2 a) d (.xd fs))) (fun _ _ _ => False)
def tRaiseO (C : Addr) (sp : Sp) (dvs : List V) (WW : WX) (ta : TA) : TS := fun _ σ H => ta σ H (rMkO C sp dvs fun cls d H' => WW cls d σ H')
section
variable {X : Cx} {WW : WX} {x : Str} {C fI : Addr} {k : Nat} {fd : FuncData} {ps : List Str} {sp : Sp} {ds : List Value} {dvs : List V} {CX : CXT} {e : Expr} {es : List Expr} {ta : TA} {p pos pos2 : Pos}
theorem ps_raiseO (hc : X.calm = true) (tk : Takes X WW) (T : XC X.K C) (iC : PySem.W.findIn X.K (.ref C) "__init__" = some (some (.ref fI))) (tI : PySem.W.typeIn X.K (.ref fI) = some (.type "function"))
    (F1 : FnOk X.prog X.w X.K X.mg X.base CX k fI fd ps sp) (hr : Room (k + 1) X.A) (hb : Binds X.K fd ps ds) (hd : Vals dvs ds) (hx : Passes CX X (fun _ _ _ => False)) (hg : Gl X x) (hm : X.mg x = some (.ref C)) (ha : PA X (e :: es) ta)
    (hdb : (x == ("__debug__" : Str)) = false := by decide) (he : starEach (e :: es) X.env = (false, eval e X.env) :: starEach es X.env := by rfl) (hpl : (backTo pos (starEach es X.env)).any (·.1) = false := by rfl) :
    PS X (.Raise (some (.Call (.Name x p) (e :: es) [] pos)) none pos2) (tRaiseO C sp dvs WW ta) :=
  ps_raise hc tk (pmk_oex T.ox iC tI F1 hr hb hd hx hg hm ha hdb he hpl)
end
section
variable {K : PySem.W.Frag} {σ : L2.St} {B H : Hp} {L : List Cell} {C a : Addr} {sp : Sp} {dvs : List V} {WW Wout : WX} {ta : TA} {te to : TE} {D : Ends} {Q : VK} {QX : XK} {f : Str} {v y : V} {cls c : Value} {d : Option Addr} {i : Nat} {ts : Addr → Value → Option Addr → TS} {tb : WX → TS} {P : Hp → Prop}
theorem g_raiseO (h : ta σ H (rMkO C sp dvs fun cls d H' => WW cls d σ H')) : tRaiseO C sp dvs WW ta D σ H := h
/-- the promise of an __init__ that keeps one field -/
def spX1 (C : Addr) (f : Str) : Sp := Sp2 fun x y H Q _ => ∃ a, x = .ref a ∧ H a = some (exo a C none) ∧ ∀ d, H d = none → d ≠ a → Q .non (upd (upd H d (exd d [(f, y)])) a (exo a C (some d)))
theorem r_raiseX1 (w : W B L H) (q : ∀ d B' H', Same B B' → B' d = some (.xd [(f, v)]) → W B' L H' → QX (.ref C) (some d) H') : rMkO C (spX1 C f) [] QX [v] H := by
  refine ⟨by simp, fun a ha => ⟨_, _, rfl, a, rfl, upd_same, fun d hd hda => ⟨rfl, d, [(f, v)], upd_same, by rw [upd_ne hda, upd_same], ?_, ?_⟩⟩⟩
  · rw [upd_ne hda] at hd; exact hd
  · have hd0 : H d = none := by rw [upd_ne hda] at hd; exact hd
    have e : upd (del (upd (upd (upd H a (exo a C none)) d (exd d [(f, v)])) a (exo a C (some d))) a) d (.xd [(f, v)]) = upd H d (.xd [(f, v)]) := by
      funext b
      by_cases hb : b = d
      · subst hb; rw [upd_same, upd_same]
      · rw [upd_ne hb, upd_ne hb]
        by_cases hb2 : b = a
        · subst hb2; rw [del_same, ha]
        · rw [del_ne hb2, upd_ne hb2, upd_ne hb, upd_ne hb2]
    rw [e]
    exact q d _ _ (same_new (w.freeB hd0)) upd_same (w.newB hd0 _)
def rOst (K : PySem.W.Frag) (f : Str) (P : Hp → Prop) (y x : V) (H2 : Hp) : Prop := ∃ a C : Addr, x = .ref a ∧ OexC K C ∧ PySem.W.findIn K (.ref C) f = some none ∧
  ((H2 a = some (exo a C none) ∧ ∀ dx, H2 dx = none → dx ≠ a → P (upd (upd H2 dx (exd dx [(f, y)])) a (exo a C (some dx)))) ∨
    ∃ (dx : Addr) (fs : List (Str × V)), H2 a = some (exo a C (some dx)) ∧ H2 dx = some (exd dx fs) ∧ fs.length ≤ 900 ∧ P (upd H2 dx (exd dx ((f, y) :: fs))))
theorem g_ost (h : te σ H fun y H1 => to σ H1 (rOst K f (D.nx σ) y)) : tOst K f to te D σ H := h
theorem r_ost (T : OexC K C) (hno : PySem.W.findIn K (.ref C) f = some none) (h : H a = some (exo a C none)) (q : ∀ dx, H dx = none → dx ≠ a → P (upd (upd H dx (exd dx [(f, y)])) a (exo a C (some dx)))) : rOst K f P y (.ref a) H :=
  ⟨a, C, rfl, T, hno, .inl ⟨h, q⟩⟩
def rVei (K : PySem.W.Frag) (Q : VK) (vs : List V) (H1 : Hp) : Prop := ∃ (a C : Addr) (ws : List V), vs = .ref a :: ws ∧ ws.length ≤ 1000 ∧ OexC K C ∧ H1 a = some (exo a C none) ∧ Q .non H1
theorem g_vei (h : ta σ H (rVei K Q)) : tVeI K ta σ H Q := h
theorem r_vei {ws : List V} (T : OexC K C) (hl : ws.length ≤ 1000) (h : H a = some (exo a C none)) (q : Q .non H) : rVei K Q (.ref a :: ws) H := ⟨a, C, ws, rfl, hl, T, h, q⟩
/-! ### try: .. except C as e: .. -/
def tTryAs (K : PySem.W.Frag) (c : Value) (i : Nat) (tb : WX → TS) (ts : Addr → Value → Option Addr → TS) (Wout : WX) : TS := fun D σ H => tb (wAs K c i ts Wout D) D σ H
theorem g_tryAs (h : tb (wAs K c i ts Wout D) D σ H) : tTryAs K c i tb ts Wout D σ H := h
theorem r_caught (hx : PySem.W.exmOne K cls c = some true) (h : ∀ a, H a = none → ts a cls d { nx := fun σ' H' => D.nx (σ'.set i none) H', rt := D.rt, bk := fun σ' H' => D.bk (σ'.set i none) H', ct := fun σ' H' => D.ct (σ'.set i none) H' } (σ.set i (some (.ref a))) H) : wAs K c i ts Wout D cls d σ H :=
  ⟨true, hx, fun _ => h, nofun⟩
theorem r_passed (hx : PySem.W.exmOne K cls c = some false) (h : Wout cls d σ H) : wAs K c i ts Wout D cls d σ H := ⟨false, hx, nofun, fun _ => h⟩
theorem g_xfA (h : te σ H (rXf K a cls d f Q)) : tXfA K a cls d f te σ H Q := h
theorem r_xf {fs : List (Str × V)} {dd : Addr} (T : XC K C) (hno : PySem.W.findIn K (.ref C) f = some none) (h : H dd = some (.xd fs)) (l : fs.lookup f = some v) (q : Q v H) : rXf K a (.ref C) (some dd) f Q (.ref a) H :=
  ⟨rfl, C, dd, fs, v, rfl, T, hno, rfl, h, l, q⟩
theorem r_isXC {fs : List (Str × V)} {dd A : Addr} {b : Bool} (TA : XC K A) (TC : XC K C) (s : PySem.W.subIn K (.ref A) (.ref C) = some b) (h : H dd = some (.xd fs)) (q : Q (.bl b) H) : rIsX K a (.ref A) (some dd) [.ref a, .ref C] H Q :=
  ⟨A, .ref C, .ref C, b, rfl, rfl, TA, .inr ⟨dd, fs, rfl, h⟩, fun u r => r, TA.kit TC s, q⟩
theorem r_isXV {fs : List (Str × V)} {dd A : Addr} {b : Bool} (TA : XC K A) (s : PySem.W.subIn K (.ref A) (.type "ValueError") = some b) (h : H dd = some (.xd fs)) (q : Q (.bl b) H) : rIsX K a (.ref A) (some dd) [.ref a, .ty "ValueError"] H Q :=
  ⟨A, .ty "ValueError", .type "ValueError", b, rfl, rfl, TA, .inr ⟨dd, fs, rfl, h⟩, fun u r => r, kitVE s, q⟩
theorem g_callW {E : L2.St → XK} {t : TA} (h : t σ H fun vs H1 => sp (vs ++ dvs) H1 Q (E σ)) : tCallW sp dvs E t σ H Q := h
theorem g_methW {E : L2.St → XK} {t : TA} {ta0 : TE} {m : Str} (h : ta0 σ H fun x H1 => rMe C m (t σ H1 fun vs H2 => sp (x :: (vs ++ dvs)) H2 Q (E σ)) x H1) : tMethW C m sp dvs E ta0 t σ H Q := h
end
end Z
namespace Z
open PySem PySem.Spec PyProof.Rows L2
section
variable {X : Cx} {x n : Str} {c : Value} {i : Nat} {body suite : List Stmt} {b₀ : Stmt} {np pos pos' : Pos} {tb : WX → TS} {ts : Addr → Value → Option Addr → TS} {Wout : WX}
theorem ps_tryAs (hs : X.stack = X.env :: X.outer) (hf : X.env.frame = some X.env.locals) (hN : X.N.Nodup) (hi : X.N[i]? = some n) (hln : X.env.kindOf n = some .local) (hc : Names X x c) (tk : Takes X Wout)
    (hb : ∀ (W : WX) (pn : List (Addr × Obj)) (xe : Value → Shared → Prop), Takes (X.tr pn xe) W → PassesOwn (model X.prog X.w) X.A X.env xe → PSs (X.tr pn xe) body (tb W))
    (hsu : ∀ (a : Addr) (oe : Obj) (cls : Value) (d : Option Addr) (pn : List (Addr × Obj)), Zc cls d oe → (∃ vs, oe.data = .fields vs) → PSs (X.suite a ((a, oe) :: pn)) (b₀ :: suite) (ts a cls d)) :
    PS X (.Try body [.ExceptHandler (some (.Name x np)) (some n) (b₀ :: suite) pos'] [] [] pos) (tTryAs X.K c i tb ts Wout) := ps_try_as hs hf hN hi hln hc tk hb hsu
end
end Z

/-! Z13: isinstance of an instance of an own class; texts. -/
namespace Z
open PySem PySem.Spec PyProof.Rows L2
structure IC (K : PySem.W.Frag) (C : Addr) : Prop where
  cl : Cls K C
  hd : PySem.W.hasDictIn K C = true
  ty : PySem.W.typeIn K (.ref C) = some (.type "type")
  ha : PySem.W.findIn K (.ref C) "__class__" = some (some (.builtin "object.__class__"))
  hn : PySem.W.specialIn K (.builtin "object.__class__") "__get__" = some (some (.builtin "getset_descriptor.__get__"))
  ht : PySem.W.takesIn K (.builtin "object.__class__") = some true
  hm : PySem.W.mroIn K C (.type "object") = some true
  sl : PySem.W.subIn K (.ref C) (.ref C) = some true
section
variable {K : PySem.W.Frag} {A C a dx : Addr} {b : Bool} {H : Hp} {Q : VK} {fs : List (Str × V)}
theorem kit_own (hA : IC K A) (h : IC K C) (s : PySem.W.subIn K (.ref A) (.ref C) = some b) : PySem.W.kitOne K (.ref A) (.ref C) = some b := by
  obtain ⟨cd, hc, _⟩ := PySem.W.any_some h.hd
  unfold PySem.W.kitOne
  by_cases e : A = C
  · subst e
    rw [hA.sl] at s
    cases s
    simp
  · have e2 : (Value.ref A == Value.ref C) = false := by
      refine Bool.eq_false_iff.mpr fun q => e (Value.ref.inj (beq_iff_eq.mp q))
    rw [e2, if_neg Bool.false_ne_true]
    show (if ((PySem.W.clsIn K C).isSome && PySem.W.typeIn K (.ref C) == some (.type "type")) = true then PySem.W.subIn K (.ref A) (.ref C) else none) = some b
    have e3 : ((PySem.W.clsIn K C).isSome && PySem.W.typeIn K (.ref C) == some (.type "type")) = true := by rw [hc, h.ty] <;> rfl
    rw [if_pos e3, s]
theorem r_isiO (h : H a = some (.ins A dx fs)) (hA : IC K A) (hC : IC K C) (s : PySem.W.subIn K (.ref A) (.ref C) = some b) (q : Q (.bl b) H) : rIsi K [.ref a, .ref C] H Q :=
  ⟨.ref a, .ref C, .ref A, .ref C, b, rfl, .own C, .base (.ins h hA.cl hA.ha hA.hn hA.ht hA.hm), kit_own hA hC s, q⟩
end
section
variable {X : Cx} {WW : WX} {x m : Str} {C : Addr} {j : Nat} {p p2 pos pos2 : Pos}
/-- raise C('..'), C without an __init__ of its own -/
def tRaise0 (C : Addr) (WW : WX) : TS := fun _ σ H => WW (.ref C) none σ H
theorem ps_raise0 (hc : X.calm = true) (tk : Takes X WW) (q : PySem.W.excIn X.K C PySem.HandSPX.veTail "ValueError.__new__" = true) (T : XC X.K C) (gC : X.mg x = some (.ref C)) (hg : Gl X x) (hdb : (x == ("__debug__" : Str)) = false := by decide) :
    PS X (.Raise (some (.Call (.Name x p) [.Constant (.str m) j p2] [] pos)) none pos2) (tRaise0 C WW) :=
  ps_raise hc tk (pmk_own PySem.F.excBase_ValueError q gC T.ox.kC (raises_own T.ox.exC T.ox.tyC) hg hdb)
end
section
variable {K : PySem.W.Frag} {σ : L2.St} {H : Hp} {C A a : Addr} {WW : WX} {D : Ends} {Q : VK} {b : Bool}
theorem g_raise0 (h : WW (.ref C) none σ H) : tRaise0 C WW D σ H := h
theorem r_isXC0 (TA : XC K A) (TC : XC K C) (s : PySem.W.subIn K (.ref A) (.ref C) = some b) (q : Q (.bl b) H) : rIsX K a (.ref A) none [.ref a, .ref C] H Q :=
  ⟨A, .ref C, .ref C, b, rfl, rfl, TA, .inl rfl, fun u r => r, TA.kit TC s, q⟩
theorem r_isXV0 (TA : XC K A) (s : PySem.W.subIn K (.ref A) (.type "ValueError") = some b) (q : Q (.bl b) H) : rIsX K a (.ref A) none [.ref a, .ty "ValueError"] H Q :=
  ⟨A, .ty "ValueError", .type "ValueError", b, rfl, rfl, TA, .inl rfl, fun u r => r, kitVE s, q⟩
end
/-! texts -/
theorem str_ext {a b : Str} (h : a.cps = b.cps) : a = b := by cases a; cases b; cases h; rfl
theorem str_assoc (a b c : Str) : a ++ b ++ c = a ++ (b ++ c) := str_ext (Array.append_assoc ..)
theorem str_len (i : Int) (h : i.natAbs.log2 < 1920) : ((toString i : String) : Str).length ≤ 1921 := PyProof.Rows.int_text_len_1921 h
theorem app_len (a b : Str) : (a ++ b).length = a.length + b.length := Array.size_append ..
section
variable {K : PySem.W.Frag} {H : Hp} {σ : L2.St} {a : Addr} {u v x : V} {n : Nat} {t1 t2 t3 : TG} {Q : L2.St → Hp → Prop}
theorem g_tup3 (h : SqT K H a [u, v, x]) (hn : n = 3) (q : t1 u σ H fun σ' H' => t2 v σ' H' fun σ' H' => t3 x σ' H' Q) : gTup K n (gCons t1 (gCons t2 (gCons t3 gNil))) (.ref a) σ H Q :=
  ⟨a, _, rfl, h, hn.symm, u, _, rfl, (show t1 u σ H fun σ' H' => gCons t2 (gCons t3 gNil) [v, x] σ' H' Q from by
    have e2 : (fun σ' H' => gNil [] σ' H' Q) = Q := by funext a b; exact propext ⟨fun h => h.2, fun h => ⟨rfl, h⟩⟩
    have e3 : (fun σ' H' => gCons t3 gNil [x] σ' H' Q) = fun σ' H' => t3 x σ' H' Q := by
      funext σ' H'
      refine propext ⟨fun ⟨v', r, e, h⟩ => ?_, fun h => ⟨x, [], rfl, ?_⟩⟩
      · cases e
        rwa [e2] at h
      · rwa [e2]
    have e4 : (fun σ' H' => gCons t2 (gCons t3 gNil) [v, x] σ' H' Q) = fun σ' H' => t2 v σ' H' fun σ' H' => t3 x σ' H' Q := by
      funext σ' H'
      refine propext ⟨fun ⟨v', r, e, h⟩ => ?_, fun h => ⟨v, [x], rfl, ?_⟩⟩
      · cases e
        rwa [e3] at h
      · rwa [e3]
    rw [e4]
    exact q)⟩
end
section
variable {K : PySem.W.Frag} {H : Hp} {σ : L2.St} {to te : TE} {Q : VK} {r : V → List V → Hp → VK → Prop} {z : Str} {p : Addr} {ys : List Str}
def rM1 (r : V → List V → Hp → VK → Prop) (te : TE) (σ : L2.St) (Q : VK) (x : V) (H1 : Hp) : Prop := (∃ a, x = .str a) ∧ te σ H1 fun y H2 => r x [y] H2 Q
theorem g_m1 (h : to σ H (rM1 r te σ Q)) : tM1 r to te σ H Q := h
theorem r_m1 (q : te σ H fun y H2 => r (.str z) [y] H2 Q) : rM1 r te σ Q (.str z) H := ⟨⟨z, rfl⟩, q⟩
theorem join3 (s a b c : Str) : Txt.join s [a, b, c] = a ++ s ++ b ++ s ++ c := by
  first | rfl | (unfold Txt.join glued; simp [str_assoc])
end
section
variable {X : Cx} {K : PySem.W.Frag} {e : Expr} {ta : TE} {f : Str} {pos : Pos}
/-- a field, read in a comprehension: the frame's K is told -/
theorem pe_fldK (he : PE X e ta) (hb : attributeBase e f X.env (eval e X.env) = eval e X.env) (hK : X.K = K) : PE X (.Attribute e f pos) (tFld K ta f) := by
  subst hK
  exact pe_fld he hb
end
end Z

/-! Z14: texts sign by sign. -/
namespace Z
open PySem PySem.Spec PyProof.Rows L2
/-- the signs of a text -/
abbrev sg (z : Str) : List Nat := z.cps.toList
theorem sg_len (z : Str) : (sg z).length = z.length := Array.length_toList
theorem sg_ext {a b : Str} (h : sg a = sg b) : a = b := str_ext (Array.toList_inj.mp h)
theorem sg_app (a b : Str) : sg (a ++ b) = sg a ++ sg b := Array.toList_append
theorem cut_from (z : Str) (k : Nat) : sg (cutS z (some (k : Int)) none) = (sg z).drop k := by
  unfold cutS sg
  simp only [HT.sIx]
  rw [if_neg (by omega), Int.toNat_natCast]
  have hl : z.cps.toList.length = z.length := Array.length_toList
  by_cases h : k ≤ z.length
  · rw [Nat.min_eq_left h]
    show List.take _ _ = _
    exact List.take_of_length_le (by rw [List.length_drop, hl]; omega)
  · rw [List.drop_eq_nil_of_le (show z.cps.toList.length ≤ k by omega)]
    show List.take _ _ = _
    rw [List.drop_eq_nil_of_le (by rw [hl]; omega)]
    simp
theorem cut_to (z : Str) (k : Nat) : sg (cutS z none (some (k : Int))) = (sg z).take k := by
  unfold cutS sg
  simp only [HT.sIx]
  rw [if_neg (by omega), Int.toNat_natCast]
  have hl : z.cps.toList.length = z.length := Array.length_toList
  show List.take _ (List.drop 0 _) = _
  rw [List.drop_zero]
  by_cases h : k ≤ z.length
  · rw [Nat.min_eq_left h, Nat.sub_zero]
  · rw [Nat.min_eq_right (by omega), Nat.sub_zero, List.take_of_length_le (by rw [hl]; omega), List.take_of_length_le (by rw [hl]; omega)]
theorem starts_dash (z : Str) : Txt.startswith z "-" = decide ((sg z).head? = some 45) := by
  have e1 : ("-" : Str) = ⟨#[45]⟩ := by decide
  rw [e1]
  obtain ⟨⟨l⟩⟩ := z
  cases l with
  | nil => rfl
  | cons c r =>
    have e2 : Builtin.Str.subAt ⟨⟨c :: r⟩⟩ ⟨#[45]⟩ 0 = decide (c = 45) := by
      unfold Builtin.Str.subAt
      show (Array.extract (List.toArray (c :: r)) 0 (0 + 1) == #[45]) = _
      rw [List.extract_toArray]
      by_cases h : c = 45
      · subst h; simp [List.extract]
      · simp [List.extract, h]
    have e3 : (0 + (⟨#[45]⟩ : Str).length ≤ (⟨⟨c :: r⟩⟩ : Str).length) := by
      show 0 + 1 ≤ (c :: r).length
      simp
    show (decide _ && Builtin.Str.subAt _ _ 0) = _
    rw [decide_eq_true e3, e2, Bool.true_and]
    show _ = decide (some c = some 45)
    simp
section
variable {σ : L2.St} {H : Hp} {D : Ends} {tb : TS} {g : TG} {R : It → Hp → Prop} {te : TE} {z : Str}
def rStrIt (R : It → Hp → Prop) (v : V) (H1 : Hp) : Prop := ∃ x, v = .str x ∧ R (Its x) H1
theorem g_istr (h : te σ H (rStrIt R)) : iStr te σ H R := h
theorem r_istr (q : R (Its z) H) : rStrIt R (.str z) H := ⟨z, rfl, q⟩
/-- a loop over the signs of a text; both ways out by one word J -/
theorem FOR.strJ (J : L2.St → Hp → Prop) (hJ : ∀ σ H, J σ H → D.nx σ H) (Pv : Nat → L2.St → Hp → Prop) (h0 : Pv 0 σ H)
    (hs : ∀ N : L2.St → Hp → Prop, (∀ σ' H', J σ' H' → N σ' H') → ∀ i c σ H, (sg z)[i]? = some c → Pv i σ H → g (.str ⟨#[c]⟩) σ H fun σ2 H2 => tb { D with nx := Pv (i + 1), ct := Pv (i + 1), bk := N } σ2 H2) (hd : ∀ σ H, Pv (sg z).length σ H → J σ H) : FOR (Its z) g tb D σ H := by
  refine ⟨fun i m σ H => m + i = (sg z).length ∧ Pv i σ H, ⟨(sg z).length, by omega, h0⟩, fun i m σ H ⟨hm, p⟩ => ?_⟩
  have hz : (sg z).length = z.cps.size := Array.length_toList
  by_cases c : i = (sg z).length
  · subst c
    exact .inl ⟨by show z.cps.size ≤ _; omega, hJ _ _ (hd _ _ p)⟩
  · refine .inr ⟨by show i < z.cps.size; omega, Pv (i + 1), fun σ' H' h' => ⟨m - 1, by omega, by omega, h'⟩, fun x H' hy => ?_⟩
    obtain ⟨rfl, c, hc, rfl⟩ := hy
    exact hs D.nx hJ i c σ _ (by rw [Array.getElem?_toList]; exact hc) p
end
section
variable {K : PySem.W.Frag} {B H H1 : Hp} {L : List Cell} {D : Addr} {Q : VK} {g : TG} {tt : TT} {te : TE} {vs : List Nat} {σ : L2.St} {z : Str}
/-- a comprehension over the signs of a text -/
theorem LC.str (w : W B L H1) (hD : H1 D = none) (hlen : z.length < sizeLine) (Pv : Nat → Hp → List V → Prop) (h0 : Pv 0 B [])
    (hs : ∀ i c B' acc H (Nx : Hp → Prop), (sg z)[i]? = some c → Same B B' → W B' ((D, .lst acc) :: L) H → Pv i B' acc → acc.length ≤ i → acc.length < sizeLine →
      (∀ B'' acc' H', Same B' B'' → W B'' ((D, .lst acc') :: L) H' → Pv (i + 1) B'' acc' → acc'.length ≤ i + 1 → Nx H') →
      g (.str ⟨#[c]⟩) (wipe σ vs) H fun σ2 H2 => wipe σ2 vs = wipe σ vs ∧ tt σ2 H2 fun b H3 => Br b (te σ2 H3 (rAcc D Nx)) (Nx H3))
    (hd : ∀ B' B'' acc H, Same B B'' → Same' B' B'' → B'' D = some (.lst acc) → W B'' L H → Pv (sg z).length B' acc → acc.length ≤ (sg z).length → Q (.ref D) H) : LC (Its z) D g tt te vs σ H1 Q := by
  have hz : (sg z).length = z.cps.size := Array.length_toList
  refine ⟨fun i m H => m + i = (sg z).length ∧ ∃ B' acc, Same B B' ∧ W B' ((D, .lst acc) :: L) H ∧ Pv i B' acc ∧ acc.length ≤ i, ⟨(sg z).length, by omega, B, [], same_refl B, w.newL hD _, h0, Nat.le_refl _⟩, ?_⟩
  rintro i m H ⟨hm, B', acc, s, w', p, l⟩
  have hzl : (sg z).length = z.length := Array.length_toList
  by_cases c : i = (sg z).length
  · subst c
    exact .inl ⟨by show z.cps.size ≤ _; omega, hd B' _ acc H (same_trans s (same_new (w'.out _ (List.mem_cons_self ..)))) (same_new (w'.out _ (List.mem_cons_self ..))) upd_same w'.give p l⟩
  · refine .inr ⟨by show i < z.cps.size; omega, fun H' => ∃ B'' acc', Same B B'' ∧ W B'' ((D, .lst acc') :: L) H' ∧ Pv (i + 1) B'' acc' ∧ acc'.length ≤ i + 1, fun H' p' => ⟨m - 1, by omega, by omega, p'⟩, fun v H' hy => ?_⟩
    obtain ⟨rfl, c, hc, rfl⟩ := hy
    exact hs i c B' acc _ _ (by rw [Array.getElem?_toList]; exact hc) s w' p l (by omega) fun B'' acc' H' s' w'' p' l' => ⟨B'', acc', same_trans s s', w'', p', l'⟩
end
theorem atI_nat0 {cs : List Nat} (h : 0 < cs.length) : atI cs 0 = cs[0]? := by
  unfold atI ixN
  rw [if_pos (by decide), if_pos (by omega)]
  rfl
/-! what a number's text looks like -/
def digs (cs : List Nat) : Bool := cs.all fun c => decide (48 ≤ c ∧ c ≤ 57)
def figs (z : Str) : List Nat := if (sg z).head? = some 45 then (sg z).drop 1 else sg z
def isNum (z : Str) : Bool := decide (1 ≤ (figs z).length) && decide ((figs z).length ≤ 60) && digs (figs z) && (decide ((figs z).head? ≠ some 48) || decide (sg z = [48]))
theorem digs_all {cs : List Nat} (h : digs cs = true) : NumText.AllDigits cs := fun c hc => by
  have := List.all_eq_true.mp h c hc
  exact of_decide_eq_true this
theorem num_text {z : Str} (h1 : 1 ≤ (figs z).length) (h2 : digs (figs z) = true) (h3 : z.length ≤ 640) : ∃ n, intText? z = some n := by
  unfold figs at h1 h2
  by_cases c : (sg z).head? = some 45
  · rw [if_pos c] at h1 h2
    have e : sg z = 45 :: (sg z).drop 1 := by
      cases hz : sg z with
      | nil => rw [hz] at c; cases c
      | cons a r => rw [hz] at c; cases c; rfl
    exact ⟨_, PySem.intText_neg e (digs_all h2) (List.length_pos_iff.mp h1) (by omega)⟩
  · rw [if_neg c] at h1 h2
    exact ⟨_, PySem.intText_digits (digs_all h2) (List.length_pos_iff.mp h1) (by omega)⟩
end Z
namespace Z
open PySem PySem.Spec PyProof.Rows L2
theorem cutS_len (z : Str) (lo hi : Option Int) : (cutS z lo hi).length ≤ z.length := by
  have h := congrArg List.length (show sg (cutS z lo hi) = (z.cps.toList.drop (HT.sIx z.length 0 lo)).take (HT.sIx z.length z.length hi - HT.sIx z.length 0 lo) from rfl)
  rw [sg_len, List.length_take, List.length_drop, Array.length_toList] at h
  have e : z.cps.size = z.length := rfl
  omega
theorem atS_ex {ns : List Str} {i : Int} (h0 : 0 ≤ i) (h1 : i < ns.length) : ∃ v, v ∈ ns ∧ atI (ns.map V.str) i = some (.str v) := by
  have hl : i.toNat < ns.length := by omega
  refine ⟨ns[i.toNat], List.getElem_mem _, ?_⟩
  rw [atI_nat' h0 (by rw [List.length_map]; exact h1), List.getElem?_map, List.getElem?_eq_getElem hl]
  rfl
section
variable {H : Hp} {Q : VK} {z : Str} {lo hi : Option Int}
theorem r_slS (h : z.length ≤ sizeLine) (q : Q (.str (cutS z lo hi)) H) : rSlS (.str z) lo hi H Q := ⟨z, rfl, h, q⟩
end
end Z
namespace Z
open PySem PySem.Spec PyProof.Rows L2
theorem fold_size (a : Array Nat) : ∀ (k : Nat) (acc : Array Nat), ((List.replicate k a).foldl (· ++ ·) acc).size = acc.size + k * a.size
  | 0, acc => by simp
  | k + 1, acc => by
    rw [List.replicate_succ, List.foldl_cons, fold_size a k, Array.size_append, Nat.succ_mul]
    omega
def repS (z : Str) (k : Nat) : Str := ⟨(List.replicate k z.cps).foldl (· ++ ·) #[]⟩
theorem repS_len (z : Str) (k : Nat) : (repS z k).length = k * z.length := by
  have := fold_size z.cps k #[]
  show ((List.replicate k z.cps).foldl (· ++ ·) #[]).size = _
  rw [this]
  simp
  rfl
/-- a sign, so many times -/
def rRepS : R2 := fun x y H Q => ∃ (z : Str) (k : Int), x = .str z ∧ y = .int k ∧ 2 ≤ k ∧ k ≤ 1000 ∧ z.length = 1 ∧ Q (.str (repS z k.toNat)) H
theorem op_rep_str {X : Cx} : OpR X (binaryOp .Mult) rRepS := by
  intro pins s σ H x y v u Q I rx ry h
  obtain ⟨z, k, rfl, rfl, h1, h2, hz, q⟩ := h
  obtain ⟨t, rfl⟩ := rx
  obtain ⟨t', rfl⟩ := ry
  have hk : (k == 1) = false := by simpa using (by omega : ¬ k = 1)
  have hl : (z.length == 0) = false := by rw [hz]; rfl
  have hlen := repS_len z k.toNat
  refine PySem.P.mul_str (by rw [decide_eq_false (by omega), decide_eq_false (by omega)]; rfl) (fun _ _ => ?_) (fun _ _ => ?_) ?_
  · rw [hz]
    have : (1000 : Int) ≤ (2 ^ 63 - 1) / k := by
      apply Int.le_ediv_of_mul_le (by omega)
      omega
    omega
  · rw [hz]
    exact decide_eq_false (by
      have : (1000 : Nat) ≤ sizeLine := by decide
      omega)
  · rw [if_neg (by omega), hk, hl]
    refine ⟨?_, ?_⟩
    · show (repS z k.toNat).length ≤ sizeLine
      rw [hlen, hz]
      have : (1000 : Nat) ≤ sizeLine := by decide
      omega
    · exact ⟨.str (repS z k.toNat), H, I.tok _, ⟨_, rfl⟩, q⟩
end Z

/-! Z15: the text of a number. -/
namespace Z
open PySem PySem.Spec PyProof.Rows L2 PySem.NumText PySem.W.KIN
abbrev nt (n : Int) : Str := Str.ofString (toString n)
theorem nt_len {n : Int} {k : Nat} (hk : 0 < k) (h : n.natAbs < 10 ^ k) : (nt n).length ≤ k + 1 := by
  rw [show (nt n).length = (toString n).length from PyProof.Rows.ofString_len _]
  exact PySem.int_text_length_le10 hk h
theorem sg_nat (m : Nat) : sg (nt (m : Int)) = (Nat.toDigits 10 m).map Char.toNat := signs_num m
theorem sg_neg (m : Nat) : sg (nt (Int.negSucc m)) = 45 :: (Nat.toDigits 10 (m + 1)).map Char.toNat := by
  show sg (Str.ofString ("-" ++ Nat.repr (m + 1))) = _
  show (Str.ofString ("-" ++ Nat.repr (m + 1))).cps.toList = _
  rw [signs_ofString, String.toList_append, List.map_append]
  rw [Nat.toList_repr]
  rfl
theorem digs_to (m : Nat) : AllDigits ((Nat.toDigits 10 m).map Char.toNat) := by
  intro c hc
  obtain ⟨ch, hch, e⟩ := List.mem_map.mp hc
  have r := digit_range (Nat.isDigit_of_mem_toDigits (by decide) (by decide) hch)
  rw [← e]
  exact r
theorem to_ne (m : Nat) : (Nat.toDigits 10 m).map Char.toNat ≠ [] := by
  intro e
  have h := toDigits_len_ge 10 m
  rw [List.map_eq_nil_iff.mp e] at h
  exact absurd h (by decide)
theorem nt_pos (n : Int) : 1 ≤ (nt n).length := by
  rw [← sg_len]
  cases n with
  | ofNat m =>
    show 1 ≤ (sg (nt (m : Int))).length
    rw [sg_nat]
    exact List.length_pos_iff.mpr (to_ne m)
  | negSucc m => rw [sg_neg]; simp
/-- the number a text tells is the number -/
theorem nt_reads {n : Int} (h : (nt n).length ≤ 4300) : intText? (nt n) = some n := by
  cases n with
  | ofNat m =>
    have hd : AllDigits (nt (m : Int)).cps.toList := by
      show AllDigits (sg (nt (m : Int)))
      rw [sg_nat]; exact digs_to m
    have hne : (nt (m : Int)).cps.toList ≠ [] := by
      show sg (nt (m : Int)) ≠ []
      rw [sg_nat]; exact to_ne m
    have e := intText_digits hd hne h
    rw [show (nt (m : Int)).cps.toList = _ from sg_nat m, val_back] at e
    exact e
  | negSucc m =>
    have e := PySem.intText_neg (x := nt (Int.negSucc m)) (sg_neg m) (digs_to _) (to_ne _) h
    rw [val_back] at e
    exact e
theorem to_head : ∀ m : Nat, 0 < m → ((Nat.toDigits 10 m).map Char.toNat).head? ≠ some 48 := by
  intro m
  induction m using Nat.strongRecOn with
  | _ m ih =>
    intro hp
    by_cases h : m < 10
    · rw [Nat.toDigits_of_lt_base h]
      have : ∀ d : Nat, d < 10 → 0 < d → ([Nat.digitChar d].map Char.toNat).head? ≠ some 48 := by decide
      exact this m h hp
    · have hm : m % 10 < 10 := Nat.mod_lt m (by decide)
      have t : Nat.toDigits 10 (m / 10) ++ Nat.toDigits 10 (m % 10) = Nat.toDigits 10 (10 * (m / 10) + m % 10) := Nat.toDigits_append_toDigits (by decide) (by omega) hm
      rw [Nat.div_add_mod] at t
      rw [← t, List.map_append]
      have := ih (m / 10) (by omega) (by omega)
      cases hh : (Nat.toDigits 10 (m / 10)).map Char.toNat with
      | nil => exact absurd hh (to_ne _)
      | cons a r => rw [hh] at this; exact this
theorem digs_of {cs : List Nat} (h : AllDigits cs) : digs cs = true := List.all_eq_true.mpr fun c hc => decide_eq_true (h c hc)
theorem to_45 (m : Nat) : ((Nat.toDigits 10 m).map Char.toNat).head? ≠ some 45 := by
  have h := digs_to m
  cases hh : (Nat.toDigits 10 m).map Char.toNat with
  | nil => exact absurd hh (to_ne _)
  | cons a r => rw [hh] at h; intro e; cases e; have := h.head; omega
theorem nt_figs {n : Int} (h0 : 0 ≤ n) : figs (nt n) = sg (nt n) := by
  obtain ⟨m, rfl⟩ := Int.eq_ofNat_of_zero_le h0
  unfold figs
  rw [sg_nat, if_neg (to_45 m)]
theorem nt_num {n : Int} (h : n.natAbs < 10 ^ 60) : isNum (nt n) = true := by
  cases n with
  | ofNat m =>
    have e : figs (nt (m : Int)) = (Nat.toDigits 10 m).map Char.toNat := by rw [nt_figs (by omega), sg_nat]
    have hl : (nt (m : Int)).length ≤ 60 := by
      rw [show (nt (m : Int)).length = (toString (m : Int)).length from PyProof.Rows.ofString_len _]
      show (Nat.repr m).length ≤ 60
      exact (Nat.length_repr_le_iff (by decide)).mpr h
    rw [← sg_len, sg_nat] at hl
    show isNum (nt (m : Int)) = true
    unfold isNum
    rw [e, digs_of (digs_to m), decide_eq_true hl, decide_eq_true (show 1 ≤ _ from List.length_pos_iff.mpr (to_ne m)), sg_nat]
    by_cases c : m = 0
    · subst c; decide
    · rw [decide_eq_true (to_head m (by omega))]; rfl
  | negSucc m =>
    have e : figs (nt (Int.negSucc m)) = (Nat.toDigits 10 (m + 1)).map Char.toNat := by
      unfold figs
      rw [sg_neg]
      rfl
    have hl : ((Nat.toDigits 10 (m + 1)).map Char.toNat).length ≤ 60 := by
      have : (Nat.repr (m + 1)).length ≤ 60 := (Nat.length_repr_le_iff (by decide)).mpr h
      rw [← String.length_toList, Nat.toList_repr] at this
      rw [List.length_map]; exact this
    unfold isNum
    rw [e, digs_of (digs_to _), decide_eq_true hl, decide_eq_true (show 1 ≤ _ from List.length_pos_iff.mpr (to_ne _)), decide_eq_true (to_head _ (by omega))]
    rfl
theorem log_lt {n : Int} {k b : Nat} (hb : 10 ^ k ≤ 2 ^ b) (h : n.natAbs < 10 ^ k) (hp : 0 < b) : n.natAbs.log2 < b := by
  by_cases c : n.natAbs = 0
  · rw [c]; simpa using hp
  · exact (Nat.log2_lt c).mpr (Nat.lt_of_lt_of_le h hb)
end Z
namespace Z
open PySem PySem.Spec PyProof.Rows L2
theorem atC_ex {z : Str} {i : Int} (h0 : 0 ≤ i) (h1 : i < z.length) : ∃ c, atI z.cps.toList i = some c := by
  have hz : z.cps.toList.length = z.length := Array.length_toList
  have hl : i.toNat < z.cps.toList.length := by omega
  exact ⟨z.cps.toList[i.toNat], by unfold atI ixN; rw [if_pos h0, if_pos (by omega), Option.bind_some, List.getElem?_eq_getElem hl]⟩
theorem ten_nat {m k : Nat} (h : (m : Int) < 10 ^ k) : m < 10 ^ k := by exact_mod_cast h
end Z

/-! Z16: a try whose body refuses nothing; texts cut at blanks. -/
namespace Z
open PySem PySem.Spec PyProof.Rows L2
section
variable {X : Cx} {x : Str} {c : Value} {body suite : List Stmt} {b₀ : Stmt} {np pos pos' : Pos} {tb : TS}
theorem ps_tryDead (hs : X.stack = X.env :: X.outer) (hf : X.env.frame = some X.env.locals) (hc : Names X x c) (hpa : ∀ hd : Option Value, PassesOwnAt (model X.prog X.w) (X.A.mark hd) X.A X.env X.xe)
    (hb : ∀ (pn : List (Addr × Obj)) (xe : Value → Shared → Prop), PassesOwn (model X.prog X.w) X.A X.env xe → PSs (X.tr pn xe) body tb) :
    PS X (.Try body [.ExceptHandler (some (.Name x np)) none (b₀ :: suite) pos'] [] [] pos) tb :=
  L2H.ps_try_onlyX (tb := fun _ => tb) (ts := fun _ _ _ _ _ _ => False) (Wout := fun _ _ _ _ => False) hs hf hc hpa (fun u s' x => by obtain ⟨a, B, sI, pins, σ, H, cls, d, e, I, nb, up, sky, na, os, ag, w⟩ := x; exact w.elim)
    (fun W pn xe _ _ po => hb pn xe po) (fun a oe cls d pn hz hf tk hot => ⟨fun pins s σ H D I h => h.elim⟩)
end
theorem split3 {a b c : Str} (ha : 32 ∉ sg a) (hb : 32 ∉ sg b) (hc : 32 ∉ sg c) : Txt.split (a ++ " " ++ b ++ " " ++ c) " " = [a, b, c] := by
  rw [← join3]
  refine TL.split_join (y := " ") (s := 32) (S := []) (by decide) (by decide +kernel) (by simp) ?_
  intro p hp
  simp only [List.mem_cons, List.not_mem_nil, or_false] at hp
  rcases hp with rfl | rfl | rfl
  · exact ha
  · exact hb
  · exact hc
theorem nt_blank (n : Int) : 32 ∉ sg (nt n) := by
  have h : ∀ m : Nat, 32 ∉ (Nat.toDigits 10 m).map Char.toNat := fun m hm => by
    have := digs_to m 32 hm
    omega
  cases n with
  | ofNat m => show 32 ∉ sg (nt (m : Int)); rw [sg_nat]; exact h m
  | negSucc m =>
    rw [sg_neg]
    intro hm
    rcases List.mem_cons.mp hm with e | e
    · cases e
    · exact h _ e
end Z
namespace Z
open PySem PySem.Spec PyProof.Rows L2
section
variable {K : PySem.W.Frag} {H : Hp} {Q : VK} {a b : Addr}
theorem dp_3b {x y z : Bool} (h : SqL K H a [.bl x, .bl y, .bl z]) : Dp K H (.ref a) (.list [.bool x, .bool y, .bool z]) := .lst h (.cons (.bl _) (.cons (.bl _) (.cons (.bl _) .nil)))
theorem r_ne3B {x y z : Bool} (h1 : SqL K H a [.bl x, .bl y, .bl z]) (h2 : SqL K H b [.bl x, .bl y, .bl z]) (q : Q (.bl false) H) : rNeD K (.ref a) (.ref b) H Q :=
  r_neD (dp_3b h1) (dp_3b h2) (by cases x <;> cases y <;> cases z <;> decide) q
theorem r_neO {o : Option Int} (q : Q (.bl false) H) : rNe (oV o) (oV o) H Q := ⟨by cases o <;> rfl, by rw [decide_eq_true rfl]; exact q⟩
theorem r_neBs {b : Bool} (q : Q (.bl false) H) : rNe (.bl b) (.bl b) H Q := ⟨rfl, by rw [decide_eq_true rfl]; exact q⟩
end
end Z

/-! Msl: dicts of whole numbers as lists of pairs; rows of slots, in plain Lean. -/
namespace Z
open PySem PySem.Spec PyProof.Rows L2
abbrev Kv := List (Int × Int)
def ksP (kv : Kv) : List Int := kv.map (·.1)
def getP (kv : Kv) (k : Int) : Option Int := (kv.find? fun p => decide (p.1 = k)).map (·.2)
def putP (kv : Kv) (k v : Int) : Kv := if (kv.any fun p => decide (p.1 = k)) = true then kv.map (fun p => if p.1 = k then (p.1, v) else p) else kv ++ [(k, v)]
def delP (kv : Kv) (k : Int) : Kv := kv.filter fun p => decide (p.1 ≠ k)
def dkP (kv : Kv) : List (Key × V) := kv.map fun p => (Sum.inl p.1, V.int p.2)
section
variable {kv l r : Kv} {k v n : Int}
theorem dkP_ks (kv : Kv) : Ks (dkP kv) (ksP kv) := by unfold Ks dkP ksP; rw [List.map_map, List.map_map]; rfl
theorem dkP_len (kv : Kv) : (dkP kv).length = kv.length := List.length_map _
theorem ksP_len (kv : Kv) : (ksP kv).length = kv.length := List.length_map _
theorem inl_eq {a b : Int} : ((Sum.inl a : Key) = Sum.inl b) ↔ a = b := ⟨fun h => by cases h; rfl, fun h => by rw [h]⟩
theorem any_iff (kv : Kv) (k : Int) : (kv.any fun p => decide (p.1 = k)) = decide (k ∈ ksP kv) := by
  rw [Bool.eq_iff_iff, List.any_eq_true, decide_eq_true_iff]
  unfold ksP
  rw [List.mem_map]
  constructor
  · rintro ⟨p, hp, e⟩; exact ⟨p, hp, of_decide_eq_true e⟩
  · rintro ⟨p, hp, e⟩; exact ⟨p, hp, decide_eq_true e⟩
theorem dkP_get : ∀ (kv : Kv) (k : Int), valV (dkP kv) (Sum.inl k) = (getP kv k).map V.int
  | [], _ => rfl
  | p :: r, k => by
    by_cases e : p.1 = k
    · rw [show dkP (p :: r) = (Sum.inl p.1, V.int p.2) :: dkP r from rfl, valV_pos (by rw [e])]
      unfold getP
      rw [List.find?_cons, decide_eq_true e]
      rfl
    · rw [show dkP (p :: r) = (Sum.inl p.1, V.int p.2) :: dkP r from rfl, valV_neg (fun h => e (inl_eq.mp h)), dkP_get r k]
      unfold getP
      rw [List.find?_cons, decide_eq_false e]
theorem dkP_put (kv : Kv) (k v : Int) : putK (dkP kv) (Sum.inl k) (V.int v) = dkP (putP kv k v) := by
  unfold putK putP
  have e : ((dkP kv).any fun p => decide (p.1 = Sum.inl k)) = (kv.any fun p => decide (p.1 = k)) := by
    unfold dkP
    rw [List.any_map]
    congr 1
    funext p
    show decide ((Sum.inl p.1 : Key) = Sum.inl k) = _
    rw [decide_eq_decide]
    exact inl_eq
  rw [e]
  by_cases c : (kv.any fun p => decide (p.1 = k)) = true
  · rw [if_pos c, if_pos c]
    unfold dkP
    rw [List.map_map, List.map_map]
    refine List.map_congr_left fun p _ => ?_
    by_cases e2 : p.1 = k
    · simp [e2]
    · have : ¬ ((Sum.inl p.1 : Key) = Sum.inl k) := fun h => e2 (inl_eq.mp h)
      simp [e2]
  · rw [if_neg c, if_neg c]
    unfold dkP
    rw [List.map_append]
    rfl
theorem dkP_del (kv : Kv) (k : Int) : dropK (dkP kv) (Sum.inl k) = dkP (delP kv k) := by
  unfold dropK delP dkP
  rw [List.filter_map]
  congr 1
  refine List.filter_congr fun p _ => ?_
  show decide ((Sum.inl p.1 : Key) ≠ Sum.inl k) = _
  rw [decide_eq_decide]
  exact not_congr inl_eq
theorem dkP_one (kv : Kv) (k v : Int) : mergeK (dkP kv) [(Sum.inl k, V.int v)] = dkP (putP kv k v) := dkP_put kv k v
theorem getP_none (h : k ∉ ksP kv) : getP kv k = none := by
  unfold getP
  rw [List.find?_eq_none.mpr ?_]
  · rfl
  · intro p hp
    have : ¬ p.1 = k := fun e => h (e ▸ List.mem_map.mpr ⟨p, hp, rfl⟩)
    simpa using this
theorem getP_mem (h : getP kv k = some v) : (k, v) ∈ kv := by
  unfold getP at h
  cases e : kv.find? fun p => decide (p.1 = k) with
  | none => rw [e] at h; cases h
  | some p =>
    rw [e] at h
    have h1 := List.find?_some e
    have h2 := List.mem_of_find?_eq_some e
    have e1 : p.1 = k := of_decide_eq_true h1
    cases h
    rw [← e1]
    exact h2
theorem nd_uniq (nd : (ksP kv).Nodup) : ∀ {a b : Int × Int}, a ∈ kv → b ∈ kv → a.1 = b.1 → a = b := by
  induction kv with
  | nil => intro a b h; cases h
  | cons p r ih =>
    intro a b ha hb e
    have n := List.nodup_cons.mp nd
    rcases List.mem_cons.mp ha with rfl | ha2
    · rcases List.mem_cons.mp hb with rfl | hb
      · rfl
      · exact absurd (show a.1 ∈ r.map (·.1) from by rw [e]; exact List.mem_map.mpr ⟨b, hb, rfl⟩) n.1
    · rcases List.mem_cons.mp hb with rfl | hb
      · exact absurd (show b.1 ∈ r.map (·.1) from by rw [← e]; exact List.mem_map.mpr ⟨a, ha2, rfl⟩) n.1
      · exact ih n.2 ha2 hb e
theorem getP_some (nd : (ksP kv).Nodup) (h : (k, v) ∈ kv) : getP kv k = some v := by
  cases e : getP kv k with
  | none =>
    unfold getP at e
    cases e2 : kv.find? fun p => decide (p.1 = k) with
    | none =>
      have := List.find?_eq_none.mp e2 _ h
      simp at this
    | some p => rw [e2] at e; cases e
  | some u =>
    have h2 := getP_mem e
    have := nd_uniq nd h2 h rfl
    cases this
    rfl
theorem getP_isSome (kv : Kv) (k : Int) : (getP kv k).isSome = decide (k ∈ ksP kv) := by
  have h := (dkP_ks kv).isSome (n := k)
  rw [dkP_get] at h
  rw [← h]
  cases getP kv k <;> rfl
theorem getP_ex (h : k ∈ ksP kv) : ∃ v, getP kv k = some v := by
  have e := getP_isSome kv k
  rw [decide_eq_true h] at e
  exact Option.isSome_iff_exists.mp e
theorem putP_new (h : k ∉ ksP kv) : putP kv k v = kv ++ [(k, v)] := by
  unfold putP
  rw [any_iff, decide_eq_false h]
  rfl
theorem putP_old (h : k ∈ ksP kv) : putP kv k v = kv.map fun p => if p.1 = k then (p.1, v) else p := by
  unfold putP
  rw [any_iff, decide_eq_true h]
  rfl
theorem delP_app : delP (l ++ r) k = delP l k ++ delP r k := List.filter_append ..
theorem delP_not (h : k ∉ ksP kv) : delP kv k = kv := by
  unfold delP
  refine List.filter_eq_self.mpr fun p hp => decide_eq_true (by intro e; apply h; rw [← e]; exact List.mem_map.mpr ⟨p, hp, rfl⟩)
theorem ksP_put_old (h : k ∈ ksP kv) : ksP (putP kv k v) = ksP kv := by
  rw [putP_old h]
  unfold ksP
  rw [List.map_map]
  refine List.map_congr_left fun p _ => ?_
  show (if p.1 = k then (p.1, v) else p).1 = p.1
  split <;> rfl
theorem ksP_put_new (h : k ∉ ksP kv) : ksP (putP kv k v) = ksP kv ++ [k] := by
  rw [putP_new h]
  unfold ksP
  rw [List.map_append]
  rfl
theorem ksP_del (kv : Kv) (k : Int) : ksP (delP kv k) = (ksP kv).filter fun m => decide (m ≠ k) := by
  unfold ksP delP
  rw [List.filter_map]
  rfl
theorem map_not (h : k ∉ ksP kv) : (kv.map fun p => if p.1 = k then (p.1, v) else p) = kv := by
  conv => rhs; rw [← List.map_id kv]
  refine List.map_congr_left fun p hp => if_neg (by intro e; apply h; rw [← e]; exact List.mem_map.mpr ⟨p, hp, rfl⟩)
theorem putP_perm {kv kv' : Kv} (h : kv.Perm kv') (k v : Int) : (putP kv k v).Perm (putP kv' k v) := by
  have hm : k ∈ ksP kv ↔ k ∈ ksP kv' := (h.map (·.1)).mem_iff
  by_cases c : k ∈ ksP kv
  · rw [putP_old c, putP_old (hm.mp c)]
    exact h.map _
  · rw [putP_new c, putP_new (fun z => c (hm.mpr z))]
    exact h.append_right _
theorem delP_perm {kv kv' : Kv} (h : kv.Perm kv') (k : Int) : (delP kv k).Perm (delP kv' k) := h.filter _
theorem ksP_perm {kv kv' : Kv} (h : kv.Perm kv') : (ksP kv).Perm (ksP kv') := h.map _
theorem getP_perm {kv kv' : Kv} (h : kv.Perm kv') (nd : (ksP kv).Nodup) (k : Int) : getP kv k = getP kv' k := by
  have nd' : (ksP kv').Nodup := (ksP_perm h).nodup_iff.mp nd
  cases e : getP kv k with
  | some v => exact (getP_some nd' (h.mem_iff.mp (getP_mem e))).symm
  | none =>
    cases e2 : getP kv' k with
    | none => rfl
    | some v =>
      rw [getP_some nd (h.mem_iff.mpr (getP_mem e2))] at e
      cases e
theorem nd_put (nd : (ksP kv).Nodup) : (ksP (putP kv k v)).Nodup := by
  by_cases c : k ∈ ksP kv
  · rw [ksP_put_old c]; exact nd
  · rw [ksP_put_new c]
    refine List.nodup_append.mpr ⟨nd, by simp, fun a ha b hb e => ?_⟩
    have : b = k := by simpa using hb
    exact c (this ▸ e ▸ ha)
theorem nd_del (nd : (ksP kv).Nodup) : (ksP (delP kv k)).Nodup := by
  rw [ksP_del]
  exact nd.sublist List.filter_sublist
theorem del_len (nd : (ksP kv).Nodup) (h : k ∈ ksP kv) : (delP kv k).length + 1 = kv.length := by
  rw [← ksP_len, ← ksP_len kv, ksP_del]
  have : (ksP kv).filter (fun m => decide (m ≠ k)) = (ksP kv).erase k := by
    rw [nd.erase_eq_filter]
    refine List.filter_congr fun m _ => ?_
    by_cases e : m = k <;> simp [e]
  rw [this, List.length_erase_of_mem h]
  have := List.length_pos_of_mem h
  omega
end
/-! lots -/
abbrev Lots := List (Addr × Kv)
def kvL (ds : Lots) : Kv := (ds.map (·.2)).flatten
section
variable {ds : Lots} {i : Nat} {d : Addr} {l x : Kv}
theorem kvL_app (a b : Lots) : kvL (a ++ b) = kvL a ++ kvL b := by unfold kvL; rw [List.map_append, List.flatten_append]
theorem kvL_cons (z : Addr × Kv) (r : Lots) : kvL (z :: r) = z.2 ++ kvL r := rfl
theorem at_split (h : ds[i]? = some (d, l)) : ds = ds.take i ++ (d, l) :: ds.drop (i + 1) := by
  obtain ⟨hi, e⟩ := List.getElem?_eq_some_iff.mp h
  rw [← e, List.getElem_cons_drop, List.take_append_drop]
theorem set_split (h : ds[i]? = some (d, l)) (z : Addr × Kv) : ds.set i z = ds.take i ++ z :: ds.drop (i + 1) := by
  obtain ⟨hi, e⟩ := List.getElem?_eq_some_iff.mp h
  rw [List.set_eq_take_append_cons_drop, if_pos hi]
/-- one lot apart, and all the others -/
theorem kvL_at (h : ds[i]? = some (d, l)) : (kvL ds).Perm (l ++ kvL (ds.eraseIdx i)) := by
  conv => lhs; rw [at_split h]
  rw [List.eraseIdx_eq_take_drop_succ, kvL_app, kvL_app, kvL_cons]
  rw [← List.append_assoc, ← List.append_assoc]
  exact List.perm_append_comm.append_right _
theorem kvL_set {d' : Addr} (h : ds[i]? = some (d, l)) : (kvL (ds.set i (d', x))).Perm (x ++ kvL (ds.eraseIdx i)) := by
  have hi := (List.getElem?_eq_some_iff.mp h).1
  have h2 : (ds.set i (d', x))[i]? = some (d', x) := by rw [List.getElem?_set_self hi]
  have := kvL_at h2
  rwa [List.eraseIdx_set_eq] at this
theorem kvL_mem {p : Int × Int} : p ∈ kvL ds ↔ ∃ (i : Nat) (z : Addr × Kv), ds[i]? = some z ∧ p ∈ z.2 := by
  unfold kvL
  rw [List.mem_flatten]
  constructor
  · rintro ⟨l, hl, hp⟩
    obtain ⟨z, hz, rfl⟩ := List.mem_map.mp hl
    obtain ⟨i, hi⟩ := List.mem_iff_getElem?.mp hz
    exact ⟨i, z, hi, hp⟩
  · rintro ⟨i, z, hi, hp⟩
    exact ⟨_, List.mem_map.mpr ⟨z, List.mem_iff_getElem?.mpr ⟨i, hi⟩, rfl⟩, hp⟩
end
end Z

/-! Msl2: two rows of slots side by side, in plain Lean. -/
namespace Z
open PySem PySem.Spec PyProof.Rows L2
structure Bk where
  bo : Addr
  la : Addr
  ds : Lots
structure Sl where
  o : Bk
  y : Option Bk
  s : Nat
def Bk.set (b : Bk) (i : Nat) (w : Addr × Kv) : Bk := { b with ds := b.ds.set i w }
namespace Sl
def yd (x : Sl) : Lots := match x.y with | none => [] | some b => b.ds
def all (x : Sl) : Lots := x.o.ds ++ x.yd
/-- where a key lies, or would -/
def hi (x : Sl) (k : Int) : Nat := match x.y with
  | none => k.toNat % x.o.ds.length
  | some b => if k.toNat % x.o.ds.length < x.s then x.o.ds.length + k.toNat % b.ds.length else k.toNat % x.o.ds.length
def set (x : Sl) (i : Nat) (w : Addr × Kv) : Sl := if i < x.o.ds.length then { x with o := x.o.set i w } else { x with y := x.y.map fun b => b.set (i - x.o.ds.length) w }
end Sl
structure SlI (x : Sl) (kv : Kv) : Prop where
  ze : ∃ e, 2 ≤ e ∧ e ≤ 8 ∧ x.o.ds.length = 2 ^ e
  y0 : x.y = none → x.s = 0
  ye : ∀ b, x.y = some b → x.s < x.o.ds.length ∧ ∃ e, 2 ≤ e ∧ e ≤ 8 ∧ b.ds.length = 2 ^ e
  hm : ∀ (i : Nat) (z : Addr × Kv), x.all[i]? = some z → ∀ p ∈ z.2, x.hi p.1 = i
  pm : (kvL x.all).Perm kv
  nd : (ksP kv).Nodup
  nn : ∀ k ∈ ksP kv, 0 ≤ k
section
variable {x : Sl} {kv l ps : Kv} {k v : Int} {i : Nat} {d : Addr} {w : Addr × Kv} {b : Bk} {ds : Lots}
theorem pow_sz {n : Nat} (h : ∃ e, 2 ≤ e ∧ e ≤ 8 ∧ n = 2 ^ e) : 4 ≤ n ∧ n ≤ 256 := by
  obtain ⟨e, h1, h2, rfl⟩ := h
  have a := Nat.pow_le_pow_right (n := 2) (by decide) h1
  have c := Nat.pow_le_pow_right (n := 2) (by decide) h2
  exact ⟨a, c⟩
theorem Sl.set_all (x : Sl) (i : Nat) (w : Addr × Kv) : (x.set i w).all = x.all.set i w := by
  unfold Sl.set Sl.all
  by_cases h : i < x.o.ds.length
  · rw [if_pos h, List.set_append_left _ _ h]
    rfl
  · rw [if_neg h, List.set_append_right _ _ (by omega)]
    unfold Sl.yd
    cases e : x.y with
    | none => simp
    | some b => rfl
theorem Sl.set_len (x : Sl) (i : Nat) (w : Addr × Kv) : (x.set i w).o.ds.length = x.o.ds.length := by
  unfold Sl.set
  split
  · exact List.length_set
  · rfl
theorem Sl.set_s (x : Sl) (i : Nat) (w : Addr × Kv) : (x.set i w).s = x.s := by unfold Sl.set; split <;> rfl
theorem Sl.set_y (x : Sl) (i : Nat) (w : Addr × Kv) : (x.set i w).y.map (·.ds.length) = x.y.map (·.ds.length) := by
  unfold Sl.set
  split
  · rfl
  · cases x.y with
    | none => rfl
    | some b => show some _ = some _; congr 1; exact List.length_set
theorem Sl.hi_of {x y : Sl} (h1 : y.o.ds.length = x.o.ds.length) (h2 : y.s = x.s) (h3 : y.y.map (·.ds.length) = x.y.map (·.ds.length)) (k : Int) : y.hi k = x.hi k := by
  unfold Sl.hi
  rw [h1, h2]
  cases e : y.y with
  | none =>
    rw [e] at h3
    cases e2 : x.y with
    | none => rfl
    | some b => rw [e2] at h3; cases h3
  | some b =>
    rw [e] at h3
    cases e2 : x.y with
    | none => rw [e2] at h3; cases h3
    | some c =>
      rw [e2] at h3
      have : b.ds.length = c.ds.length := by injection h3
      dsimp only
      rw [this]
theorem Sl.set_hi (x : Sl) (i : Nat) (w : Addr × Kv) (k : Int) : (x.set i w).hi k = x.hi k := Sl.hi_of (x.set_len i w) (x.set_s i w) (x.set_y i w) k
theorem SlI.lt (h : SlI x kv) (k : Int) : x.hi k < x.all.length := by
  have hz := (pow_sz h.ze).1
  have hk := Nat.mod_lt k.toNat (show 0 < x.o.ds.length by omega)
  unfold Sl.hi Sl.all Sl.yd
  cases e : x.y with
  | none => simp; omega
  | some b =>
    have hb := (pow_sz (h.ye b e).2).1
    have hk2 := Nat.mod_lt k.toNat (show 0 < b.ds.length by omega)
    dsimp only
    rw [List.length_append]
    split <;> omega
theorem SlI.at (h : SlI x kv) (k : Int) : ∃ d l, x.all[x.hi k]? = some (d, l) := ⟨x.all[x.hi k]'(h.lt k) |>.1, x.all[x.hi k]'(h.lt k) |>.2, List.getElem?_eq_getElem (h.lt k)⟩
theorem SlI.home (h : SlI x kv) (e : x.all[x.hi k]? = some (d, l)) : (ksP l).Nodup ∧ (k ∈ ksP l ↔ k ∈ ksP kv) ∧ getP l k = getP kv k ∧ k ∉ ksP (kvL (x.all.eraseIdx (x.hi k))) := by
  have p1 := (kvL_at e).symm.trans h.pm
  have hk : (ksP (l ++ kvL (x.all.eraseIdx (x.hi k)))).Nodup := (ksP_perm p1).nodup_iff.mpr h.nd
  have hk2 : (ksP l ++ ksP (kvL (x.all.eraseIdx (x.hi k)))).Nodup := by
    have e : ksP (l ++ kvL (x.all.eraseIdx (x.hi k))) = ksP l ++ ksP (kvL (x.all.eraseIdx (x.hi k))) := List.map_append
    rwa [e] at hk
  have n := List.nodup_append.mp hk2
  have hm : k ∈ ksP l ↔ k ∈ ksP kv := by
    constructor
    · intro hl
      obtain ⟨p, hp, rfl⟩ := List.mem_map.mp hl
      exact List.mem_map.mpr ⟨p, p1.mem_iff.mp (List.mem_append_left _ hp), rfl⟩
    · intro hl
      obtain ⟨p, hp, rfl⟩ := List.mem_map.mp hl
      obtain ⟨i, z, hi, hz⟩ := kvL_mem.mp (h.pm.mem_iff.mpr hp)
      have := h.hm i z hi p hz
      rw [this, hi] at e
      cases e
      exact List.mem_map.mpr ⟨p, hz, rfl⟩
  refine ⟨n.1, hm, ?_, ?_⟩
  · cases e2 : getP l k with
    | some v => exact (getP_some h.nd (p1.mem_iff.mp (List.mem_append_left _ (getP_mem e2)))).symm
    | none =>
      refine (getP_none fun hc => ?_).symm
      obtain ⟨v, e3⟩ := getP_ex (hm.mpr hc)
      rw [e3] at e2
      cases e2
  · intro hc
    obtain ⟨p, hp, e4⟩ := List.mem_map.mp hc
    have hkv : k ∈ ksP kv := e4 ▸ List.mem_map.mpr ⟨p, p1.mem_iff.mp (List.mem_append_right _ hp), rfl⟩
    exact n.2.2 k (hm.mpr hkv) k hc rfl
/-- one lot is written: what a key's new lot must be -/
theorem SlI.write (h : SlI x kv) {l' kv' : Kv} (e : x.all[x.hi k]? = some (d, l)) (h1 : ∀ p ∈ l', p.1 = k ∨ p ∈ l) (h2 : (l' ++ kvL (x.all.eraseIdx (x.hi k))).Perm kv') (nd : (ksP kv').Nodup) (nn : ∀ k ∈ ksP kv', 0 ≤ k) :
    SlI (x.set (x.hi k) (d, l')) kv' := by
  refine ⟨by rw [Sl.set_len]; exact h.ze, fun e2 => ?_, fun b e2 => ?_, fun i z hi p hp => ?_, ?_, nd, nn⟩
  · rw [Sl.set_s]
    have := x.set_y (x.hi k) (d, l')
    rw [e2] at this
    refine h.y0 ?_
    cases e3 : x.y with
    | none => rfl
    | some b => rw [e3] at this; cases this
  · have := x.set_y (x.hi k) (d, l')
    rw [e2] at this
    cases e3 : x.y with
    | none => rw [e3] at this; cases this
    | some c =>
      rw [e3] at this
      have e4 : b.ds.length = c.ds.length := by injection this
      rw [Sl.set_s, Sl.set_len, e4]
      exact h.ye c e3
  · rw [Sl.set_hi]
    rw [Sl.set_all] at hi
    by_cases c : i = x.hi k
    · subst c
      rw [List.getElem?_set_self (h.lt k)] at hi
      cases hi
      rcases h1 p hp with e5 | hp
      · rw [e5]
      · exact h.hm _ _ e p hp
    · rw [List.getElem?_set_ne (fun z => c z.symm)] at hi
      exact h.hm i z hi p hp
  · rw [Sl.set_all]
    exact (kvL_set e).trans h2
theorem SlI.put (h : SlI x kv) (h0 : 0 ≤ k) (e : x.all[x.hi k]? = some (d, l)) : SlI (x.set (x.hi k) (d, putP l k v)) (putP kv k v) := by
  obtain ⟨n1, m1, _, n2⟩ := h.home e
  have p1 := (kvL_at e).symm.trans h.pm
  refine h.write e (fun p hp => ?_) ?_ (nd_put h.nd) (fun m hm => ?_)
  · by_cases c : k ∈ ksP l
    · rw [putP_old c] at hp
      obtain ⟨q, hq, rfl⟩ := List.mem_map.mp hp
      by_cases c2 : q.1 = k
      · rw [if_pos c2]; exact .inl c2
      · rw [if_neg c2]; exact .inr hq
    · rw [putP_new c] at hp
      rcases List.mem_append.mp hp with hp | hp
      · exact .inr hp
      · have : p = (k, v) := by simpa using hp
        exact .inl (by rw [this])
  · refine List.Perm.trans ?_ (putP_perm p1 k v)
    by_cases c : k ∈ ksP l
    · have c2 : k ∈ ksP (l ++ kvL (x.all.eraseIdx (x.hi k))) := by unfold ksP; rw [List.map_append]; exact List.mem_append_left _ c
      rw [putP_old c, putP_old c2, List.map_append, map_not n2]
    · have c2 : k ∉ ksP (l ++ kvL (x.all.eraseIdx (x.hi k))) := by
        unfold ksP
        rw [List.map_append]
        intro hc
        rcases List.mem_append.mp hc with hc | hc
        · exact c hc
        · exact n2 hc
      rw [putP_new c, putP_new c2, List.append_assoc, List.append_assoc]
      exact List.perm_append_comm.append_left _
  · by_cases c : k ∈ ksP kv
    · rw [ksP_put_old c] at hm; exact h.nn m hm
    · rw [ksP_put_new c] at hm
      rcases List.mem_append.mp hm with hm | hm
      · exact h.nn m hm
      · have : m = k := by simpa using hm
        rw [this]; exact h0
theorem SlI.del (h : SlI x kv) (e : x.all[x.hi k]? = some (d, l)) : SlI (x.set (x.hi k) (d, delP l k)) (delP kv k) := by
  obtain ⟨n1, m1, _, n2⟩ := h.home e
  have p1 := (kvL_at e).symm.trans h.pm
  refine h.write e (fun p hp => .inr ((List.mem_filter.mp hp).1)) ?_ (nd_del h.nd) (fun m hm => ?_)
  · refine List.Perm.trans ?_ (delP_perm p1 k)
    rw [delP_app, delP_not n2]
  · rw [ksP_del] at hm
    exact h.nn m ((List.mem_filter.mp hm).1)
/-! moving -/
def mv1 (ds : Lots) (p : Int × Int) : Lots := match ds[p.1.toNat % ds.length]? with
  | some z => ds.set (p.1.toNat % ds.length) (z.1, putP z.2 p.1 p.2)
  | none => ds
def mvL (ds : Lots) (ps : Kv) : Lots := ps.foldl mv1 ds
theorem mv1_len (ds : Lots) (p : Int × Int) : (mv1 ds p).length = ds.length := by
  unfold mv1
  split
  · exact List.length_set
  · rfl
theorem mvL_len : ∀ (ps : Kv) (ds : Lots), (mvL ds ps).length = ds.length
  | [], _ => rfl
  | p :: r, ds => (mvL_len r (mv1 ds p)).trans (mv1_len ds p)
theorem mv1_at {p : Int × Int} (h : 0 < ds.length) (e : ds[p.1.toNat % ds.length]? = some (d, l)) : mv1 ds p = ds.set (p.1.toNat % ds.length) (d, putP l p.1 p.2) := by unfold mv1; rw [e]
theorem mv1_law {p : Int × Int} (hd : 0 < ds.length) (hn : p.1 ∉ ksP (kvL ds)) : (kvL (mv1 ds p)).Perm (kvL ds ++ [p]) ∧ ∀ (i : Nat) (z : Addr × Kv), (mv1 ds p)[i]? = some z → ∀ q ∈ z.2, (∃ z', ds[i]? = some z' ∧ q ∈ z'.2) ∨ (q = p ∧ p.1.toNat % ds.length = i) := by
  have hi := Nat.mod_lt p.1.toNat hd
  have e : ds[p.1.toNat % ds.length]? = some (ds[p.1.toNat % ds.length].1, ds[p.1.toNat % ds.length].2) := List.getElem?_eq_getElem hi
  generalize ds[p.1.toNat % ds.length].1 = d at e
  generalize ds[p.1.toNat % ds.length].2 = l at e
  have hl : p.1 ∉ ksP l := fun hc => by
    obtain ⟨q, hq, e2⟩ := List.mem_map.mp hc
    exact hn (e2 ▸ List.mem_map.mpr ⟨q, kvL_mem.mpr ⟨_, _, e, hq⟩, rfl⟩)
  rw [mv1_at hd e, putP_new hl]
  refine ⟨?_, fun i z hz q hq => ?_⟩
  · refine (kvL_set e).trans ?_
    refine List.Perm.trans ?_ ((kvL_at e).symm.append_right _)
    rw [List.append_assoc, List.append_assoc]
    exact List.perm_append_comm.append_left _
  · by_cases c : p.1.toNat % ds.length = i
    · subst c
      rw [List.getElem?_set_self hi] at hz
      cases hz
      rcases List.mem_append.mp hq with hq | hq
      · exact .inl ⟨_, e, hq⟩
      · exact .inr ⟨by simpa using hq, rfl⟩
    · rw [List.getElem?_set_ne c] at hz
      exact .inl ⟨z, hz, hq⟩
theorem mvL_law : ∀ (ps : Kv) (ds : Lots), 0 < ds.length → (ksP (kvL ds ++ ps)).Nodup → (kvL (mvL ds ps)).Perm (kvL ds ++ ps) ∧ ∀ (i : Nat) (z : Addr × Kv), (mvL ds ps)[i]? = some z → ∀ q ∈ z.2, (∃ z', ds[i]? = some z' ∧ q ∈ z'.2) ∨ (q ∈ ps ∧ q.1.toNat % ds.length = i)
  | [], ds, _, _ => ⟨by rw [List.append_nil]; exact .refl _, fun i z hz q hq => .inl ⟨z, hz, hq⟩⟩
  | p :: r, ds, hd, nd => by
    have ea : ksP (kvL ds ++ p :: r) = ksP (kvL ds) ++ p.1 :: ksP r := List.map_append
    have n := List.nodup_append.mp (ea ▸ nd)
    have hp : p.1 ∉ ksP (kvL ds) := fun hc => n.2.2 _ hc _ (List.mem_cons_self ..) rfl
    obtain ⟨a1, a2⟩ := mv1_law hd hp
    have nd2 : (ksP (kvL (mv1 ds p) ++ r)).Nodup := by
      refine (ksP_perm (a1.append_right r)).nodup_iff.mpr ?_
      rw [List.append_assoc]
      exact nd
    obtain ⟨b1, b2⟩ := mvL_law r (mv1 ds p) (by rw [mv1_len]; exact hd) nd2
    refine ⟨?_, fun i z hz q hq => ?_⟩
    · refine b1.trans ((a1.append_right r).trans ?_)
      rw [List.append_assoc]
      exact .refl _
    · rcases b2 i z hz q hq with ⟨z', e1, e2⟩ | ⟨e1, e2⟩
      · rcases a2 i z' e1 q e2 with h | ⟨rfl, h⟩
        · exact .inl h
        · exact .inr ⟨List.mem_cons_self .., h⟩
      · rw [mv1_len] at e2
        exact .inr ⟨List.mem_cons_of_mem _ e1, e2⟩
/-- the next slot is moved: the old row's lot at s is d2, empty -/
def Sl.moved (x : Sl) (b : Bk) (d2 : Addr) (ps : Kv) : Sl :=
  if x.s + 1 = x.o.ds.length then ⟨{ b with ds := mvL b.ds ps }, none, 0⟩ else ⟨x.o.set x.s (d2, []), some { b with ds := mvL b.ds ps }, x.s + 1⟩
theorem SlI.move (h : SlI x kv) {d2 : Addr} (eb : x.y = some b) (es : x.o.ds[x.s]? = some (d, ps)) : SlI (x.moved b d2 ps) kv := by
  obtain ⟨hs, hbe⟩ := h.ye b eb
  have hb := (pow_sz hbe).1
  have hz := (pow_sz h.ze).1
  have hall : x.all = x.o.ds ++ b.ds := by unfold Sl.all Sl.yd; rw [eb]
  have hio : ∀ (i : Nat) (z : Addr × Kv), x.o.ds[i]? = some z → ∀ p ∈ z.2, x.s ≤ p.1.toNat % x.o.ds.length ∧ p.1.toNat % x.o.ds.length = i := by
    intro i z hi p hp
    have hil := (List.getElem?_eq_some_iff.mp hi).1
    have := h.hm i z (by rw [hall, List.getElem?_append_left hil]; exact hi) p hp
    unfold Sl.hi at this
    rw [eb] at this
    dsimp only at this
    split at this <;> omega
  have hiy : ∀ (i : Nat) (z : Addr × Kv), b.ds[i]? = some z → ∀ p ∈ z.2, p.1.toNat % x.o.ds.length < x.s ∧ p.1.toNat % b.ds.length = i := by
    intro i z hi p hp
    have := h.hm (x.o.ds.length + i) z (by rw [hall, List.getElem?_append_right (by omega)]; rw [Nat.add_sub_cancel_left]; exact hi) p hp
    unfold Sl.hi at this
    rw [eb] at this
    dsimp only at this
    have hm := Nat.mod_lt p.1.toNat (show 0 < x.o.ds.length by omega)
    split at this <;> omega
  have p0 : (ps ++ kvL (x.o.ds.eraseIdx x.s) ++ kvL b.ds).Perm kv := by
    refine List.Perm.trans ?_ h.pm
    rw [hall, kvL_app]
    exact (kvL_at es).symm.append_right _
  have p1 : (kvL (x.o.ds.eraseIdx x.s) ++ (kvL b.ds ++ ps)).Perm kv := by
    refine List.Perm.trans ?_ p0
    rw [List.append_assoc, ← List.append_assoc]
    exact List.perm_append_comm
  have ndb : (ksP (kvL b.ds ++ ps)).Nodup := by
    have := (ksP_perm p1).nodup_iff.mpr h.nd
    have e : ksP (kvL (x.o.ds.eraseIdx x.s) ++ (kvL b.ds ++ ps)) = ksP (kvL (x.o.ds.eraseIdx x.s)) ++ ksP (kvL b.ds ++ ps) := List.map_append
    rw [e] at this
    exact (List.nodup_append.mp this).2.1
  obtain ⟨q1, q2⟩ := mvL_law ps b.ds (by omega) ndb
  have hps := hio _ _ es
  unfold Sl.moved
  by_cases c : x.s + 1 = x.o.ds.length
  · rw [if_pos c]
    have he : kvL (x.o.ds.eraseIdx x.s) = [] := by
      refine List.eq_nil_iff_forall_not_mem.mpr fun p hp => ?_
      obtain ⟨i, z, hi, hz2⟩ := kvL_mem.mp hp
      rw [List.getElem?_eraseIdx] at hi
      split at hi
      · have := hio _ _ hi p hz2; omega
      · have := (List.getElem?_eq_some_iff.mp hi).1; omega
    have hall2 : Sl.all ⟨{ b with ds := mvL b.ds ps }, none, 0⟩ = mvL b.ds ps := List.append_nil _
    refine ⟨by show ∃ e, _ ∧ _ ∧ (mvL b.ds ps).length = _; rw [mvL_len]; exact hbe, fun _ => rfl, nofun, fun i z hi p hp => ?_, ?_, h.nd, h.nn⟩
    · rw [hall2] at hi
      show p.1.toNat % (mvL b.ds ps).length = i
      rw [mvL_len]
      rcases q2 i z hi p hp with ⟨z', e1, e2⟩ | ⟨_, e2⟩
      · exact (hiy _ _ e1 p e2).2
      · exact e2
    · rw [hall2]
      refine q1.trans ?_
      rw [he, List.nil_append] at p1
      exact p1
  · rw [if_neg c]
    have hall2 : Sl.all ⟨x.o.set x.s (d2, []), some { b with ds := mvL b.ds ps }, x.s + 1⟩ = x.o.ds.set x.s (d2, []) ++ mvL b.ds ps := rfl
    refine ⟨by show ∃ e, _ ∧ _ ∧ (x.o.ds.set x.s _).length = _; rw [List.length_set]; exact h.ze, nofun, fun b' e => ?_, fun i z hi p hp => ?_, ?_, h.nd, h.nn⟩
    · cases e
      refine ⟨?_, ?_⟩
      · show x.s + 1 < (x.o.ds.set x.s _).length
        rw [List.length_set]; omega
      · show ∃ e, _ ∧ _ ∧ (mvL b.ds ps).length = _
        rw [mvL_len]; exact hbe
    · rw [hall2] at hi
      show (if p.1.toNat % (x.o.ds.set x.s (d2, [])).length < x.s + 1 then (x.o.ds.set x.s (d2, [])).length + p.1.toNat % (mvL b.ds ps).length else p.1.toNat % (x.o.ds.set x.s (d2, [])).length) = i
      rw [List.length_set, mvL_len]
      by_cases ci : i < x.o.ds.length
      · rw [List.getElem?_append_left (by rw [List.length_set]; exact ci)] at hi
        by_cases ci2 : x.s = i
        · subst ci2
          rw [List.getElem?_set_self ci] at hi
          cases hi
          cases hp
        · rw [List.getElem?_set_ne ci2] at hi
          have := hio _ _ hi p hp
          rw [if_neg (by omega)]
          exact this.2
      · rw [List.getElem?_append_right (by rw [List.length_set]; omega), List.length_set] at hi
        rcases q2 _ z hi p hp with ⟨z', e1, e2⟩ | ⟨e1, e2⟩
        · have := hiy _ _ e1 p e2
          rw [if_pos (by omega)]
          omega
        · have := hps p e1
          rw [if_pos (by omega)]
          omega
    · rw [hall2, kvL_app]
      refine List.Perm.trans ?_ p1
      refine ((kvL_set es).append q1)
/-- a new row of empty lots begins -/
theorem SlI.begin (h : SlI x kv) (e : x.y = none) (he : ∀ z ∈ b.ds, z.2 = []) (hb : ∃ e, 2 ≤ e ∧ e ≤ 8 ∧ b.ds.length = 2 ^ e) : SlI { x with y := some b } kv := by
  have hz := (pow_sz h.ze).1
  have hall : x.all = x.o.ds := by unfold Sl.all Sl.yd; rw [e]; exact List.append_nil _
  have hnil : kvL b.ds = [] := List.eq_nil_iff_forall_not_mem.mpr fun p hp => by
    obtain ⟨i, z, hi, hz2⟩ := kvL_mem.mp hp
    rw [he z (List.mem_iff_getElem?.mpr ⟨i, hi⟩)] at hz2
    cases hz2
  refine ⟨h.ze, nofun, fun b' e2 => ?_, fun i z hi p hp => ?_, ?_, h.nd, h.nn⟩
  · cases e2
    exact ⟨by rw [show ({ x with y := some b } : Sl).s = x.s from rfl, h.y0 e]; show 0 < x.o.ds.length; omega, hb⟩
  · have hi : (x.o.ds ++ b.ds)[i]? = some z := hi
    show (if p.1.toNat % x.o.ds.length < x.s then x.o.ds.length + p.1.toNat % b.ds.length else p.1.toNat % x.o.ds.length) = i
    rw [if_neg (by rw [h.y0 e]; omega)]
    by_cases ci : i < x.o.ds.length
    · rw [List.getElem?_append_left ci] at hi
      have := h.hm i z (by rw [hall]; exact hi) p hp
      unfold Sl.hi at this
      rw [e] at this
      exact this
    · rw [List.getElem?_append_right (by omega)] at hi
      rw [he z (List.mem_iff_getElem?.mpr ⟨_, hi⟩)] at hp
      cases hp
  · show (kvL (x.o.ds ++ b.ds)).Perm kv
    rw [kvL_app, hnil, List.append_nil, ← hall]
    exact h.pm
end
end Z
namespace Z
open PySem PySem.Spec PyProof.Rows L2
/-- which rows stand, what was moved -/
def Sl.st (x : Sl) : Nat × Option Nat × Nat := (x.o.ds.length, x.y.map (·.ds.length), x.s)
def mvS : Nat × Option Nat × Nat → Nat × Option Nat × Nat
  | (z, none, s) => (z, none, s)
  | (z, some y, s) => if s + 1 = z then (y, none, 0) else (z, some y, s + 1)
def nrow (z m : Nat) : Option Nat := if z < m ∧ z < 256 then some (2 * z) else if 4 * m < z ∧ 4 < z then some (z / 2) else none
def bgS (m : Nat) : Nat × Option Nat × Nat → Nat × Option Nat × Nat
  | (z, none, s) => (z, nrow z m, s)
  | st => st
def turnS (m : Nat) (st : Nat × Option Nat × Nat) : Nat × Option Nat × Nat := bgS m (mvS st)
section
variable {x : Sl} {i : Nat} {w : Addr × Kv} {b : Bk} {d2 : Addr} {ps : Kv}
theorem Sl.set_st (x : Sl) (i : Nat) (w : Addr × Kv) : (x.set i w).st = x.st := by
  unfold Sl.st
  rw [Sl.set_len, Sl.set_y, Sl.set_s]
theorem Sl.moved_st (e : x.y = some b) : (x.moved b d2 ps).st = mvS x.st := by
  unfold Sl.moved Sl.st mvS
  rw [e]
  dsimp only [Option.map]
  by_cases c : x.s + 1 = x.o.ds.length
  · rw [if_pos c, if_pos c]
    dsimp only
    rw [mvL_len]
  · rw [if_neg c, if_neg c]
    dsimp only [Bk.set]
    rw [mvL_len, List.length_set]
end
end Z
namespace Z
open PySem PySem.Spec PyProof.Rows L2
theorem SlI.kvl {x : Sl} {kv : Kv} (h : SlI x kv) {i : Nat} {d : Addr} {l : Kv} (e : x.all[i]? = some (d, l)) : l.length ≤ kv.length := by
  have := ((kvL_at e).symm.trans h.pm).length_eq
  rw [List.length_append] at this
  omega
end Z
namespace Z
open PySem PySem.Spec PyProof.Rows L2
theorem putP_le (kv : Kv) (k v : Int) : (putP kv k v).length ≤ kv.length + 1 := by
  unfold putP
  split
  · rw [List.length_map]; omega
  · rw [List.length_append, List.length_singleton]; omega
theorem mv1_kvl (ds : Lots) (p : Int × Int) : (kvL (mv1 ds p)).length ≤ (kvL ds).length + 1 := by
  unfold mv1
  split
  · rename_i z e
    have h1 := (kvL_at (d := z.1) (l := z.2) e).length_eq
    have h2 := (kvL_set (d := z.1) (d' := z.1) (l := z.2) (x := putP z.2 p.1 p.2) e).length_eq
    have h3 := putP_le z.2 p.1 p.2
    rw [List.length_append] at h1 h2
    omega
  · omega
theorem mvL_kvl : ∀ (ps : Kv) (ds : Lots), (kvL (mvL ds ps)).length ≤ (kvL ds).length + ps.length
  | [], _ => Nat.le_refl _
  | p :: r, ds => by
    have h1 := mvL_kvl r (mv1 ds p)
    have h2 := mv1_kvl ds p
    show (kvL (mvL (mv1 ds p) r)).length ≤ _
    rw [List.length_cons]
    omega
end Z

/-! Z17: owned rows of slots on the heap; a comprehension over a range that makes owned things; a dict locked by its loop. -/
namespace Z
open PySem PySem.Spec PyProof.Rows L2
section
variable {K : PySem.W.Frag} {B H H1 : Hp} {L : List Cell} {D : Addr} {Q : VK} {g : TG} {tt : TT} {te : TE} {vs : List Nat} {σ : L2.St} {acc : List V} {y : V} {Nx : Hp → Prop}
theorem LC.rangeA {lo : Int} {n : Nat} (w : W B L H1) (hD : H1 D = none) (hlen : n < sizeLine) (Pv : Nat → Hp → List Cell → List V → Prop) (h0 : Pv 0 B [] [])
    (hs : ∀ (i : Nat) B' A acc H (Nx : Hp → Prop), i < n → Same B B' → W B' ((D, .lst acc) :: (A ++ L)) H → Pv i B' A acc → acc.length ≤ i → acc.length < sizeLine →
      (∀ B'' A' acc' H', Same B' B'' → W B'' ((D, .lst acc') :: (A' ++ L)) H' → Pv (i + 1) B'' A' acc' → acc'.length ≤ i + 1 → Nx H') →
      g (.int (lo + i)) (wipe σ vs) H fun σ2 H2 => wipe σ2 vs = wipe σ vs ∧ tt σ2 H2 fun b H3 => Br b (te σ2 H3 (rAcc D Nx)) (Nx H3))
    (hd : ∀ B' A acc H, Same B B' → W B' ((D, .lst acc) :: (A ++ L)) H → Pv n B' A acc → acc.length ≤ n → Q (.ref D) H) : LC (Itr lo n) D g tt te vs σ H1 Q := by
  refine lc_range (lo := lo) (n := n) (fun i H => ∃ B' A acc, Same B B' ∧ W B' ((D, .lst acc) :: (A ++ L)) H ∧ Pv i B' A acc ∧ acc.length ≤ i) ⟨B, [], [], same_refl B, w.newL hD _, h0, Nat.le_refl _⟩
    ?_ (fun H ⟨B', A, acc, s, w', p, l⟩ => hd B' A acc H s w' p l)
  rintro i H hi ⟨B', A, acc, s, w', p, l⟩
  exact hs i B' A acc H _ hi s w' p l (by omega) fun B'' A' acc' H' s' w'' p' l' => ⟨B'', A', acc', same_trans s s', w'', p', l'⟩
end
def lotC (z : Addr × Kv) : Cell := (z.1, .dK (dkP z.2))
def rfL (ds : Lots) : List V := ds.map fun z => V.ref z.1
section
variable {B H : Hp} {L A R : List Cell} {ds : Lots} {i : Nat} {d : Addr} {l l' : Kv}
theorem rfL_len (ds : Lots) : (rfL ds).length = ds.length := List.length_map _
theorem rfL_set (h : ds[i]? = some (d, l)) : rfL (ds.set i (d, l')) = rfL ds := by
  unfold rfL
  rw [List.map_set]
  refine List.ext_getElem? fun j => ?_
  by_cases c : i = j
  · subst c
    have hi := (List.getElem?_eq_some_iff.mp h).1
    rw [List.getElem?_set_self (by rw [List.length_map]; exact hi), List.getElem?_map, h]
    rfl
  · rw [List.getElem?_set_ne c]
theorem rfL_at (h : ds[i]? = some (d, l)) : (rfL ds)[i]? = some (.ref d) := by unfold rfL; rw [List.getElem?_map, h]; rfl
theorem W.lot (w : W B (A ++ (ds.map lotC ++ R)) H) (e : ds[i]? = some (d, l)) (l' : Kv) : W B (A ++ ((ds.set i (d, l')).map lotC ++ R)) (upd H d (.dK (dkP l'))) := by
  have e1 : ds.map lotC = (ds.take i).map lotC ++ (d, .dK (dkP l)) :: (ds.drop (i + 1)).map lotC := by
    conv => lhs; rw [at_split e]
    rw [List.map_append, List.map_cons]
    rfl
  have e2 : (ds.set i (d, l')).map lotC = (ds.take i).map lotC ++ (d, .dK (dkP l')) :: (ds.drop (i + 1)).map lotC := by
    rw [set_split e, List.map_append, List.map_cons]
    rfl
  rw [e1, List.append_assoc, ← List.append_assoc, List.cons_append] at w
  rw [e2, List.append_assoc, ← List.append_assoc, List.cons_append]
  exact W.put w _
theorem W.lotG (w : W B (A ++ (ds.map lotC ++ R)) H) (e : ds[i]? = some (d, l)) : H d = some (.dK (dkP l)) :=
  w.get (List.mem_append_right _ (List.mem_append_left _ (List.mem_map.mpr ⟨(d, l), List.mem_iff_getElem?.mpr ⟨i, e⟩, rfl⟩)))
end
end Z

/-! Z18: for k, v in d.items(): the dict is locked meanwhile. -/
namespace Z
open PySem PySem.Spec PyProof.Rows L2
section
variable {σ : L2.St} {H : Hp} {D : Ends} {t : TS} {d : Addr} {u : HO} {td : TE} {R : It → Hp → Prop} {g : TG} {tb : TS} {kvs : List (Key × V)} {o : Obj}
theorem g_lock (e : H d = some u) (mu : Mut (some u)) (h : ∀ od, t ⟨fun σ' H' => H' d = some (.frz od u) ∧ D.nx σ' (upd H' d u), fun v H' => H' d = some (.frz od u) ∧ D.rt v (upd H' d u), fun σ' H' => H' d = some (.frz od u) ∧ D.bk σ' (upd H' d u), fun σ' H' => H' d = some (.frz od u) ∧ D.ct σ' (upd H' d u)⟩ σ (upd H d (.frz od u))) : tLock t D σ H := ⟨d, u, e, mu, h⟩
def rItm (R : It → Hp → Prop) (x : V) (H1 : Hp) : Prop := ∃ d o kvs, x = .ref d ∧ H1 d = some (.frz o (.dK kvs)) ∧ R (Iti d o kvs) H1
theorem g_items (h : td σ H (rItm R)) : iItems td σ H R := h
theorem r_itm (h : H d = some (.frz o (.dK kvs))) (q : R (Iti d o kvs) H) : rItm R (.ref d) H := ⟨d, o, kvs, rfl, h, q⟩
theorem FOR.items (Pv : Nat → L2.St → Hp → Prop) (h0 : Pv 0 σ H) (hl : ∀ i σ H, i ≤ kvs.length → Pv i σ H → H d = some (.frz o (.dK kvs)))
    (hs : ∀ i k v σ H T, kvs[i]? = some (k, v) → Pv i σ H → H T = none → g (.ref T) σ (upd H T (.tup [kV k, v])) fun σ2 H2 => tb { D with nx := Pv (i + 1), ct := Pv (i + 1), bk := D.nx } σ2 H2) (hd : ∀ σ H, Pv kvs.length σ H → D.nx σ H) : FOR (Iti d o kvs) g tb D σ H := by
  refine ⟨fun i m σ H => m + i = kvs.length ∧ Pv i σ H, ⟨kvs.length, by omega, h0⟩, fun i m σ H ⟨hm, p⟩ => ?_⟩
  have hq := hl i σ H (by omega) p
  by_cases c : i = kvs.length
  · subst c
    exact .inl ⟨⟨hq, Nat.le_refl _⟩, hd _ _ p⟩
  · have hi : i < kvs.length := by omega
    refine .inr ⟨⟨hq, hi⟩, Pv (i + 1), fun σ' H' h' => ⟨m - 1, by omega, by omega, h'⟩, fun x H' hy => ?_⟩
    obtain ⟨T, k, v, hkv, rfl, hT, rfl⟩ := hy
    exact hs i k v σ H T hkv p hT
end
section
variable {H : Hp} {Q : VK} {a b : Addr} {kv : Kv} {k v : Int}
theorem r_upd1 (hab : b ≠ a) (ha : H a = some (.dK (dkP kv))) (hb : H b = some (.dK [(Sum.inl k, .int v)])) (hl : kv.length < sizeLine) (q : Q .non (upd H a (.dK (dkP (putP kv k v))))) : rUpd (.ref a) [.ref b] H Q :=
  ⟨a, b, dkP kv, [(Sum.inl k, .int v)], rfl, rfl, hab, ha, hb, by rw [dkP_len, List.length_singleton]; omega, by rw [dkP_one]; exact q⟩
end
end Z
namespace Z
open PySem PySem.Spec PyProof.Rows L2
theorem rfL_mv1 (ds : Lots) (p : Int × Int) : rfL (mv1 ds p) = rfL ds := by
  unfold mv1
  split
  · rename_i z e
    exact rfL_set (d := z.1) (l := z.2) e
  · rfl
theorem rfL_mvL : ∀ (ps : Kv) (ds : Lots), rfL (mvL ds ps) = rfL ds
  | [], _ => rfl
  | p :: r, ds => (rfL_mvL r (mv1 ds p)).trans (rfL_mv1 ds p)
theorem mvL_take {ds : Lots} {ps : Kv} {i : Nat} {p : Int × Int} (h : ps[i]? = some p) : mvL ds (ps.take (i + 1)) = mv1 (mvL ds (ps.take i)) p := by
  unfold mvL
  rw [List.take_add_one, h, List.foldl_append]
  rfl
theorem dkP_at {ps : Kv} {i : Nat} {k : Key} {v : V} (h : (dkP ps)[i]? = some (k, v)) : ∃ p : Int × Int, ps[i]? = some p ∧ k = Sum.inl p.1 ∧ v = .int p.2 := by
  unfold dkP at h
  rw [List.getElem?_map] at h
  cases e : ps[i]? with
  | none => rw [e] at h; cases h
  | some p => rw [e] at h; cases h; exact ⟨p, rfl, rfl, rfl⟩
end Z
namespace Z
open PySem PySem.Spec PyProof.Rows L2
section
variable {K : PySem.W.Frag} {H : Hp} {Q : VK} {t : TA} {σ : L2.St} {r : V → List V → Hp → VK → Prop} {d : Addr} {kvs : List (Key × V)} {tk tv : TE} {k : Int} {v : V}
theorem r_bmD (h : H d = some (.dK kvs)) (q : t σ H fun xs H2 => r (.ref d) xs H2 Q) : rBm K "dict" r t σ (.ref d) H Q := ⟨.inr (.inr (.inl ⟨rfl, .inl ⟨_, h⟩⟩)), q⟩
/-- {k: v} -/
def rDisp1 (p : Addr) (Q : VK) (x y : V) (H2 : Hp) : Prop := H2 p = some (.dK []) ∧ ∃ kvs : List (Key × V), [(x, y)] = kvs.map (fun kv => (kV kv.1, kv.2)) ∧ kvs.length ≤ 15 ∧ Q (.ref p) (upd H2 p (.dK (mergeK [] kvs)))
theorem g_disp1 (h : ∀ p, H p = none → tk σ (upd H p (.dK [])) fun x H2 => tv σ H2 fun y H3 => rDisp1 p Q x y H3) : tDisp [(tk, tv)] σ H Q := h
theorem r_disp1 {p : Addr} (h : H p = some (.dK [])) (q : Q (.ref p) (upd H p (.dK [(Sum.inl k, v)]))) : rDisp1 p Q (.int k) v H := ⟨h, [(Sum.inl k, v)], rfl, by simp, q⟩
end
end Z
namespace Z
open PySem PySem.Spec PyProof.Rows L2
section
variable {K : PySem.W.Frag} {B H : Hp} {X Y L : List Cell} {D : Ends} {σ : L2.St} {ta tv : TE} {rd : V → V → Hp → VK → Prop} {f : Str} {C a dx : Addr} {fs : List (Str × V)} {i j : Int} {P : Hp → Prop} {d d2 : Addr} {o o2 : HO}
/-- an owned thing takes the place of another one -/
theorem W.inst (w : W B ((d2, o2) :: (X ++ (d, o) :: Y)) H) : W B (X ++ (d2, o2) :: Y) H := by
  have p : ((d2, o2) :: (X ++ (d, o) :: Y)).Perm ((d, o) :: (X ++ (d2, o2) :: Y)) :=
    (List.perm_middle.cons _).trans ((List.Perm.swap _ _ _).trans (List.perm_middle.symm.cons _))
  exact (w.perm p).drop1
def rAug (K : PySem.W.Frag) (tv : TE) (rd : V → V → Hp → VK → Prop) (f : Str) (σ : L2.St) (P : Hp → Prop) (x : V) (H1 : Hp) : Prop := ∃ a C dx fs v, x = .ref a ∧ H1 a = some (.ins C dx fs) ∧ Cls K C ∧ NoAttr K C f ∧ fs.lookup f = some v ∧
  tv σ H1 fun y H2 => rd v y H2 fun z H3 => ∃ dx' fs', H3 a = some (.ins C dx' fs') ∧ fs'.length < 1000 ∧ P (upd H3 a (.ins C dx' (putF f z fs')))
theorem g_fldaug (h : ta σ H (rAug K tv rd f σ (D.nx σ))) : sFldAug K ta tv rd f D σ H := h
theorem r_augA (h : H a = some (.ins C dx fs)) (c : Cls K C) (no : NoAttr K C f) (l : fs.lookup f = some (.int i)) (hl : fs.length < 1000) (q : P (upd H a (.ins C dx (putF f (.int (i + j)) fs)))) : rAug K (tC (.int j)) rAdd f σ P (.ref a) H :=
  ⟨a, C, dx, fs, .int i, rfl, h, c, no, l, i, j, rfl, rfl, dx, fs, h, hl, q⟩
theorem r_augS (h : H a = some (.ins C dx fs)) (c : Cls K C) (no : NoAttr K C f) (l : fs.lookup f = some (.int i)) (hl : fs.length < 1000) (q : P (upd H a (.ins C dx (putF f (.int (i - j)) fs)))) : rAug K (tC (.int j)) rSub f σ P (.ref a) H :=
  ⟨a, C, dx, fs, .int i, rfl, h, c, no, l, i, j, rfl, rfl, dx, fs, h, hl, q⟩
end
end Z
namespace Z
open PySem PySem.Spec PyProof.Rows L2
theorem W.sl {B H : Hp} {L L' : List Cell} (w : W B L H) (h : L'.Sublist L) : W B L' H :=
  ⟨w.sub, fun c hc => w.has c (h.mem hc), w.nd.sublist (h.map _), fun c hc => w.out c (h.mem hc)⟩
end Z

/-! Z19: try .. except C: without a name; a dict compared with {}. -/
namespace Z
open PySem PySem.Spec PyProof.Rows L2
def tTryOn (K : PySem.W.Frag) (c : Value) (tb : WX → TS) (ts : Addr → Value → Option Addr → TS) (Wout : WX) : TS := fun D σ H => tb (wOnly K c ts Wout D) D σ H
section
variable {X : Cx} {x : Str} {c : Value} {body suite : List Stmt} {b₀ : Stmt} {np pos pos' : Pos} {tb : WX → TS} {ts : Addr → Value → Option Addr → TS} {Wout : WX}
theorem ps_tryOn (hs : X.stack = X.env :: X.outer) (hf : X.env.frame = some X.env.locals) (hc : Names X x c) (tk : Takes X Wout)
    (hb : ∀ (W : WX) (pn : List (Addr × Obj)) (xe : Value → Shared → Prop), Takes (X.tr pn xe) W → PassesOwn (model X.prog X.w) X.A X.env xe → PSs (X.tr pn xe) body (tb W))
    (hsu : ∀ (a : Addr) (oe : Obj) (cls : Value) (d : Option Addr) (pn : List (Addr × Obj)), Zc cls d oe → (∃ vs, oe.data = .fields vs) → PSs (X.suite a ((a, oe) :: pn)) (b₀ :: suite) (ts a cls d)) :
    PS X (.Try body [.ExceptHandler (some (.Name x np)) none (b₀ :: suite) pos'] [] [] pos) (tTryOn X.K c tb ts Wout) := ps_try_only hs hf hc tk hb hsu
end
section
variable {K : PySem.W.Frag} {σ : L2.St} {H : Hp} {Wout : WX} {D : Ends} {cls c : Value} {d : Option Addr} {ts : Addr → Value → Option Addr → TS} {tb : WX → TS}
theorem g_tryOn (h : tb (wOnly K c ts Wout D) D σ H) : tTryOn K c tb ts Wout D σ H := h
theorem r_caughtO (hx : PySem.W.exmOne K cls c = some true) (h : ∀ a, H a = none → ts a cls d D σ H) : wOnly K c ts Wout D cls d σ H := ⟨true, hx, fun _ => h, nofun⟩
theorem r_passedO (hx : PySem.W.exmOne K cls c = some false) (h : Wout cls d σ H) : wOnly K c ts Wout D cls d σ H := ⟨false, hx, nofun, fun _ => h⟩
end
section
variable {X : Cx} {H : Hp} {Q : VK} {a b : Addr} {kvs : List (Key × V)}
def rEqD0 : R2 := fun x y H Q => ∃ a b ks, x = .ref a ∧ y = .ref b ∧ H a = some (.dK ks) ∧ H b = some (.dK []) ∧ Q (.bl (decide (ks.length = 0))) H
def rNeD0 : R2 := fun x y H Q => ∃ a b ks, x = .ref a ∧ y = .ref b ∧ H a = some (.dK ks) ∧ H b = some (.dK []) ∧ Q (.bl (!decide (ks.length = 0))) H
theorem op_eqD0 (hu : X.A.units < cLine) : OpR X (compareOp .Eq) rEqD0 := by
  intro pins s σ H x y v u Q I rx ry h
  obtain ⟨a, b, ks, rfl, rfl, ea, eb, q⟩ := h
  obtain rfl : v = Value.ref a := rx
  obtain rfl : u = Value.ref b := ry
  obtain ⟨_, ya, va, ra, da⟩ := (show ObjOk X.prog X.w H s.heap a (.dK ks) from I.hok a _ ea)
  obtain ⟨_, yb, vb, rb, db⟩ := (show ObjOk X.prog X.w H s.heap b (.dK []) from I.hok b _ eb)
  have hla : va.length = ks.length := ra.length.symm
  have hlb : vb = [] := List.eq_nil_of_length_eq_zero rb.length.symm
  subst hlb
  refine PySem.W.keq_eq (knd := mixKind X.prog X.w) (r := true) ya yb da db hu (fun e => ?_) (fin_bl I q (by rw [hla]; cases ks <;> simp))
  have : va = [] := List.eq_nil_of_length_eq_zero e
  subst this
  exact .nil
theorem op_neD0 (hu : X.A.units < cLine) : OpR X (compareOp .NotEq) rNeD0 := by
  intro pins s σ H x y v u Q I rx ry h
  obtain ⟨a, b, ks, rfl, rfl, ea, eb, q⟩ := h
  obtain rfl : v = Value.ref a := rx
  obtain rfl : u = Value.ref b := ry
  obtain ⟨_, ya, va, ra, da⟩ := (show ObjOk X.prog X.w H s.heap a (.dK ks) from I.hok a _ ea)
  obtain ⟨_, yb, vb, rb, db⟩ := (show ObjOk X.prog X.w H s.heap b (.dK []) from I.hok b _ eb)
  have hla : va.length = ks.length := ra.length.symm
  have hlb : vb = [] := List.eq_nil_of_length_eq_zero rb.length.symm
  subst hlb
  refine PySem.W.keq_ne (knd := mixKind X.prog X.w) (r := true) ya yb da db hu (fun e => ?_) (fin_bl I q (by rw [hla]; cases ks <;> simp))
  have : va = [] := List.eq_nil_of_length_eq_zero e
  subst this
  exact .nil
theorem r_eqD0 (h1 : H a = some (.dK kvs)) (h2 : H b = some (.dK [])) (q : Q (.bl (decide (kvs.length = 0))) H) : rEqD0 (.ref a) (.ref b) H Q := ⟨a, b, kvs, rfl, rfl, h1, h2, q⟩
theorem r_neD0 (h1 : H a = some (.dK kvs)) (h2 : H b = some (.dK [])) (q : Q (.bl (!decide (kvs.length = 0))) H) : rNeD0 (.ref a) (.ref b) H Q := ⟨a, b, kvs, rfl, rfl, h1, h2, q⟩
end
end Z

set_option maxHeartbeats 4000000
/-! Z39: a try whose suite raises: what its body's defs raise bears no context. -/
namespace Z
open PySem PySem.Spec PyProof.Rows L2
section
variable {P : Program} {w : World} {K : PySem.W.Frag} {mg : Str → Option Value} {base : Heap} {N ps : List Str} {x qual : Str} {scope : Scope} {st : Stmt} {f : Addr} {fd : FuncData} {cd : Value} {A : Around} {outer : List Env} {s : Shared} {H : Hp} {E : XK} {k : Nat} {sp : Sp}
theorem pXN : Passes (L2N.CX P w) (cxOf (L2N.CX P w) P w K mg base N qual scope f cd A outer s H E) E := L2N.passes_call (L2N.takes_of rfl rfl rfl rfl) fun _ _ _ _ h => h
theorem okN_of (F : Fun K x qual st f fd) (S : FnScope N ps (defScope st)) (len : ∀ vs H Q E, sp vs H Q E → vs.length = ps.length)
    (bd : ∀ (cdv : Value) (A : Around) (outer : List Env) (s : Shared) (H : Hp) (vs : List V) (Q : VK) (E : XK), Room k (A.deeper (envOfC qual (defScope st) s.heap.objs.size f cdv)) → sp vs H Q E →
      ∃ t, PSs (cxOf (L2N.CX P w) P w K mg base N qual (defScope st) f cdv A outer s H E) (defBody st) t ∧ t { nx := fun _ H' => Q .non H', rt := Q } (L2.start N vs) H) : FnOk P w K mg base (L2N.CX P w) (k + 1) f fd ps sp := by
  obtain ⟨_, _, _, _, _, _, cdv, _, _, rfl, h1, h2⟩ := F.ex
  exact fn_of h1 h2 S len fun A outer s H vs Q E => bd cdv A outer s H vs Q E
end
section
variable {X : Cx} {WW : WX} {x m : Str} {C : Addr} {j : Nat} {p p2 pos pos2 np pos' : Pos} {c : Value} {body suite : List Stmt} {b₀ : Stmt} {tb : WX → TS} {ts : Addr → Value → Option Addr → TS} {Wout : WX}
theorem ps_raise0N (hc : X.calm = true) (tk : L2N.Takes X WW) (q : PySem.W.excIn X.K C PySem.HandSPX.veTail "ValueError.__new__" = true) (T : XC X.K C) (gC : X.mg x = some (.ref C)) (hg : Gl X x) (hdb : (x == ("__debug__" : Str)) = false := by decide) :
    PS X (.Raise (some (.Call (.Name x p) [.Constant (.str m) j p2] [] pos)) none pos2) (tRaise0 C WW) :=
  L2N.ps_raise hc tk (L2N.pmk_own PySem.F.excBase_ValueError q gC T.ox.kC (raises_own T.ox.exC T.ox.tyC) hg hdb)
/-- .. within an except suite -/
theorem ps_raiseS0 (hot : L2H.HotC X) (tk : Takes X WW) (q : PySem.W.excIn X.K C PySem.HandSPX.veTail "ValueError.__new__" = true) (T : XC X.K C) (gC : X.mg x = some (.ref C)) (hg : Gl X x) (hdb : (x == ("__debug__" : Str)) = false := by decide) :
    PS X (.Raise (some (.Call (.Name x p) [.Constant (.str m) j p2] [] pos)) none pos2) (tRaise0 C WW) :=
  L2H.ps_raiseH hot tk (L2N.pmk_own PySem.F.excBase_ValueError q gC T.ox.kC (raises_own T.ox.exC T.ox.tyC) hg hdb)
theorem ps_tryR (hs : X.stack = X.env :: X.outer) (hf : X.env.frame = some X.env.locals) (hc : Names X x c) (hpa : ∀ hd : Option Value, PassesOwnAt (model X.prog X.w) (X.A.mark hd) X.A X.env X.xe) (tk : Takes X Wout)
    (hb : ∀ (W : WX) (pn : List (Addr × Obj)) (xe : Value → Shared → Prop), L2N.Takes (X.tr pn xe) W → PassesOwn (model X.prog X.w) X.A X.env xe → PSs (X.tr pn xe) body (tb W))
    (hsu : ∀ (a : Addr) (oe : Obj) (cls : Value) (d : Option Addr) (pn : List (Addr × Obj)), Takes (L2H.suiteX X a ((a, oe) :: pn)) Wout → L2H.HotC (L2H.suiteX X a ((a, oe) :: pn)) → PSs (L2H.suiteX X a ((a, oe) :: pn)) (b₀ :: suite) (ts a cls d)) :
    PS X (.Try body [.ExceptHandler (some (.Name x np)) none (b₀ :: suite) pos'] [] [] pos) (tTryOn X.K c tb ts Wout) :=
  L2H.ps_try_onlyX hs hf hc hpa tk (fun W pn xe t _ po => hb W pn xe t po) fun a oe cls d pn _ _ t h => hsu a oe cls d pn t h
end
end Z

set_option maxHeartbeats 4000000
/-! Z40: numerals are written in one way; texts cut and joined. -/
namespace Z
open PySem PySem.Spec PyProof.Rows L2 PySem.NumText PySem.W.KIN
theorem val_snoc (cs : List Nat) (d : Nat) : digitsVal (cs ++ [d]) = digitsVal cs * 10 + (d - 48) := by
  unfold digitsVal
  rw [List.foldl_append]
  rfl
theorem one_digit : ∀ c : Nat, c < 58 → 48 ≤ c → (Nat.toDigits 10 (c - 48)).map Char.toNat = [c] := by decide
theorem canon_nat : ∀ (n : Nat) (cs : List Nat), cs.length = n + 1 → AllDigits cs → cs.head? ≠ some 48 → (Nat.toDigits 10 (digitsVal cs)).map Char.toNat = cs ∧ 0 < digitsVal cs
  | 0, cs, hl, hd, hh => by
    match cs, hl with
    | [c], _ =>
      have h := hd c (List.mem_cons_self ..)
      have hc : c ≠ 48 := fun e => hh (by rw [e]; rfl)
      have e : digitsVal [c] = c - 48 := by
        have := val_snoc [] c
        rw [List.nil_append] at this
        rw [this]
        show 0 * 10 + _ = _
        omega
      rw [e]
      exact ⟨one_digit c (by omega) h.1, by omega⟩
  | n + 1, cs, hl, hd, hh => by
    have hne : cs ≠ [] := fun e => by rw [e] at hl; cases hl
    obtain ⟨ini, d, rfl⟩ : ∃ ini d, cs = ini ++ [d] := ⟨cs.dropLast, cs.getLast hne, (List.dropLast_concat_getLast hne).symm⟩
    rw [List.length_append, List.length_singleton] at hl
    have hil : ini.length = n + 1 := by omega
    have hdd := hd d (List.mem_append_right _ (List.mem_cons_self ..))
    have hi : AllDigits ini := fun c hc => hd c (List.mem_append_left _ hc)
    have hhi : ini.head? ≠ some 48 := by
      cases ini with
      | nil => cases hil
      | cons a r => exact hh
    obtain ⟨h1, h2⟩ := canon_nat n ini hil hi hhi
    rw [val_snoc]
    refine ⟨?_, by omega⟩
    have t := Nat.toDigits_append_toDigits (b := 10) (n := digitsVal ini) (d := d - 48) (by decide) h2 (by omega)
    rw [Nat.mul_comm, ← t, List.map_append, h1, one_digit d (by omega) hdd.1]
theorem sg_dig {z : Str} (h : digs (sg z) = true) : AllDigits z.cps.toList := digs_all h
/-- a numeral is the text of its number -/
theorem num_canon {z : Str} {n : Int} (h : isNum z = true) (e : intText? z = some n) : z = nt n := by
  unfold isNum at h
  simp only [Bool.and_eq_true, Bool.or_eq_true, decide_eq_true_eq] at h
  obtain ⟨⟨⟨h1, h2⟩, h3⟩, h4⟩ := h
  by_cases c : (sg z).head? = some 45
  · have ef : figs z = (sg z).drop 1 := by unfold figs; rw [if_pos c]
    rw [ef] at h1 h2 h3 h4
    obtain ⟨r, hr⟩ : ∃ r, sg z = 45 :: r := by
      cases hz : sg z with
      | nil => rw [hz] at c; cases c
      | cons a r => rw [hz] at c; cases c; exact ⟨r, rfl⟩
    rw [hr] at h1 h2 h3 h4
    have h1 : 1 ≤ r.length := h1
    have h2 : r.length ≤ 60 := h2
    have h3 : digs r = true := h3
    have h4 : r.head? ≠ some 48 := by
      rcases h4 with h4 | h4
      · exact h4
      · cases h4
    have hl : z.length ≤ 4300 := by rw [← sg_len, hr, List.length_cons]; omega
    have e2 := PySem.intText_neg (x := z) hr (digs_all h3) (List.length_pos_iff.mp h1) hl
    rw [e2] at e
    cases e
    obtain ⟨c1, c2⟩ := canon_nat (r.length - 1) r (by omega) (digs_all h3) h4
    refine sg_ext ?_
    obtain ⟨m, hm⟩ : ∃ m, digitsVal r = m + 1 := ⟨digitsVal r - 1, by omega⟩
    rw [hm, show (-((m + 1 : Nat) : Int)) = Int.negSucc m from rfl, sg_neg, ← hm, c1, hr]
  · have ef : figs z = sg z := by unfold figs; rw [if_neg c]
    rw [ef] at h1 h2 h3 h4
    have hl : z.length ≤ 4300 := by rw [← sg_len]; omega
    have e2 := PySem.intText_digits (x := z) (digs_all h3) (List.length_pos_iff.mp h1) hl
    rw [e2] at e
    cases e
    refine sg_ext ?_
    rw [sg_nat]
    rcases h4 with h4 | h4
    · exact (canon_nat ((sg z).length - 1) (sg z) (by omega) (digs_all h3) h4).1.symm
    · show sg z = (Nat.toDigits 10 (digitsVal (sg z))).map Char.toNat
      rw [h4]
      decide
/-! cut and joined -/
theorem parts_of (s : Nat) : ∀ l : List Nat, ∃ ps : List (List Nat), ps ≠ [] ∧ (∀ p ∈ ps, s ∉ p) ∧ TL.joinL [s] ps = l
  | [] => ⟨[[]], by simp, by simp, rfl⟩
  | c :: l => by
    obtain ⟨ps, h1, h2, h3⟩ := parts_of s l
    by_cases e : c = s
    · subst e
      cases ps with
      | nil => exact absurd rfl h1
      | cons p r => exact ⟨[] :: p :: r, by simp, fun q hq => by
          rcases List.mem_cons.mp hq with rfl | hq
          · exact List.not_mem_nil
          · exact h2 q hq, by
          show [] ++ ([c] ++ TL.joinL [c] (p :: r)) = c :: l
          rw [h3]
          rfl⟩
    · match ps, h1 with
      | [p], _ =>
        exact ⟨[c :: p], by simp, fun q hq => by
          rw [List.mem_singleton.mp hq]
          exact fun hm => (List.mem_cons.mp hm).elim (fun z => e z.symm) (h2 p (List.mem_cons_self ..)), by
          show c :: p = c :: l
          rw [← h3]
          rfl⟩
      | p :: q :: r, _ =>
        exact ⟨(c :: p) :: q :: r, by simp, fun t ht => by
          rcases List.mem_cons.mp ht with rfl | ht
          · exact fun hm => (List.mem_cons.mp hm).elim (fun z => e z.symm) (h2 p (List.mem_cons_self ..))
          · exact h2 t (List.mem_cons_of_mem _ ht), by
          show (c :: p) ++ ([s] ++ TL.joinL [s] (q :: r)) = c :: l
          rw [← h3]
          rfl⟩
theorem tl_mk (l : List Nat) : TL.tl (⟨l.toArray⟩ : Str) = l := rfl
theorem mk_sg (z : Str) : (⟨(sg z).toArray⟩ : Str) = z := sg_ext rfl
/-- a text is its parts, joined; no part has the sign -/
theorem split_whole {y : Str} {s : Nat} (ey : sg y = [s]) (hs : s < 256) (z : Str) : Txt.split z y ≠ [] ∧ (∀ p ∈ Txt.split z y, s ∉ sg p) ∧ Txt.join y (Txt.split z y) = z := by
  obtain ⟨ps, h1, h2, h3⟩ := parts_of s (sg z)
  have hk : y.cps.all (· < 256) = true := by
    rw [← Array.all_toList]
    show (sg y).all _ = true
    rw [ey]
    simpa using hs
  have ej : Txt.join y (ps.map fun p => (⟨p.toArray⟩ : Str)) = z := by
    refine sg_ext ?_
    show TL.tl _ = _
    rw [TL.join_eq, TL.tl_join, List.map_map, show TL.tl y = [s] from ey, ← h3]
    congr 1
    conv => rhs; rw [← List.map_id ps]
    exact List.map_congr_left fun p _ => rfl
  have es : Txt.split z y = ps.map fun p => (⟨p.toArray⟩ : Str) := by
    rw [← ej]
    refine TL.split_join (S := []) ey hk (fun e => h1 (List.map_eq_nil_iff.mp e)) fun p hp => ?_
    obtain ⟨q, hq, rfl⟩ := List.mem_map.mp hp
    exact h2 q hq
  rw [es]
  refine ⟨fun e => h1 (List.map_eq_nil_iff.mp e), fun p hp => ?_, ej⟩
  obtain ⟨q, hq, rfl⟩ := List.mem_map.mp hp
  exact h2 q hq
end Z

open PySem L2 Z
local macro_rules | `(tactic| wtm_at "side") => `(tactic| first | with_reducible assumption | omega | (show _ ∨ _; omega) | (show _ ∧ _; omega) | decide | with_reducible rfl | exact ⟨by decide, by decide, by decide⟩ | (refine ⟨?_, ?_, ?_⟩ <;> first | decide | omega | with_reducible assumption) | (refine ⟨?_, ?_⟩ <;> first | decide | omega | with_reducible assumption))
local macro_rules | `(tactic| wtm_at "mem") => `(tactic| first | with_reducible exact List.mem_cons_self .. | (with_reducible refine List.mem_cons_of_mem _ ?_; wtm_at "mem") | (with_reducible refine List.mem_append_left _ ?_; wtm_at "mem") | (with_reducible refine List.mem_append_right _ ?_; wtm_at "mem") | with_reducible assumption)
local macro_rules | `(tactic| wtm_at "rd") => `(tactic| first | with_reducible assumption | (with_reducible refine' W.get ?wtW ?wtQ; (case wtW => with_reducible assumption); (case wtQ => wtm_at "mem")) | (with_reducible refine' W.rd ?wtW ?wtQ; (case wtW => with_reducible assumption); (case wtQ => wtm_at "rd")) | (with_reducible refine' Z.Same.rd ?wtW ?wtQ; (case wtW => with_reducible assumption); (case wtQ => wtm_at "rd")))
local macro_rules | `(tactic| wtm_at "sq") => `(tactic| first | with_reducible assumption | (with_reducible refine SqL.of ?_; wtm_at "rd") | (with_reducible refine SqT.of ?_; wtm_at "rd") | (with_reducible refine' W.sq ?wtW ?wtQ; (case wtW => with_reducible assumption); (case wtQ => wtm_at "sq")) | (with_reducible refine' Z.Same.sq ?wtW ?wtQ; (case wtW => with_reducible assumption); (case wtQ => wtm_at "sq")) | (with_reducible refine' W.tq ?wtW ?wtQ; (case wtW => with_reducible assumption); (case wtQ => wtm_at "sq")) | (with_reducible refine' Z.Same.tq ?wtW ?wtQ; (case wtW => with_reducible assumption); (case wtQ => wtm_at "sq")))
local macro_rules | `(tactic| wtm_at "s0") => `(tactic| first
  | with_reducible refine g_seq ?_
  | with_reducible refine g_asg ?_
  | with_reducible refine g_name ?_
  | ((with_reducible refine' g_var ?gvE ?gvH); (case gvE => exact rfl))
  | with_reducible refine g_c ?_
  | with_reducible refine g_op ?_
  | with_reducible refine r_I0 ?_
  | ((with_reducible refine r_I ?gvE ?gvH); (case gvE => wtm_at "side"))
  | with_reducible refine g_test ?_
  | with_reducible refine g_tst ?_
  | with_reducible refine g_tB ?_
  | with_reducible refine r_eqI ?_
  | with_reducible refine r_neI ?_
  | with_reducible refine g_cons ?_
  | with_reducible refine g_nil ?_
  | with_reducible refine g_cb ?_
  | with_reducible refine g_call ?_
  | with_reducible refine g_ret ?_
  | with_reducible refine g_retN ?_
  | with_reducible refine g_next ?_
  | with_reducible refine g_un ?_
  | with_reducible refine r_U ?_
  | with_reducible refine g_chain ?_
  | with_reducible refine g_and ?_
  | with_reducible refine g_or ?_
  | with_reducible refine g_not ?_
  | with_reducible refine g_andV ?_
  | with_reducible refine g_orV ?_
  | with_reducible refine g_notV ?_
  | with_reducible refine g_if ?_
  | with_reducible refine brT ?_
  | with_reducible refine brF ?_
  | with_reducible refine brNT ?_
  | with_reducible refine brNF ?_
  | with_reducible refine br_rn ?_
  | with_reducible refine br_in ?_
  | with_reducible refine br_sn ?_
  | with_reducible refine br_nn ?_
  | with_reducible refine brN_rn ?_
  | with_reducible refine brN_in ?_
  | with_reducible refine brN_sn ?_
  | with_reducible refine brN_nn ?_
  | ((with_reducible refine br_pt ?gvE ?gvH); (case gvE => first | with_reducible assumption | omega | with_reducible rfl | (simp only [List.length_cons, List.length_nil]; done) | (simp only [List.length_cons, List.length_nil]; omega) | decide))
  | ((with_reducible refine br_pf ?gvE ?gvH); (case gvE => first | with_reducible assumption | omega | (simp only [List.length_cons, List.length_nil]; done) | (simp only [List.length_cons, List.length_nil]; omega) | decide))
  | ((with_reducible refine br_nt ?gvE ?gvH); (case gvE => first | with_reducible assumption | omega | (simp only [List.length_cons, List.length_nil]; done) | (simp only [List.length_cons, List.length_nil]; omega) | decide))
  | ((with_reducible refine br_nf ?gvE ?gvH); (case gvE => first | with_reducible assumption | omega | with_reducible rfl | (simp only [List.length_cons, List.length_nil]; done) | (simp only [List.length_cons, List.length_nil]; omega) | decide))
  | with_reducible refine isi_ii ?_
  | with_reducible refine isi_ib ?_
  | with_reducible refine isi_bi ?_
  | with_reducible refine isi_bb ?_
  | with_reducible refine isi_ni ?_
  | with_reducible refine isi_si ?_
  | with_reducible refine r_tup ?_
  | with_reducible refine r_lst ?_
  | with_reducible refine g_lc ?_
  | with_reducible refine g_for ?_
  | with_reducible refine g_rng1 ?_
  | with_reducible refine g_rng2 ?_
  | with_reducible refine g_ilist ?_
  | with_reducible refine g_itup ?_
  | ((with_reducible refine r_rng1 ?gvE ?gvH); (case gvE => wtm_at "side"))
  | ((with_reducible refine r_rng2 ?gvE ?gvH); (case gvE => wtm_at "side"))
  | with_reducible refine g_sl ?_
  | with_reducible refine g_nopart ?_
  | with_reducible refine g_part ?_
  | with_reducible refine r_part ?_
  | with_reducible refine g_fld ?_
  | with_reducible refine g_sfld ?_
  | with_reducible refine g_meth ?_
  | with_reducible refine g_make ?_
  | with_reducible refine g_din ?_
  | with_reducible refine g_dni ?_
  | with_reducible refine g_dge ?_
  | with_reducible refine g_dpu ?_
  | with_reducible refine r_isNo ?_
  | with_reducible refine r_notNo ?_
  | ((with_reducible refine' r_t0 ?gvE ?gvH); (case gvE => wtm_at "sq"))
  | ((with_reducible refine' r_t1 ?gvE ?gvH); (case gvE => wtm_at "sq"))
  | ((with_reducible refine' r_t2 ?gvE ?gvH); (case gvE => wtm_at "sq"))
  | ((with_reducible refine' g_tup2 ?gvE ?gvN ?gvH); (case gvE => wtm_at "sq"); (case gvN => rfl))
  | with_reducible refine g_dropE ?_
  | ((with_reducible refine' g_aug ?gvE ?gvH); (case gvE => exact rfl))
  | with_reducible refine g_ip ?_
  | with_reducible refine g_whb ?_
  | with_reducible refine g_yes ?_
  | with_reducible refine g_brk ?_
  | with_reducible refine g_cont ?_
  | with_reducible refine r_isB ?_
  | with_reducible refine r_notB ?_
  | with_reducible refine r_eqB ?_
  | with_reducible refine r_neB ?_
  | with_reducible refine r_eqS ?_
  | with_reducible refine r_neS ?_)
local macro_rules | `(tactic| wtm_at "s") => `(tactic| first | wtm_at "s0" | with_reducible refine g_ifS ?_)
/-! as far as it goes by itself; g0: up to the next if; br: either way -/
local macro_rules | `(tactic| wtm_at "g0") => `(tactic| repeat (wtm_at "s0"))
local macro_rules | `(tactic| wtm_at "br") => `(tactic| with_reducible first | refine br ?_ ?_ | refine brN ?_ ?_ | refine brB ?_ ?_ | refine brBN ?_ ?_)
local macro_rules | `(tactic| wtm_at "go") => `(tactic| repeat (wtm_at "s"))

namespace Toy
open PySem L2 Z
def top (i : Nat) : Stmt := PySem.Challenge.pw_staywalk_k63_texts_that_are_no_token.main.body.getD i (.Pass ⟨0, 0, 0, 0⟩)
abbrev s_BySlots_kind_word : Stmt := inClass (top 15) 2
abbrev n_BySlots_kind_word : List Str := ["self"]
theorem sc_BySlots_kind_word : FnScope n_BySlots_kind_word ["self"] (defScope s_BySlots_kind_word) := ⟨rfl, rfl, rfl, by decide +kernel, rfl, by decide +kernel, by decide +kernel⟩
abbrev s_Down_kind_word : Stmt := inClass (top 17) 2
abbrev n_Down_kind_word : List Str := ["self"]
theorem sc_Down_kind_word : FnScope n_Down_kind_word ["self"] (defScope s_Down_kind_word) := ⟨rfl, rfl, rfl, by decide +kernel, rfl, by decide +kernel, by decide +kernel⟩
abbrev s_Up_kind_word : Stmt := inClass (top 16) 2
abbrev n_Up_kind_word : List Str := ["self"]
theorem sc_Up_kind_word : FnScope n_Up_kind_word ["self"] (defScope s_Up_kind_word) := ⟨rfl, rfl, rfl, by decide +kernel, rfl, by decide +kernel, by decide +kernel⟩
abbrev s_shown : Stmt := top 12
abbrev n_shown : List Str := ["number"]
theorem sc_shown : FnScope n_shown ["number"] (defScope s_shown) := ⟨rfl, rfl, rfl, by decide +kernel, rfl, by decide +kernel, by decide +kernel⟩
abbrev s_Token_words : Stmt := inClass (top 14) 3
abbrev n_Token_words : List Str := ["self"]
theorem sc_Token_words : FnScope n_Token_words ["self"] (defScope s_Token_words) := ⟨rfl, rfl, rfl, by decide +kernel, rfl, by decide +kernel, by decide +kernel⟩
abbrev s__law_cell_at : Stmt := top 26
abbrev n__law_cell_at : List Str := ["_law_script", "_law_k"]
theorem sc__law_cell_at : FnScope n__law_cell_at ["_law_script", "_law_k"] (defScope s__law_cell_at) := ⟨rfl, rfl, rfl, by decide +kernel, rfl, by decide +kernel, by decide +kernel⟩
abbrev s__law_changed : Stmt := top 28
abbrev n__law_changed : List Str := ["_law_words", "_law_cell", "_law_place", "_law_odd", "_law_word_here", "_law_way", "_law_last"]
theorem sc__law_changed : FnScope n__law_changed ["_law_words", "_law_cell"] (defScope s__law_changed) := ⟨rfl, rfl, rfl, by decide +kernel, rfl, by decide +kernel, by decide +kernel⟩
abbrev s__law_value : Stmt := top 29
abbrev n__law_value : List Str := ["_law_word_here", "_law_sign"]
theorem sc__law_value : FnScope n__law_value ["_law_word_here"] (defScope s__law_value) := ⟨rfl, rfl, rfl, by decide +kernel, rfl, by decide +kernel, by decide +kernel⟩
abbrev s__law_good : Stmt := top 30
abbrev n__law_good : List Str := ["_law_text", "_law_words", "_law_at", "_law_end"]
theorem sc__law_good : FnScope n__law_good ["_law_text"] (defScope s__law_good) := ⟨rfl, rfl, rfl, by decide +kernel, rfl, by decide +kernel, by decide +kernel⟩
abbrev s_Token_init : Stmt := inClass (top 14) 0
abbrev n_Token_init : List Str := ["self", "at", "end"]
theorem sc_Token_init : FnScope n_Token_init ["self", "at", "end"] (defScope s_Token_init) := ⟨rfl, rfl, rfl, by decide +kernel, rfl, by decide +kernel, by decide +kernel⟩
abbrev s_is_whole : Stmt := top 8
abbrev n_is_whole : List Str := ["thing"]
theorem sc_is_whole : FnScope n_is_whole ["thing"] (defScope s_is_whole) := ⟨rfl, rfl, rfl, by decide +kernel, rfl, by decide +kernel, by decide +kernel⟩
abbrev s_bounded : Stmt := top 10
abbrev n_bounded : List Str := ["number", "most"]
theorem sc_bounded : FnScope n_bounded ["number", "most"] (defScope s_bounded) := ⟨rfl, rfl, rfl, by decide +kernel, rfl, by decide +kernel, by decide +kernel⟩
abbrev s_in_order : Stmt := top 13
abbrev n_in_order : List Str := ["low", "high"]
theorem sc_in_order : FnScope n_in_order ["low", "high"] (defScope s_in_order) := ⟨rfl, rfl, rfl, by decide +kernel, rfl, by decide +kernel, by decide +kernel⟩
abbrev s_BySlots_init : Stmt := inClass (top 15) 0
abbrev n_BySlots_init : List Str := ["self", "at", "end"]
theorem sc_BySlots_init : FnScope n_BySlots_init ["self", "at", "end"] (defScope s_BySlots_init) := ⟨rfl, rfl, rfl, by decide +kernel, rfl, by decide +kernel, by decide +kernel⟩
abbrev s_bound_or_none : Stmt := top 11
abbrev n_bound_or_none : List Str := ["number"]
theorem sc_bound_or_none : FnScope n_bound_or_none ["number"] (defScope s_bound_or_none) := ⟨rfl, rfl, rfl, by decide +kernel, rfl, by decide +kernel, by decide +kernel⟩
abbrev s_Down_init : Stmt := inClass (top 17) 0
abbrev n_Down_init : List Str := ["self", "at", "end"]
theorem sc_Down_init : FnScope n_Down_init ["self", "at", "end"] (defScope s_Down_init) := ⟨rfl, rfl, rfl, by decide +kernel, rfl, by decide +kernel, by decide +kernel⟩
abbrev s_Up_init : Stmt := inClass (top 16) 0
abbrev n_Up_init : List Str := ["self", "at", "end"]
theorem sc_Up_init : FnScope n_Up_init ["self", "at", "end"] (defScope s_Up_init) := ⟨rfl, rfl, rfl, by decide +kernel, rfl, by decide +kernel, by decide +kernel⟩
abbrev s_read_whole : Stmt := top 21
abbrev n_read_whole : List Str := ["text", "figures", "sign"]
theorem sc_read_whole : FnScope n_read_whole ["text"] (defScope s_read_whole) := ⟨rfl, rfl, rfl, by decide +kernel, rfl, by decide +kernel, by decide +kernel⟩
abbrev s_read_bound : Stmt := top 22
abbrev n_read_bound : List Str := ["word"]
theorem sc_read_bound : FnScope n_read_bound ["word"] (defScope s_read_bound) := ⟨rfl, rfl, rfl, by decide +kernel, rfl, by decide +kernel, by decide +kernel⟩
abbrev s_token_of : Stmt := top 23
abbrev n_token_of : List Str := ["words", "at", "end"]
theorem sc_token_of : FnScope n_token_of ["words"] (defScope s_token_of) := ⟨rfl, rfl, rfl, by decide +kernel, rfl, by decide +kernel, by decide +kernel⟩
abbrev s_read_token : Stmt := top 24
abbrev n_read_token : List Str := ["text", "words"]
theorem sc_read_token : FnScope n_read_token ["text"] (defScope s_read_token) := ⟨rfl, rfl, rfl, by decide +kernel, rfl, by decide +kernel, by decide +kernel⟩
abbrev s__law_refused : Stmt := top 31
abbrev n__law_refused : List Str := ["_law_thing", "e"]
theorem sc__law_refused : FnScope n__law_refused ["_law_thing"] (defScope s__law_refused) := ⟨rfl, rfl, rfl, by decide +kernel, rfl, by decide +kernel, by decide +kernel⟩
abbrev s__law_word : Stmt := top 27
abbrev n__law_word : List Str := ["_law_cell"]
theorem sc__law_word : FnScope n__law_word ["_law_cell"] (defScope s__law_word) := ⟨rfl, rfl, rfl, by decide +kernel, rfl, by decide +kernel, by decide +kernel⟩
abbrev s_law : Stmt := top 32
abbrev n_law : List Str := ["_law_script", "_law_words", "_law_text", "_law_other"]
theorem sc_law : FnScope n_law ["_law_script"] (defScope s_law) := ⟨rfl, rfl, rfl, by decide +kernel, rfl, by decide +kernel, by decide +kernel⟩
abbrev rz_bounded : Prop := True
abbrev rz_in_order : Prop := True
abbrev rz_read_whole : Prop := True
abbrev rz_token_of : Prop := True
abbrev rz_read_token : Prop := True
structure Ad where
  a_BySlots_kind_word : Addr
  d_BySlots_kind_word : FuncData
  a_Down_kind_word : Addr
  d_Down_kind_word : FuncData
  a_Up_kind_word : Addr
  d_Up_kind_word : FuncData
  a_shown : Addr
  d_shown : FuncData
  a_Token_words : Addr
  d_Token_words : FuncData
  a__law_cell_at : Addr
  d__law_cell_at : FuncData
  a__law_changed : Addr
  d__law_changed : FuncData
  a__law_value : Addr
  d__law_value : FuncData
  a__law_good : Addr
  d__law_good : FuncData
  a_Token_init : Addr
  d_Token_init : FuncData
  a_is_whole : Addr
  d_is_whole : FuncData
  a_bounded : Addr
  d_bounded : FuncData
  a_in_order : Addr
  d_in_order : FuncData
  a_BySlots_init : Addr
  d_BySlots_init : FuncData
  a_bound_or_none : Addr
  d_bound_or_none : FuncData
  a_Down_init : Addr
  d_Down_init : FuncData
  a_Up_init : Addr
  d_Up_init : FuncData
  a_read_whole : Addr
  d_read_whole : FuncData
  a_read_bound : Addr
  d_read_bound : FuncData
  a_token_of : Addr
  d_token_of : FuncData
  a_read_token : Addr
  d_read_token : FuncData
  a__law_refused : Addr
  d__law_refused : FuncData
  a__law_word : Addr
  d__law_word : FuncData
  a_law : Addr
  d_law : FuncData
  c_WalkError : Addr
  c_NoToken : Addr
  c_NoText : Addr
  c_NoRow : Addr
  c_Token : Addr
  c_BySlots : Addr
  c_Up : Addr
  c_Down : Addr
  t_PLACES : Tok
  t_FIGURES : Tok
  t_MOST_FIGURES : Tok
structure Txt (K : PySem.W.Frag) (mg : Str → Option Value) (D : Ad) : Prop where
  F_BySlots_kind_word : Fun K "kind_word" "BySlots.kind_word" s_BySlots_kind_word D.a_BySlots_kind_word D.d_BySlots_kind_word
  b_BySlots_kind_word : Binds K D.d_BySlots_kind_word ["self"] []
  F_Down_kind_word : Fun K "kind_word" "Down.kind_word" s_Down_kind_word D.a_Down_kind_word D.d_Down_kind_word
  b_Down_kind_word : Binds K D.d_Down_kind_word ["self"] []
  F_Up_kind_word : Fun K "kind_word" "Up.kind_word" s_Up_kind_word D.a_Up_kind_word D.d_Up_kind_word
  b_Up_kind_word : Binds K D.d_Up_kind_word ["self"] []
  F_shown : Fun K "shown" "shown" s_shown D.a_shown D.d_shown
  b_shown : Binds K D.d_shown ["number"] []
  g_shown : mg "shown" = some (.ref D.a_shown)
  F_Token_words : Fun K "words" "Token.words" s_Token_words D.a_Token_words D.d_Token_words
  b_Token_words : Binds K D.d_Token_words ["self"] []
  F__law_cell_at : Fun K "_law_cell_at" "_law_cell_at" s__law_cell_at D.a__law_cell_at D.d__law_cell_at
  b__law_cell_at : Binds K D.d__law_cell_at ["_law_script", "_law_k"] []
  g__law_cell_at : mg "_law_cell_at" = some (.ref D.a__law_cell_at)
  F__law_changed : Fun K "_law_changed" "_law_changed" s__law_changed D.a__law_changed D.d__law_changed
  b__law_changed : Binds K D.d__law_changed ["_law_words", "_law_cell"] []
  g__law_changed : mg "_law_changed" = some (.ref D.a__law_changed)
  F__law_value : Fun K "_law_value" "_law_value" s__law_value D.a__law_value D.d__law_value
  b__law_value : Binds K D.d__law_value ["_law_word_here"] []
  g__law_value : mg "_law_value" = some (.ref D.a__law_value)
  F__law_good : Fun K "_law_good" "_law_good" s__law_good D.a__law_good D.d__law_good
  b__law_good : Binds K D.d__law_good ["_law_text"] []
  g__law_good : mg "_law_good" = some (.ref D.a__law_good)
  F_Token_init : Fun K "__init__" "Token.__init__" s_Token_init D.a_Token_init D.d_Token_init
  b_Token_init : Binds K D.d_Token_init ["self", "at", "end"] []
  F_is_whole : Fun K "is_whole" "is_whole" s_is_whole D.a_is_whole D.d_is_whole
  b_is_whole : Binds K D.d_is_whole ["thing"] []
  g_is_whole : mg "is_whole" = some (.ref D.a_is_whole)
  F_bounded : Fun K "bounded" "bounded" s_bounded D.a_bounded D.d_bounded
  b_bounded : Binds K D.d_bounded ["number", "most"] []
  g_bounded : mg "bounded" = some (.ref D.a_bounded)
  F_in_order : Fun K "in_order" "in_order" s_in_order D.a_in_order D.d_in_order
  b_in_order : Binds K D.d_in_order ["low", "high"] []
  g_in_order : mg "in_order" = some (.ref D.a_in_order)
  F_BySlots_init : FunD K "__init__" "BySlots.__init__" (defArgs s_BySlots_init) (defBody s_BySlots_init) (defScope s_BySlots_init) [.int 0, .int 65536] [] D.a_BySlots_init D.d_BySlots_init
  b_BySlots_init : Binds K D.d_BySlots_init ["self", "at", "end"] []
  b_BySlots_init_1 : ∃ ds, Vals [.int 65536] ds ∧ Binds K D.d_BySlots_init ["self", "at", "end"] ds
  b_BySlots_init_2 : ∃ ds, Vals [.int 0, .int 65536] ds ∧ Binds K D.d_BySlots_init ["self", "at", "end"] ds
  F_bound_or_none : Fun K "bound_or_none" "bound_or_none" s_bound_or_none D.a_bound_or_none D.d_bound_or_none
  b_bound_or_none : Binds K D.d_bound_or_none ["number"] []
  g_bound_or_none : mg "bound_or_none" = some (.ref D.a_bound_or_none)
  F_Down_init : FunD K "__init__" "Down.__init__" (defArgs s_Down_init) (defBody s_Down_init) (defScope s_Down_init) [.non, .int 0] [] D.a_Down_init D.d_Down_init
  b_Down_init : Binds K D.d_Down_init ["self", "at", "end"] []
  b_Down_init_1 : ∃ ds, Vals [.int 0] ds ∧ Binds K D.d_Down_init ["self", "at", "end"] ds
  b_Down_init_2 : ∃ ds, Vals [.non, .int 0] ds ∧ Binds K D.d_Down_init ["self", "at", "end"] ds
  F_Up_init : FunD K "__init__" "Up.__init__" (defArgs s_Up_init) (defBody s_Up_init) (defScope s_Up_init) [.int 0, .non] [] D.a_Up_init D.d_Up_init
  b_Up_init : Binds K D.d_Up_init ["self", "at", "end"] []
  b_Up_init_1 : ∃ ds, Vals [.non] ds ∧ Binds K D.d_Up_init ["self", "at", "end"] ds
  b_Up_init_2 : ∃ ds, Vals [.int 0, .non] ds ∧ Binds K D.d_Up_init ["self", "at", "end"] ds
  F_read_whole : Fun K "read_whole" "read_whole" s_read_whole D.a_read_whole D.d_read_whole
  b_read_whole : Binds K D.d_read_whole ["text"] []
  g_read_whole : mg "read_whole" = some (.ref D.a_read_whole)
  F_read_bound : Fun K "read_bound" "read_bound" s_read_bound D.a_read_bound D.d_read_bound
  b_read_bound : Binds K D.d_read_bound ["word"] []
  g_read_bound : mg "read_bound" = some (.ref D.a_read_bound)
  F_token_of : Fun K "token_of" "token_of" s_token_of D.a_token_of D.d_token_of
  b_token_of : Binds K D.d_token_of ["words"] []
  g_token_of : mg "token_of" = some (.ref D.a_token_of)
  F_read_token : Fun K "read_token" "read_token" s_read_token D.a_read_token D.d_read_token
  b_read_token : Binds K D.d_read_token ["text"] []
  g_read_token : mg "read_token" = some (.ref D.a_read_token)
  F__law_refused : Fun K "_law_refused" "_law_refused" s__law_refused D.a__law_refused D.d__law_refused
  b__law_refused : Binds K D.d__law_refused ["_law_thing"] []
  g__law_refused : mg "_law_refused" = some (.ref D.a__law_refused)
  F__law_word : Fun K "_law_word" "_law_word" s__law_word D.a__law_word D.d__law_word
  b__law_word : Binds K D.d__law_word ["_law_cell"] []
  g__law_word : mg "_law_word" = some (.ref D.a__law_word)
  F_law : Fun K "law" "law" s_law D.a_law D.d_law
  b_law : Binds K D.d_law ["_law_script"] []
  g_law : mg "law" = some (.ref D.a_law)
  g_WalkError : mg "WalkError" = some (.ref D.c_WalkError)
  xc_WalkError : XC K D.c_WalkError
  g_NoToken : mg "NoToken" = some (.ref D.c_NoToken)
  xc_NoToken : XC K D.c_NoToken
  sv_NoToken : PySem.W.subIn K (.ref D.c_NoToken) (.type "ValueError") = some true
  xi_NoToken : PySem.W.excIn K D.c_NoToken PySem.HandSPX.veTail "ValueError.__new__" = true
  sb_NoToken_NoText : PySem.W.subIn K (.ref D.c_NoToken) (.ref D.c_NoText) = some false
  sb_NoToken_WalkError : PySem.W.subIn K (.ref D.c_NoToken) (.ref D.c_WalkError) = some true
  sb_NoToken_NoRow : PySem.W.subIn K (.ref D.c_NoToken) (.ref D.c_NoRow) = some false
  sb_NoToken_NoToken : PySem.W.subIn K (.ref D.c_NoToken) (.ref D.c_NoToken) = some true
  g_NoText : mg "NoText" = some (.ref D.c_NoText)
  xc_NoText : XC K D.c_NoText
  sv_NoText : PySem.W.subIn K (.ref D.c_NoText) (.type "ValueError") = some true
  xi_NoText : PySem.W.excIn K D.c_NoText PySem.HandSPX.veTail "ValueError.__new__" = true
  sb_NoText_NoText : PySem.W.subIn K (.ref D.c_NoText) (.ref D.c_NoText) = some true
  sb_NoText_WalkError : PySem.W.subIn K (.ref D.c_NoText) (.ref D.c_WalkError) = some true
  sb_NoText_NoRow : PySem.W.subIn K (.ref D.c_NoText) (.ref D.c_NoRow) = some false
  sb_NoText_NoToken : PySem.W.subIn K (.ref D.c_NoText) (.ref D.c_NoToken) = some false
  g_NoRow : mg "NoRow" = some (.ref D.c_NoRow)
  xc_NoRow : XC K D.c_NoRow
  g_Token : mg "Token" = some (.ref D.c_Token)
  cl_Token : Cls K D.c_Token
  mk_Token : Mk K D.c_Token D.a_Token_init
  me_Token_words : Meth K D.c_Token "words" D.a_Token_words
  na_Token_at : NoAttr K D.c_Token "at"
  na_Token_end : NoAttr K D.c_Token "end"
  g_BySlots : mg "BySlots" = some (.ref D.c_BySlots)
  cl_BySlots : Cls K D.c_BySlots
  mk_BySlots : Mk K D.c_BySlots D.a_BySlots_init
  me_BySlots_kind_word : Meth K D.c_BySlots "kind_word" D.a_BySlots_kind_word
  me_BySlots_words : Meth K D.c_BySlots "words" D.a_Token_words
  na_BySlots_at : NoAttr K D.c_BySlots "at"
  na_BySlots_end : NoAttr K D.c_BySlots "end"
  g_Up : mg "Up" = some (.ref D.c_Up)
  cl_Up : Cls K D.c_Up
  mk_Up : Mk K D.c_Up D.a_Up_init
  me_Up_kind_word : Meth K D.c_Up "kind_word" D.a_Up_kind_word
  me_Up_words : Meth K D.c_Up "words" D.a_Token_words
  na_Up_at : NoAttr K D.c_Up "at"
  na_Up_end : NoAttr K D.c_Up "end"
  g_Down : mg "Down" = some (.ref D.c_Down)
  cl_Down : Cls K D.c_Down
  mk_Down : Mk K D.c_Down D.a_Down_init
  me_Down_kind_word : Meth K D.c_Down "kind_word" D.a_Down_kind_word
  me_Down_words : Meth K D.c_Down "words" D.a_Token_words
  na_Down_at : NoAttr K D.c_Down "at"
  na_Down_end : NoAttr K D.c_Down "end"
  cr_Token : ClX.CRead K D.c_Token (.type "type")
  ci_Token_init : PySem.W.findCls K (.ref D.c_Token) (.type "type") "__init__" = some (.val (.ref D.a_Token_init))
  k_PLACES : mg "PLACES" = some (.int 65536 D.t_PLACES)
  k_FIGURES : mg "FIGURES" = some (.str "0123456789" D.t_FIGURES)
  k_MOST_FIGURES : mg "MOST_FIGURES" = some (.int 60 D.t_MOST_FIGURES)
  n_ValueError : mg "ValueError" = none
  n_all : mg "all" = none
  n_bool : mg "bool" = none
  n_int : mg "int" = none
  n_isinstance : mg "isinstance" = none
  n_len : mg "len" = none
  n_str : mg "str" = none
section
variable {P : Program} {w : World} {K : PySem.W.Frag} {mg : Str → Option Value} {base : Heap}
abbrev sp_law (K : PySem.W.Frag) (_ : Ad) : Sp := spEnd K
theorem sp_law_end {K : PySem.W.Frag} {D : Ad} {vs : List V} {H : Hp} {Q : VK} {E : XK} (h : spEnd K vs H Q E) : sp_law K D vs H Q E := h

def sp__law_cell_at (K : PySem.W.Frag) (_ : Ad) : Sp := Sp2 fun x y H Q _ => ∃ (a : Addr) (ns : List Int) (i : Nat), x = .ref a ∧ y = .int i ∧ SqL K H a (ns.map V.int) ∧ Q (.int (ns.getD i 0)) H
theorem ok__law_cell_at {D : Ad} (T : Txt K mg D) : FnOk P w K mg base (L2.CX P w) 1 D.a__law_cell_at D.d__law_cell_at ["_law_script", "_law_k"] (sp__law_cell_at K D) := by
  refine T.F__law_cell_at.okX sc__law_cell_at (fun vs H Q E h => sp2_len h) (fun cdv A outer s H vs Q E hr h => ⟨_, (pss_cons (ps_if (pt_cmpR op_lt (pv 1) (pe_callB call_lenZ (by rfl) T.n_len bt_len (pa_cons (pv 0) pa_nil)) (nomark _))
      (pss_one (ps_ret (pe_ix ix_list (pv 0) (pv 1) (fun _ _ => rfl))))
      pss_nil)
    (pss_one (ps_ret pe_int))), ?_⟩)
  obtain ⟨x0, x1, rfl, h⟩ := h
  rw [show L2.start n__law_cell_at [x0, x1] = [some x0, some x1] from rfl]
  try dsimp only [cxOf]
  obtain ⟨a, ns, i, rfl, rfl, hS, k⟩ := h
  wtm_at "go"
  refine r_lenL hS ?_
  wtm_at "go"
  rw [List.length_map]
  refine br (fun h => ?_) (fun h => ?_)
  · wtm_at "go"
    have hi : i < ns.length := by omega
    refine r_ixL (v := .int (ns.getD i 0)) hS ?_ k
    rw [atI_nat' (by omega) (by rw [List.length_map]; exact h), Int.toNat_natCast, List.getElem?_map, List.getD_eq_getElem?_getD, List.getElem?_eq_getElem hi]
    rfl
  · wtm_at "go"
    have hi : ns.length ≤ i := by omega
    rw [List.getD_eq_getElem?_getD, List.getElem?_eq_none hi] at k
    exact k


section
variable {D : Ad} {H : Hp} {Q : VK} {E : XK}
theorem c_cell {a : Addr} {ns : List Int} {i : Nat} (h : SqL K H a (ns.map V.int)) (q : Q (.int (ns.getD i 0)) H) : sp__law_cell_at K D ([.ref a, .int (i : Nat)] ++ []) H Q E := ⟨_, _, rfl, a, ns, i, rfl, rfl, h, q⟩
theorem c_cell0 {a : Addr} {ns : List Int} (h : SqL K H a (ns.map V.int)) (q : Q (.int (ns.getD 0 0)) H) : sp__law_cell_at K D ([.ref a, .int 0] ++ []) H Q E := c_cell (i := 0) h q
theorem c_cell1 {a : Addr} {ns : List Int} (h : SqL K H a (ns.map V.int)) (q : Q (.int (ns.getD 1 0)) H) : sp__law_cell_at K D ([.ref a, .int 1] ++ []) H Q E := c_cell (i := 1) h q
theorem c_cell2 {a : Addr} {ns : List Int} (h : SqL K H a (ns.map V.int)) (q : Q (.int (ns.getD 2 0)) H) : sp__law_cell_at K D ([.ref a, .int 2] ++ []) H Q E := c_cell (i := 2) h q
theorem c_cell3 {a : Addr} {ns : List Int} (h : SqL K H a (ns.map V.int)) (q : Q (.int (ns.getD 3 0)) H) : sp__law_cell_at K D ([.ref a, .int 3] ++ []) H Q E := c_cell (i := 3) h q
theorem c_cell4 {a : Addr} {ns : List Int} (h : SqL K H a (ns.map V.int)) (q : Q (.int (ns.getD 4 0)) H) : sp__law_cell_at K D ([.ref a, .int 4] ++ []) H Q E := c_cell (i := 4) h q
theorem c_cell9 {a : Addr} {ns : List Int} (h : SqL K H a (ns.map V.int)) (q : Q (.int (ns.getD 9 0)) H) : sp__law_cell_at K D ([.ref a, .int 9] ++ []) H Q E := c_cell (i := 9) h q
end
local macro_rules | `(tactic| wtm_at "s0") => `(tactic| first
  | ((with_reducible refine' c_cell0 ?gvE ?gvH); (case gvE => wtm_at "sq"))
  | ((with_reducible refine' c_cell1 ?gvE ?gvH); (case gvE => wtm_at "sq"))
  | ((with_reducible refine' c_cell2 ?gvE ?gvH); (case gvE => wtm_at "sq"))
  | ((with_reducible refine' c_cell3 ?gvE ?gvH); (case gvE => wtm_at "sq"))
  | ((with_reducible refine' c_cell4 ?gvE ?gvH); (case gvE => wtm_at "sq"))
  | ((with_reducible refine' c_cell9 ?gvE ?gvH); (case gvE => wtm_at "sq")))


/-! the program's bits -/
def sp_turned (_ : PySem.W.Frag) (_ : Ad) : Sp := Sp1 fun x H Q _ => ∃ n : Nat, x = .int n ∧ Q (.int (r16 n : Nat)) H

def sp_mark_of (_ : PySem.W.Frag) (_ : Ad) : Sp := Sp1 fun x H Q _ => ∃ n : Nat, x = .int n ∧ Q (.int (n % 65536 : Nat)) H

def sp_place_of (_ : PySem.W.Frag) (_ : Ad) : Sp := Sp1 fun x H Q _ => ∃ n : Nat, x = .int n ∧ Q (.int (r16 n : Nat)) H

def sp_slot_of (_ : PySem.W.Frag) (_ : Ad) : Sp := Sp2 fun x y H Q _ => ∃ n s : Nat, s ≤ 16 ∧ x = .int n ∧ y = .int (2 ^ s : Nat) ∧ Q (.int (n % 2 ^ s : Nat)) H
def sp_slot_at (_ : PySem.W.Frag) (_ : Ad) : Sp := Sp2 fun x y H Q _ => ∃ n s : Nat, s ≤ 16 ∧ x = .int n ∧ y = .int (2 ^ s : Nat) ∧ Q (.int (r16 n % 2 ^ s : Nat)) H
def sp_stretch_of (_ : PySem.W.Frag) (_ : Ad) : Sp := Sp2 fun x y H Q _ => ∃ n s : Nat, s ≤ 16 ∧ x = .int n ∧ y = .int (2 ^ s : Nat) ∧
  ∀ p, H p = none → Q (.ref p) (upd H p (.tup [.int (r16 n : Nat), .int (r16 n + 2 ^ (16 - s) : Nat)]))
def sp_halves (_ : PySem.W.Frag) (_ : Ad) : Sp := Sp2 fun x y H Q _ => ∃ n m : Int, x = .int n ∧ y = .int m ∧ ∀ p, H p = none → Q (.ref p) (upd H p (.tup [.int n, .int (n + m)]))
section
variable {D : Ad} {H : Hp} {Q : VK} {E : XK} {n s : Nat}
theorem c_turned (q : Q (.int (r16 n : Nat)) H) : sp_turned K D ([.int (n : Nat)] ++ []) H Q E := ⟨_, rfl, n, rfl, q⟩
theorem c_mark (q : Q (.int (n % 65536 : Nat)) H) : sp_mark_of K D ([.int (n : Nat)] ++ []) H Q E := ⟨_, rfl, n, rfl, q⟩
theorem c_place (q : Q (.int (r16 n : Nat)) H) : sp_place_of K D ([.int (n : Nat)] ++ []) H Q E := ⟨_, rfl, n, rfl, q⟩
theorem c_slot_of (hs : s ≤ 16) (q : Q (.int (n % 2 ^ s : Nat)) H) : sp_slot_of K D ([.int (n : Nat), .int (2 ^ s : Nat)] ++ []) H Q E := ⟨_, _, rfl, n, s, hs, rfl, rfl, q⟩
theorem c_slot_at (hs : s ≤ 16) (q : Q (.int (r16 n % 2 ^ s : Nat)) H) : sp_slot_at K D ([.int (n : Nat), .int (2 ^ s : Nat)] ++ []) H Q E := ⟨_, _, rfl, n, s, hs, rfl, rfl, q⟩
theorem c_stretch {B : Hp} {L : List Cell} (w : W B L H) (hs : s ≤ 16) (q : ∀ p B' H', H p = none → Same B B' → B' p = some (.tup [.int (r16 n : Nat), .int (r16 n + 2 ^ (16 - s) : Nat)]) → W B' L H' → Q (.ref p) H') :
    sp_stretch_of K D ([.int (n : Nat), .int (2 ^ s : Nat)] ++ []) H Q E := ⟨_, _, rfl, n, s, hs, rfl, rfl, fun p hp => q p _ _ hp (same_new (w.freeB hp)) upd_same (w.newB hp _)⟩
theorem c_halves {B : Hp} {L : List Cell} {n m : Int} (w : W B L H) (q : ∀ p B' H', H p = none → Same B B' → B' p = some (.tup [.int n, .int (n + m)]) → W B' L H' → Q (.ref p) H') :
    sp_halves K D ([.int n, .int m] ++ []) H Q E := ⟨_, _, rfl, n, m, rfl, rfl, fun p hp => q p _ _ hp (same_new (w.freeB hp)) upd_same (w.newB hp _)⟩
end
local macro_rules | `(tactic| wtm_at "s0") => `(tactic| first
  | with_reducible refine c_turned ?_
  | with_reducible refine c_mark ?_
  | with_reducible refine c_place ?_
  | ((with_reducible refine c_slot_of ?gvE ?gvH); (case gvE => first | assumption | omega))
  | ((with_reducible refine c_slot_at ?gvE ?gvH); (case gvE => first | assumption | omega)))


/-! the program's tokens -/
local macro_rules | `(tactic| wtm_at "s0") => `(tactic| first | with_reducible refine g_raise0 ?_)
inductive Tk where
  | sl (l h : Int)
  | up (l : Int) (h : Option Int)
  | dn (l : Option Int) (h : Int)
abbrev cBS (D : Ad) : Addr := D.c_BySlots
namespace Tk
def cls (D : Ad) : Tk → Addr
  | .sl _ _ => cBS D
  | .up _ _ => D.c_Up
  | .dn _ _ => D.c_Down
def num : Tk → Int
  | .sl _ _ => 0
  | .up _ _ => 1
  | .dn _ _ => 2
def at_ : Tk → Option Int
  | .sl l _ => some l
  | .up l _ => some l
  | .dn l _ => l
def en : Tk → Option Int
  | .sl _ h => some h
  | .up _ h => h
  | .dn _ h => some h
def ok : Tk → Prop
  | .sl l h => 0 ≤ l ∧ l ≤ h ∧ h ≤ 65536
  | .up l h => 0 ≤ l ∧ ∀ n, h = some n → l ≤ n
  | .dn l h => 0 ≤ h ∧ ∀ n, l = some n → h ≤ n
def holds : Tk → Nat → Bool
  | .sl l h, k => decide (l ≤ (r16 k : Nat)) && decide (((r16 k : Nat) : Int) < h)
  | .up l none, k => decide (l ≤ (k : Int))
  | .up l (some h), k => decide (l ≤ (k : Int)) && decide ((k : Int) < h)
  | .dn none h, k => decide (h ≤ (k : Int))
  | .dn (some l) h, k => decide (h ≤ (k : Int)) && decide ((k : Int) ≤ l)
def kind : Tk → Str
  | .sl _ _ => "slots"
  | .up _ _ => "up"
  | .dn _ _ => "down"
end Tk
def sOf : Option Int → Str
  | none => "-"
  | some n => toString n
def sml (o : Option Int) : Prop := ∀ n, o = some n → n.natAbs.log2 < 1920
theorem sOf_len {o : Option Int} (h : sml o) : (sOf o).length ≤ 1921 := by
  cases o with
  | none => decide
  | some n => exact str_len n (h n rfl)
def Tk.words (t : Tk) : Str := t.kind ++ " " ++ sOf t.at_ ++ " " ++ sOf t.en
/-- at t stands a token -/
def IsTk (D : Ad) (H : Hp) (t : Addr) (k : Tk) : Prop := ∃ dx, H t = some (.ins (k.cls D) dx [("at", oV k.at_), ("end", oV k.en)])
theorem IsTk.mono {D : Ad} {H H' : Hp} {t : Addr} {k : Tk} (h : IsTk D H t k) (s : Same H H') : IsTk D H' t k := h.imp fun _ e => s _ _ e
def isW : V → Bool
  | .int _ => true
  | _ => false
def Flat (x : V) : Prop := (∃ n, x = .int n) ∨ (∃ b, x = .bl b) ∨ (∃ z, x = .str z) ∨ x = .non
def sp_is_whole (_ : PySem.W.Frag) (_ : Ad) : Sp := Sp1 fun x H Q _ => Flat x ∧ Q (.bl (isW x)) H
theorem ok_is_whole {D : Ad} (T : Txt K mg D) : FnOk P w K mg base (L2.CX P w) 1 D.a_is_whole D.d_is_whole ["thing"] (sp_is_whole K D) := by
  refine T.F_is_whole.okX sc_is_whole (fun vs H Q E h => sp1_len h) (fun cdv A outer s H vs Q E hr h => ⟨_, (pss_one (ps_ret (pe_and (pe_callB call_isi (by rfl) T.n_isinstance bt_isinstance (pa_cons (pv 0) (pa_cons (pe_bltn (v := .ty "int") (by rfl) T.n_int bt_int rfl) pa_nil))) (pe_one (pe_not (pe_callB call_isi (by rfl) T.n_isinstance bt_isinstance (pa_cons (pv 0) (pa_cons (pe_bltn (v := .ty "bool") (by rfl) T.n_bool bt_bool rfl) pa_nil)))))))), ?_⟩)
  obtain ⟨x0, rfl, h⟩ := h
  rw [show L2.start n_is_whole [x0] = [some x0] from rfl]
  try dsimp only [cxOf]
  obtain ⟨hf, k⟩ := h
  rcases hf with ⟨n, rfl⟩ | ⟨b, rfl⟩ | ⟨z, rfl⟩ | rfl
  · wtm_at "go"
    exact k
  · wtm_at "go"
    exact k
  · wtm_at "go"
    exact k
  · wtm_at "go"
    exact k

def sp_bounded (_ : PySem.W.Frag) (D : Ad) : Sp := Sp2 fun x y H Q E => ∃ m : Option Int, y = oV m ∧ ((∃ n, x = .int n ∧ 0 ≤ n ∧ (∀ k, m = some k → n ≤ k) ∧ Q (.int n) H) ∨
  (rz_bounded ∧ Flat x ∧ (∀ n, x = .int n → n < 0 ∨ ∃ k, m = some k ∧ k < n) ∧ E (.ref D.c_NoToken) none H))
theorem ok_bounded {D : Ad} (T : Txt K mg D) : FnOk P w K mg base (L2.CX P w) 2 D.a_bounded D.d_bounded ["number", "most"] (sp_bounded K D) := by
  refine T.F_bounded.okX sc_bounded (fun vs H Q E h => sp2_len h) (fun cdv A outer s H vs Q E hr h => ⟨_, (pss_cons (ps_if (PW.pt (pw_or (pt_not (pt_val (pe_call (ok_is_whole T) (hr.mono (by decide)) rfl T.g_is_whole T.F_is_whole.kp T.b_is_whole .nil pX (pa_cons (pv 0) pa_nil)))) (pw_or (pt_cmpR op_lt (pv 0) pe_int (nomark _)) (pw_or1 (PW.pt (pw_and (pt_cmpR op_notNo (pv 1) pe_non (nomark _)) (pw_and1 (pt_cmpR op_gt (pv 0) (pv 1) (nomark _)))))))))
      (pss_one (ps_raise0 rfl (takes_of rfl rfl rfl rfl) T.xi_NoToken T.xc_NoToken T.g_NoToken rfl))
      pss_nil)
    (pss_one (ps_ret (pv 0)))), ?_⟩)
  obtain ⟨x0, x1, rfl, h⟩ := h
  rw [show L2.start n_bounded [x0, x1] = [some x0, some x1] from rfl]
  try dsimp only [cxOf]
  obtain ⟨m, rfl, hk⟩ := h
  rcases hk with ⟨n, rfl, h0, hm, k⟩ | ⟨hz, hf, hbad, k⟩
  · wtm_at "go"
    refine ⟨_, rfl, .inl ⟨n, rfl⟩, ?_⟩
    rw [show isW (.int n) = true from rfl]
    cases m with
    | none =>
      dsimp only [oV]
      wtm_at "go"
      exact k
    | some kk =>
      have := hm kk rfl
      dsimp only [oV]
      wtm_at "go"
      exact k
  · wtm_at "go"
    refine ⟨_, rfl, hf, ?_⟩
    rcases hf with ⟨n, rfl⟩ | ⟨b, rfl⟩ | ⟨z, rfl⟩ | rfl
    · rw [show isW (.int n) = true from rfl]
      by_cases c : n < 0
      · wtm_at "go"
        exact k
      · rcases hbad n rfl with h | ⟨kk, rfl, h⟩
        · exact absurd h c
        · dsimp only [oV]
          wtm_at "go"
          exact k
    · rw [show isW (.bl b) = false from rfl]
      wtm_at "go"
      exact k
    · rw [show isW (.str z) = false from rfl]
      wtm_at "go"
      exact k
    · rw [show isW .non = false from rfl]
      wtm_at "go"
      exact k

def sp_bound_or_none (_ : PySem.W.Frag) (D : Ad) : Sp := Sp1 fun x H Q E => (∃ o : Option Int, x = oV o ∧ (∀ n, o = some n → 0 ≤ n) ∧ Q (oV o) H) ∨
  (rz_bounded ∧ x ≠ .non ∧ Flat x ∧ (∀ n, x = .int n → n < 0) ∧ E (.ref D.c_NoToken) none H)
theorem ok_bound_or_none {D : Ad} (T : Txt K mg D) : FnOk P w K mg base (L2.CX P w) 3 D.a_bound_or_none D.d_bound_or_none ["number"] (sp_bound_or_none K D) := by
  refine T.F_bound_or_none.okX sc_bound_or_none (fun vs H Q E h => sp1_len h) (fun cdv A outer s H vs Q E hr h => ⟨_, (pss_cons (ps_if (pt_cmpR op_isNo (pv 0) pe_non (nomark _))
      (pss_one (ps_ret pe_non))
      pss_nil)
    (pss_one (ps_ret (pe_call (ok_bounded T) (hr.mono (by decide)) rfl T.g_bounded T.F_bounded.kp T.b_bounded .nil pX (pa_cons (pv 0) (pa_cons pe_non pa_nil)))))), ?_⟩)
  obtain ⟨x0, rfl, h⟩ := h
  rw [show L2.start n_bound_or_none [x0] = [some x0] from rfl]
  try dsimp only [cxOf]
  rcases h with ⟨o, rfl, h0, k⟩ | ⟨hz, hn, hf, hbad, k⟩
  · cases o with
    | none =>
      dsimp only [oV]
      wtm_at "go"
      exact k
    | some n =>
      dsimp only [oV]
      wtm_at "go"
      exact ⟨_, _, rfl, none, rfl, .inl ⟨n, rfl, h0 n rfl, nofun, k⟩⟩
  · wtm_at "go"
    exact ⟨_, _, rfl, none, rfl, .inr ⟨trivial, hf, fun n e => .inl (hbad n e), k⟩⟩

def sp_in_order (_ : PySem.W.Frag) (D : Ad) : Sp := Sp2 fun x y H Q E => ∃ l h : Int, x = .int l ∧ y = .int h ∧ ((l ≤ h ∧ Q .non H) ∨ (rz_in_order ∧ h < l ∧ E (.ref D.c_NoToken) none H))
theorem ok_in_order {D : Ad} (T : Txt K mg D) : FnOk P w K mg base (L2.CX P w) 1 D.a_in_order D.d_in_order ["low", "high"] (sp_in_order K D) := by
  refine T.F_in_order.okX sc_in_order (fun vs H Q E h => sp2_len h) (fun cdv A outer s H vs Q E hr h => ⟨_, (pss_one (ps_if (pt_cmpR op_gt (pv 0) (pv 1) (nomark _))
      (pss_one (ps_raise0 rfl (takes_of rfl rfl rfl rfl) T.xi_NoToken T.xc_NoToken T.g_NoToken rfl))
      pss_nil)), ?_⟩)
  obtain ⟨x0, x1, rfl, h⟩ := h
  rw [show L2.start n_in_order [x0, x1] = [some x0, some x1] from rfl]
  try dsimp only [cxOf]
  obtain ⟨l, h, rfl, rfl, hk⟩ := h
  rcases hk with ⟨hl, k⟩ | ⟨hz, hl, k⟩
  · wtm_at "go"
    exact k
  · wtm_at "go"
    exact k

def tkh (_ : Tk) : Prop := True
def sp_Token_init (_ : PySem.W.Frag) (D : Ad) : Sp := Sp3 fun x y z H Q _ => ∃ (a dx : Addr) (t : Tk) (B : Hp) (L : List Cell), x = .ref a ∧ tkh t ∧ W B ((a, .ins (t.cls D) dx []) :: L) H ∧ ∀ H', W B ((a, .ins (t.cls D) dx [("at", y), ("end", z)]) :: L) H' → Q .non H'
theorem ok_Token_init {D : Ad} (T : Txt K mg D) : FnOk P w K mg base (L2.CX P w) 1 D.a_Token_init D.d_Token_init ["self", "at", "end"] (sp_Token_init K D) := by
  refine T.F_Token_init.okX sc_Token_init (fun vs H Q E h => sp3_len h) (fun cdv A outer s H vs Q E hr h => ⟨_, (pss_cons (ps_fld (pv 0) (pv 1) rfl)
    (pss_one (ps_fld (pv 0) (pv 2) rfl))), ?_⟩)
  obtain ⟨x0, x1, x2, rfl, h⟩ := h
  rw [show L2.start n_Token_init [x0, x1, x2] = [some x0, some x1, some x2] from rfl]
  try dsimp only [cxOf]
  obtain ⟨a, dx, t, B, L, rfl, ht, w, k⟩ := h
  have hc : Cls K (t.cls D) ∧ NoAttr K (t.cls D) "at" ∧ NoAttr K (t.cls D) "end" := by
    cases t with
    | sl l h => exact ⟨T.cl_BySlots, T.na_BySlots_at, T.na_BySlots_end⟩
    | up l h => exact ⟨T.cl_Up, T.na_Up_at, T.na_Up_end⟩
    | dn l h => exact ⟨T.cl_Down, T.na_Down_at, T.na_Down_end⟩
  wtm_at "go"
  refine r_sfld (w.get (List.mem_cons_self ..)) hc.1 hc.2.1 (by simp) ?_
  have w := W.put0 w (.ins (t.cls D) dx (putF "at" x1 []))
  wtm_at "go"
  refine r_sfld (w.get (List.mem_cons_self ..)) hc.1 hc.2.2 (by simp [putF]) ?_
  have w := W.put0 w (.ins (t.cls D) dx (putF "end" x2 (putF "at" x1 [])))
  wtm_at "go"
  exact k _ w

def sp_BySlots_init (_ : PySem.W.Frag) (D : Ad) : Sp := Sp3 fun x y z H Q E => ∃ (a dx : Addr) (B : Hp) (L : List Cell), x = .ref a ∧ W B ((a, .ins (cBS D) dx []) :: L) H ∧
  ((∃ l h : Int, y = .int l ∧ z = .int h ∧ (Tk.sl l h).ok ∧ ∀ H', W B ((a, .ins (cBS D) dx [("at", .int l), ("end", .int h)]) :: L) H' → Q .non H') ∨
  (rz_bounded ∧ rz_in_order ∧ Flat y ∧ Flat z ∧ (∀ l h : Int, y = .int l → z = .int h → ¬ (Tk.sl l h).ok) ∧ ∀ H', W B L H' → E (.ref D.c_NoToken) none H'))
theorem ok_BySlots_init {D : Ad} (T : Txt K mg D) : FnOk P w K mg base (L2.CX P w) 3 D.a_BySlots_init D.d_BySlots_init ["self", "at", "end"] (sp_BySlots_init K D) := by
  refine T.F_BySlots_init.ok sc_BySlots_init (fun vs H Q E h => sp3_len h) (fun cdv A outer s H vs Q E hr h => ⟨_, (pss_cons (ps_expr (pe_cinit rfl T.g_Token T.cr_Token T.ci_Token_init rfl (ok_Token_init T) (hr.mono (by decide)) T.F_Token_init.kp T.b_Token_init .nil pX (pa_cons (pv 0) (pa_cons (pe_call (ok_bounded T) (hr.mono (by decide)) rfl T.g_bounded T.F_bounded.kp T.b_bounded .nil pX (pa_cons (pv 1) (pa_cons (pe_glob (v := .int 65536) rfl T.k_PLACES ⟨_, rfl⟩) pa_nil))) (pa_cons (pe_call (ok_bounded T) (hr.mono (by decide)) rfl T.g_bounded T.F_bounded.kp T.b_bounded .nil pX (pa_cons (pv 2) (pa_cons (pe_glob (v := .int 65536) rfl T.k_PLACES ⟨_, rfl⟩) pa_nil))) pa_nil)))))
    (pss_one (ps_expr (pe_call (ok_in_order T) (hr.mono (by decide)) rfl T.g_in_order T.F_in_order.kp T.b_in_order .nil pX (pa_cons (pv 1) (pa_cons (pv 2) pa_nil)))))), ?_⟩)
  obtain ⟨x0, x1, x2, rfl, h⟩ := h
  rw [show L2.start n_BySlots_init [x0, x1, x2] = [some x0, some x1, some x2] from rfl]
  try dsimp only [cxOf]
  obtain ⟨a, dx, B, L, rfl, w, hk⟩ := h
  rcases hk with ⟨l, h, rfl, rfl, ⟨h1, h2, h3⟩, k⟩ | ⟨hz, hz2, hfy, hfz, hbad, k⟩
  · wtm_at "go"
    refine ⟨_, _, rfl, some 65536, rfl, .inl ⟨l, rfl, h1, fun k e => by cases e; omega, ?_⟩⟩
    wtm_at "go"
    refine ⟨_, _, rfl, some 65536, rfl, .inl ⟨h, rfl, by omega, fun k e => by cases e; omega, ?_⟩⟩
    wtm_at "go"
    refine ⟨_, _, _, rfl, a, dx, .sl l h, B, L, rfl, (by first | exact trivial | exact nofun), w, fun H' w => ?_⟩
    wtm_at "go"
    refine ⟨_, _, rfl, l, h, rfl, rfl, .inl ⟨h2, ?_⟩⟩
    wtm_at "go"
    exact k _ w
  · wtm_at "go"
    by_cases c1 : ∃ l, x1 = .int l ∧ 0 ≤ l ∧ l ≤ 65536
    · obtain ⟨l, rfl, h1, h2⟩ := c1
      refine ⟨_, _, rfl, some 65536, rfl, .inl ⟨l, rfl, h1, fun k e => by cases e; omega, ?_⟩⟩
      wtm_at "go"
      by_cases c2 : ∃ h, x2 = .int h ∧ 0 ≤ h ∧ h ≤ 65536
      · obtain ⟨h, rfl, h3, h4⟩ := c2
        have hlt : h < l := by
          have := hbad l h rfl rfl
          by_cases c : h < l
          · exact c
          · exact absurd ⟨h1, by omega, h4⟩ this
        refine ⟨_, _, rfl, some 65536, rfl, .inl ⟨h, rfl, h3, fun k e => by cases e; omega, ?_⟩⟩
        wtm_at "go"
        refine ⟨_, _, _, rfl, a, dx, .sl l h, B, L, rfl, (by first | exact trivial | exact nofun), w, fun H' w => ?_⟩
        wtm_at "go"
        exact ⟨_, _, rfl, l, h, rfl, rfl, .inr ⟨trivial, hlt, k _ w.drop1⟩⟩
      · refine ⟨_, _, rfl, some 65536, rfl, .inr ⟨trivial, hfz, fun n e => ?_, k _ w.drop1⟩⟩
        by_cases c : n < 0
        · exact .inl c
        · refine .inr ⟨65536, rfl, ?_⟩
          by_cases c3 : 65536 < n
          · exact c3
          · exact absurd ⟨n, e, by omega, by omega⟩ c2
    · refine ⟨_, _, rfl, some 65536, rfl, .inr ⟨trivial, hfy, fun n e => ?_, k _ w.drop1⟩⟩
      by_cases c : n < 0
      · exact .inl c
      · refine .inr ⟨65536, rfl, ?_⟩
        by_cases c3 : 65536 < n
        · exact c3
        · exact absurd ⟨n, e, by omega, by omega⟩ c1

def sp_Up_init (_ : PySem.W.Frag) (D : Ad) : Sp := Sp3 fun x y z H Q E => ∃ (a dx : Addr) (B : Hp) (L : List Cell), x = .ref a ∧ W B ((a, .ins D.c_Up dx []) :: L) H ∧
  ((∃ (l : Int) (h : Option Int), y = .int l ∧ z = oV h ∧ (Tk.up l h).ok ∧ ∀ H', W B ((a, .ins D.c_Up dx [("at", .int l), ("end", oV h)]) :: L) H' → Q .non H') ∨
  (rz_bounded ∧ rz_in_order ∧ Flat y ∧ Flat z ∧ (∀ (l : Int) (h : Option Int), y = .int l → z = oV h → ¬ (Tk.up l h).ok) ∧ ∀ H', W B L H' → E (.ref D.c_NoToken) none H'))
theorem ok_Up_init {D : Ad} (T : Txt K mg D) : FnOk P w K mg base (L2.CX P w) 4 D.a_Up_init D.d_Up_init ["self", "at", "end"] (sp_Up_init K D) := by
  refine T.F_Up_init.ok sc_Up_init (fun vs H Q E h => sp3_len h) (fun cdv A outer s H vs Q E hr h => ⟨_, (pss_cons (ps_expr (pe_cinit rfl T.g_Token T.cr_Token T.ci_Token_init rfl (ok_Token_init T) (hr.mono (by decide)) T.F_Token_init.kp T.b_Token_init .nil pX (pa_cons (pv 0) (pa_cons (pe_call (ok_bounded T) (hr.mono (by decide)) rfl T.g_bounded T.F_bounded.kp T.b_bounded .nil pX (pa_cons (pv 1) (pa_cons pe_non pa_nil))) (pa_cons (pe_call (ok_bound_or_none T) (hr.mono (by decide)) rfl T.g_bound_or_none T.F_bound_or_none.kp T.b_bound_or_none .nil pX (pa_cons (pv 2) pa_nil)) pa_nil)))))
    (pss_one (ps_if (pt_cmpR op_notNo (pv 2) pe_non (nomark _))
      (pss_one (ps_expr (pe_call (ok_in_order T) (hr.mono (by decide)) rfl T.g_in_order T.F_in_order.kp T.b_in_order .nil pX (pa_cons (pv 1) (pa_cons (pv 2) pa_nil)))))
      pss_nil))), ?_⟩)
  obtain ⟨x0, x1, x2, rfl, h⟩ := h
  rw [show L2.start n_Up_init [x0, x1, x2] = [some x0, some x1, some x2] from rfl]
  try dsimp only [cxOf]
  obtain ⟨a, dx, B, L, rfl, w, hk⟩ := h
  rcases hk with ⟨l, h, rfl, rfl, ⟨h1, h2⟩, k⟩ | ⟨hz, hz2, hfy, hfz, hbad, k⟩
  · wtm_at "go"
    refine ⟨_, _, rfl, none, rfl, .inl ⟨l, rfl, h1, nofun, ?_⟩⟩
    wtm_at "go"
    refine ⟨_, rfl, .inl ⟨h, rfl, fun n e => by have := h2 n e; omega, ?_⟩⟩
    wtm_at "go"
    refine ⟨_, _, _, rfl, a, dx, .up l h, B, L, rfl, (by first | exact trivial | exact nofun), w, fun H' w => ?_⟩
    cases h with
    | none =>
      dsimp only [oV] at w ⊢
      wtm_at "go"
      exact k _ w
    | some n =>
      dsimp only [oV] at w ⊢
      wtm_at "go"
      refine ⟨_, _, rfl, l, n, rfl, rfl, .inl ⟨h2 n rfl, ?_⟩⟩
      wtm_at "go"
      exact k _ w
  · wtm_at "go"
    by_cases c1 : ∃ l, x1 = .int l ∧ 0 ≤ l
    · obtain ⟨l, rfl, h1⟩ := c1
      refine ⟨_, _, rfl, none, rfl, .inl ⟨l, rfl, h1, nofun, ?_⟩⟩
      wtm_at "go"
      by_cases c2 : ∃ h : Option Int, x2 = oV h ∧ ∀ n, h = some n → 0 ≤ n
      · obtain ⟨h, rfl, h3⟩ := c2
        refine ⟨_, rfl, .inl ⟨h, rfl, h3, ?_⟩⟩
        wtm_at "go"
        refine ⟨_, _, _, rfl, a, dx, .up l h, B, L, rfl, (by first | exact trivial | exact nofun), w, fun H' w => ?_⟩
        cases h with
        | none => exact absurd ⟨h1, nofun⟩ (hbad l none rfl rfl)
        | some n =>
          dsimp only [oV] at w ⊢
          wtm_at "go"
          have hlt : n < l := by
            by_cases c : n < l
            · exact c
            · exact absurd ⟨h1, fun m e => by cases e; omega⟩ (hbad l (some n) rfl rfl)
          exact ⟨_, _, rfl, l, n, rfl, rfl, .inr ⟨trivial, hlt, k _ w.drop1⟩⟩
      · refine ⟨_, rfl, .inr ⟨trivial, fun e => c2 ⟨none, e, nofun⟩, hfz, fun n e => ?_, k _ w.drop1⟩⟩
        by_cases c : n < 0
        · exact c
        · exact absurd ⟨some n, e, fun m e => by cases e; omega⟩ c2
    · refine ⟨_, _, rfl, none, rfl, .inr ⟨trivial, hfy, fun n e => ?_, k _ w.drop1⟩⟩
      by_cases c : n < 0
      · exact .inl c
      · exact absurd ⟨n, e, by omega⟩ c1

def sp_Down_init (_ : PySem.W.Frag) (D : Ad) : Sp := Sp3 fun x y z H Q E => ∃ (a dx : Addr) (B : Hp) (L : List Cell), x = .ref a ∧ W B ((a, .ins D.c_Down dx []) :: L) H ∧
  ((∃ (l : Option Int) (h : Int), y = oV l ∧ z = .int h ∧ (Tk.dn l h).ok ∧ ∀ H', W B ((a, .ins D.c_Down dx [("at", oV l), ("end", .int h)]) :: L) H' → Q .non H') ∨
  (rz_bounded ∧ rz_in_order ∧ Flat y ∧ Flat z ∧ (∀ (l : Option Int) (h : Int), y = oV l → z = .int h → ¬ (Tk.dn l h).ok) ∧ ∀ H', W B L H' → E (.ref D.c_NoToken) none H'))
theorem ok_Down_init {D : Ad} (T : Txt K mg D) : FnOk P w K mg base (L2.CX P w) 4 D.a_Down_init D.d_Down_init ["self", "at", "end"] (sp_Down_init K D) := by
  refine T.F_Down_init.ok sc_Down_init (fun vs H Q E h => sp3_len h) (fun cdv A outer s H vs Q E hr h => ⟨_, (pss_cons (ps_expr (pe_cinit rfl T.g_Token T.cr_Token T.ci_Token_init rfl (ok_Token_init T) (hr.mono (by decide)) T.F_Token_init.kp T.b_Token_init .nil pX (pa_cons (pv 0) (pa_cons (pe_call (ok_bound_or_none T) (hr.mono (by decide)) rfl T.g_bound_or_none T.F_bound_or_none.kp T.b_bound_or_none .nil pX (pa_cons (pv 1) pa_nil)) (pa_cons (pe_call (ok_bounded T) (hr.mono (by decide)) rfl T.g_bounded T.F_bounded.kp T.b_bounded .nil pX (pa_cons (pv 2) (pa_cons pe_non pa_nil))) pa_nil)))))
    (pss_one (ps_if (pt_cmpR op_notNo (pv 1) pe_non (nomark _))
      (pss_one (ps_expr (pe_call (ok_in_order T) (hr.mono (by decide)) rfl T.g_in_order T.F_in_order.kp T.b_in_order .nil pX (pa_cons (pv 2) (pa_cons (pv 1) pa_nil)))))
      pss_nil))), ?_⟩)
  obtain ⟨x0, x1, x2, rfl, h⟩ := h
  rw [show L2.start n_Down_init [x0, x1, x2] = [some x0, some x1, some x2] from rfl]
  try dsimp only [cxOf]
  obtain ⟨a, dx, B, L, rfl, w, hk⟩ := h
  rcases hk with ⟨l, h, rfl, rfl, ⟨h1, h2⟩, k⟩ | ⟨hz, hz2, hfy, hfz, hbad, k⟩
  · wtm_at "go"
    refine ⟨_, rfl, .inl ⟨l, rfl, fun n e => by have := h2 n e; omega, ?_⟩⟩
    wtm_at "go"
    refine ⟨_, _, rfl, none, rfl, .inl ⟨h, rfl, h1, nofun, ?_⟩⟩
    wtm_at "go"
    refine ⟨_, _, _, rfl, a, dx, .dn l h, B, L, rfl, (by first | exact trivial | exact nofun), w, fun H' w => ?_⟩
    cases l with
    | none =>
      dsimp only [oV] at w ⊢
      wtm_at "go"
      exact k _ w
    | some n =>
      dsimp only [oV] at w ⊢
      wtm_at "go"
      refine ⟨_, _, rfl, h, n, rfl, rfl, .inl ⟨h2 n rfl, ?_⟩⟩
      wtm_at "go"
      exact k _ w
  · wtm_at "go"
    by_cases c2 : ∃ l : Option Int, x1 = oV l ∧ ∀ n, l = some n → 0 ≤ n
    · obtain ⟨l, rfl, h3⟩ := c2
      refine ⟨_, rfl, .inl ⟨l, rfl, h3, ?_⟩⟩
      wtm_at "go"
      by_cases c1 : ∃ h, x2 = .int h ∧ 0 ≤ h
      · obtain ⟨h, rfl, h1⟩ := c1
        refine ⟨_, _, rfl, none, rfl, .inl ⟨h, rfl, h1, nofun, ?_⟩⟩
        wtm_at "go"
        refine ⟨_, _, _, rfl, a, dx, .dn l h, B, L, rfl, (by first | exact trivial | exact nofun), w, fun H' w => ?_⟩
        cases l with
        | none => exact absurd ⟨h1, nofun⟩ (hbad none h rfl rfl)
        | some n =>
          dsimp only [oV] at w ⊢
          wtm_at "go"
          have hlt : n < h := by
            by_cases c : n < h
            · exact c
            · exact absurd ⟨h1, fun m e => by cases e; omega⟩ (hbad (some n) h rfl rfl)
          exact ⟨_, _, rfl, h, n, rfl, rfl, .inr ⟨trivial, hlt, k _ w.drop1⟩⟩
      · refine ⟨_, _, rfl, none, rfl, .inr ⟨trivial, hfz, fun n e => ?_, k _ w.drop1⟩⟩
        by_cases c : n < 0
        · exact .inl c
        · exact absurd ⟨n, e, by omega⟩ c1
    · refine ⟨_, rfl, .inr ⟨trivial, fun e => c2 ⟨none, e, nofun⟩, hfy, fun n e => ?_, k _ w.drop1⟩⟩
      by_cases c : n < 0
      · exact c
      · exact absurd ⟨some n, e, fun m e => by cases e; omega⟩ c2

def sp_shown (_ : PySem.W.Frag) (_ : Ad) : Sp := Sp1 fun x H Q _ => ∃ o : Option Int, x = oV o ∧ sml o ∧ Q (.str (sOf o)) H
theorem ok_shown {D : Ad} (T : Txt K mg D) : FnOk P w K mg base (L2.CX P w) 1 D.a_shown D.d_shown ["number"] (sp_shown K D) := by
  refine T.F_shown.okX sc_shown (fun vs H Q E h => sp1_len h) (fun cdv A outer s H vs Q E hr h => ⟨_, (pss_cons (ps_if (pt_cmpR op_isNo (pv 0) pe_non (nomark _))
      (pss_one (ps_ret pe_str))
      pss_nil)
    (pss_one (ps_ret (pe_callTy call_strI (by rfl) T.n_str bt_str (pa_cons (pv 0) pa_nil))))), ?_⟩)
  obtain ⟨x0, rfl, h⟩ := h
  rw [show L2.start n_shown [x0] = [some x0] from rfl]
  try dsimp only [cxOf]
  obtain ⟨o, rfl, hs, k⟩ := h
  cases o with
  | none =>
    dsimp only [oV]
    wtm_at "go"
    exact k
  | some n =>
    dsimp only [oV]
    wtm_at "go"
    exact r_strI (hs n rfl) k


def tkw : Tk → Prop := fun _ => True
/-! the tokens' words and what they hold; tkw tells which kinds the law asks for words -/
local macro_rules | `(tactic| wtm_at "rm") => `(tactic| (with_reducible refine' r_meth ?gvE ?gvN ?gvH); (case gvE => wtm_at "rd"); (case gvN => rfl))
local macro_rules | `(tactic| wtm_at "ei") => `(tactic| first
  | (wtm_at "rm")
  | (refine Or.inl ?_; wtm_at "go"; wtm_at "rm")
  | (refine Or.inr ?_; wtm_at "go"; wtm_at "rm")
  | (refine Or.inr ?_; refine Or.inl ?_; wtm_at "go"; wtm_at "rm")
  | (refine Or.inr ?_; refine Or.inr ?_; wtm_at "go"; wtm_at "rm"))
def sp_BySlots_kind_word (_ : PySem.W.Frag) (_ : Ad) : Sp := Sp1 fun _ H Q _ => Q (.str "slots") H
theorem ok_BySlots_kind_word {D : Ad} (T : Txt K mg D) : FnOk P w K mg base (L2.CX P w) 1 D.a_BySlots_kind_word D.d_BySlots_kind_word ["self"] (sp_BySlots_kind_word K D) := by
  refine T.F_BySlots_kind_word.okX sc_BySlots_kind_word (fun vs H Q E h => sp1_len h) (fun cdv A outer s H vs Q E hr h => ⟨_, (pss_one (ps_ret pe_str)), ?_⟩)
  obtain ⟨x0, rfl, h⟩ := h
  rw [show L2.start n_BySlots_kind_word [x0] = [some x0] from rfl]
  try dsimp only [cxOf]
  wtm_at "go"
  exact h

def sp_Up_kind_word (_ : PySem.W.Frag) (_ : Ad) : Sp := Sp1 fun _ H Q _ => Q (.str "up") H
theorem ok_Up_kind_word {D : Ad} (T : Txt K mg D) : FnOk P w K mg base (L2.CX P w) 1 D.a_Up_kind_word D.d_Up_kind_word ["self"] (sp_Up_kind_word K D) := by
  refine T.F_Up_kind_word.okX sc_Up_kind_word (fun vs H Q E h => sp1_len h) (fun cdv A outer s H vs Q E hr h => ⟨_, (pss_one (ps_ret pe_str)), ?_⟩)
  obtain ⟨x0, rfl, h⟩ := h
  rw [show L2.start n_Up_kind_word [x0] = [some x0] from rfl]
  try dsimp only [cxOf]
  wtm_at "go"
  exact h

def sp_Down_kind_word (_ : PySem.W.Frag) (_ : Ad) : Sp := Sp1 fun _ H Q _ => Q (.str "down") H
theorem ok_Down_kind_word {D : Ad} (T : Txt K mg D) : FnOk P w K mg base (L2.CX P w) 1 D.a_Down_kind_word D.d_Down_kind_word ["self"] (sp_Down_kind_word K D) := by
  refine T.F_Down_kind_word.okX sc_Down_kind_word (fun vs H Q E h => sp1_len h) (fun cdv A outer s H vs Q E hr h => ⟨_, (pss_one (ps_ret pe_str)), ?_⟩)
  obtain ⟨x0, rfl, h⟩ := h
  rw [show L2.start n_Down_kind_word [x0] = [some x0] from rfl]
  try dsimp only [cxOf]
  wtm_at "go"
  exact h

theorem kind_len (t : Tk) : t.kind.length ≤ 5 := by
  cases t with
  | sl l h => exact (by decide : ("slots" : Str).length ≤ 5)
  | up l h => exact (by decide : ("up" : Str).length ≤ 5)
  | dn l h => exact (by decide : ("down" : Str).length ≤ 5)
def sp_Token_words (_ : PySem.W.Frag) (D : Ad) : Sp := Sp1 fun x H Q _ => ∃ (t : Addr) (k : Tk), x = .ref t ∧ IsTk D H t k ∧ tkw k ∧ sml k.at_ ∧ sml k.en ∧ Q (.str k.words) H
theorem ok_Token_words {D : Ad} (T : Txt K mg D) : FnOk P w K mg base (L2.CX P w) 2 D.a_Token_words D.d_Token_words ["self"] (sp_Token_words K D) := by
  refine T.F_Token_words.okX sc_Token_words (fun vs H Q E h => sp1_len h) (fun cdv A outer s H vs Q E hr h => ⟨_, (pss_one (ps_ret (pe_op op_addS (pe_op op_addS (pe_op op_addS (pe_op op_addS (pe_either (pe_meth0 (pv 0) T.cl_BySlots T.me_BySlots_kind_word (ok_BySlots_kind_word T) (hr.mono (by decide)) T.b_BySlots_kind_word .nil pX) (pe_either (pe_meth0 (pv 0) T.cl_Down T.me_Down_kind_word (ok_Down_kind_word T) (hr.mono (by decide)) T.b_Down_kind_word .nil pX) (pe_meth0 (pv 0) T.cl_Up T.me_Up_kind_word (ok_Up_kind_word T) (hr.mono (by decide)) T.b_Up_kind_word .nil pX))) pe_str) (pe_call (ok_shown T) (hr.mono (by decide)) rfl T.g_shown T.F_shown.kp T.b_shown .nil pX (pa_cons (pe_fld (pv 0) rfl) pa_nil))) pe_str) (pe_call (ok_shown T) (hr.mono (by decide)) rfl T.g_shown T.F_shown.kp T.b_shown .nil pX (pa_cons (pe_fld (pv 0) rfl) pa_nil))))), ?_⟩)
  obtain ⟨x0, rfl, h⟩ := h
  rw [show L2.start n_Token_words [x0] = [some x0] from rfl]
  try dsimp only [cxOf]
  obtain ⟨t, k, rfl, ⟨dx, ht⟩, hk, s1, s2, q⟩ := h
  have l1 := sOf_len s1
  have l2 := sOf_len s2
  have e1 : (" " : Str).length = 1 := by decide
  cases k with
  | sl l h =>
    first
    | exact hk.elim
    | (have ht : H t = some (.ins D.c_BySlots dx [("at", .int l), ("end", .int h)]) := ht
       have e2 : ("slots" : Str).length ≤ 5 := by decide
       wtm_at "go"
       wtm_at "ei"
       wtm_at "go"
       refine ⟨_, rfl, ?_⟩
       show tC (V.str (" " : Str)) _ _ _
       wtm_at "go"
       refine r_addS (szl (show ("slots" : Str).length + (" " : Str).length ≤ 100000 by decide)) ?_
       wtm_at "go"
       refine r_fld ht T.cl_BySlots T.na_BySlots_at rfl ?_
       wtm_at "go"
       refine ⟨_, rfl, some l, rfl, s1, ?_⟩
       refine r_addS (szl (by rw [app_len, e1]; simp only [Tk.at_] at l1; omega)) ?_
       wtm_at "go"
       refine r_addS (szl (by rw [app_len, app_len, e1]; simp only [Tk.at_] at l1; omega)) ?_
       wtm_at "go"
       refine r_fld ht T.cl_BySlots T.na_BySlots_end rfl ?_
       wtm_at "go"
       refine ⟨_, rfl, some h, rfl, s2, ?_⟩
       exact r_addS (szl (by rw [app_len, app_len, app_len, e1]; simp only [Tk.at_, Tk.en] at l1 l2; omega)) q)
  | up l h =>
    first
    | exact hk.elim
    | (have ht : H t = some (.ins D.c_Up dx [("at", .int l), ("end", oV h)]) := ht
       have e2 : ("up" : Str).length ≤ 5 := by decide
       wtm_at "go"
       wtm_at "ei"
       wtm_at "go"
       refine ⟨_, rfl, ?_⟩
       show tC (V.str (" " : Str)) _ _ _
       wtm_at "go"
       refine r_addS (szl (show ("up" : Str).length + (" " : Str).length ≤ 100000 by decide)) ?_
       wtm_at "go"
       refine r_fld ht T.cl_Up T.na_Up_at rfl ?_
       wtm_at "go"
       refine ⟨_, rfl, some l, rfl, s1, ?_⟩
       refine r_addS (szl (by rw [app_len, e1]; simp only [Tk.at_] at l1; omega)) ?_
       wtm_at "go"
       refine r_addS (szl (by rw [app_len, app_len, e1]; simp only [Tk.at_] at l1; omega)) ?_
       wtm_at "go"
       refine r_fld ht T.cl_Up T.na_Up_end rfl ?_
       wtm_at "go"
       refine ⟨_, rfl, h, rfl, s2, ?_⟩
       exact r_addS (szl (by rw [app_len, app_len, app_len, e1]; simp only [Tk.at_, Tk.en] at l1 l2; omega)) q)
  | dn l h =>
    first
    | exact hk.elim
    | (have ht : H t = some (.ins D.c_Down dx [("at", oV l), ("end", .int h)]) := ht
       have e2 : ("down" : Str).length ≤ 5 := by decide
       wtm_at "go"
       wtm_at "ei"
       wtm_at "go"
       refine ⟨_, rfl, ?_⟩
       show tC (V.str (" " : Str)) _ _ _
       wtm_at "go"
       refine r_addS (szl (show ("down" : Str).length + (" " : Str).length ≤ 100000 by decide)) ?_
       wtm_at "go"
       refine r_fld ht T.cl_Down T.na_Down_at rfl ?_
       wtm_at "go"
       refine ⟨_, rfl, l, rfl, s1, ?_⟩
       refine r_addS (szl (by rw [app_len, e1]; simp only [Tk.at_] at l1; omega)) ?_
       wtm_at "go"
       refine r_addS (szl (by rw [app_len, app_len, e1]; simp only [Tk.at_] at l1; omega)) ?_
       wtm_at "go"
       refine r_fld ht T.cl_Down T.na_Down_end rfl ?_
       wtm_at "go"
       refine ⟨_, rfl, some h, rfl, s2, ?_⟩
       exact r_addS (szl (by rw [app_len, app_len, app_len, e1]; simp only [Tk.at_, Tk.en] at l1 l2; omega)) q)

def sp_BySlots_holds (_ : PySem.W.Frag) (D : Ad) : Sp := Sp2 fun x y H Q _ => ∃ (t : Addr) (l h : Int) (n : Nat), x = .ref t ∧ y = .int n ∧ IsTk D H t (.sl l h) ∧ Q (.bl ((Tk.sl l h).holds n)) H
def sp_Up_holds (_ : PySem.W.Frag) (D : Ad) : Sp := Sp2 fun x y H Q _ => ∃ (t : Addr) (l : Int) (h : Option Int) (n : Nat), x = .ref t ∧ y = .int n ∧ IsTk D H t (.up l h) ∧ Q (.bl ((Tk.up l h).holds n)) H
def sp_Down_holds (_ : PySem.W.Frag) (D : Ad) : Sp := Sp2 fun x y H Q _ => ∃ (t : Addr) (l : Option Int) (h : Int) (n : Nat), x = .ref t ∧ y = .int n ∧ IsTk D H t (.dn l h) ∧ Q (.bl ((Tk.dn l h).holds n)) H

/-! tokens made -/
theorem sml_of {o : Option Int} (h : ∀ n, o = some n → 0 ≤ n ∧ n ≤ 4 * 10 ^ (39 : Int).toNat) : sml o := fun n e => by
  obtain ⟨h0, h1⟩ := h n e
  have h2 : (4 : Int) * 10 ^ (39 : Int).toNat < 2 ^ 1920 := by decide
  have h3 : n.natAbs < 2 ^ 1920 := by
    generalize (4 : Int) * 10 ^ (39 : Int).toNat = big at h1 h2
    have h4 : ((2 ^ 1920 : Nat) : Int) = 2 ^ 1920 := by decide
    rw [← h4] at h2
    generalize (2 ^ 1920 : Nat) = b2 at h2 ⊢
    omega
  by_cases z : n.natAbs = 0
  · rw [z]; decide
  · exact (Nat.log2_lt z).mpr h3
def Tk.few (t : Tk) : Prop := (∀ n, t.at_ = some n → 0 ≤ n ∧ n ≤ 4 * 10 ^ (39 : Int).toNat) ∧ ∀ n, t.en = some n → 0 ≤ n ∧ n ≤ 4 * 10 ^ (39 : Int).toNat
section
variable {D : Ad} {B H : Hp} {L : List Cell} {Q : VK} {E : XK}
theorem mk_sl {l h : Int} {dvs vs : List V} (e : vs ++ dvs = [.int l, .int h]) (w : W B L H) (o : (Tk.sl l h).ok) (q : ∀ t B' H', Same B B' → IsTk D B' t (Tk.sl l h) → W B' L H' → Q (.ref t) H') : rMk (cBS D) (sp_BySlots_init K D) dvs E Q vs H := by
  intro x dx hx hdx hne
  have w1 := w.newB hdx (.own x)
  have w2 := w1.newL (p := x) (by rw [upd_ne (Ne.symm hne)]; exact hx) (.ins (cBS D) dx [])
  rw [e]
  exact ⟨_, _, _, rfl, x, dx, _, L, rfl, w2, .inl ⟨l, h, rfl, rfl, o, fun H' w3 => ⟨rfl, q x _ _ (same_trans (same_new (w.freeB hdx)) (same_new (w3.out _ (List.mem_cons_self ..)))) ⟨dx, upd_same⟩ w3.give⟩⟩⟩
theorem mk_up {l : Int} {h : Option Int} {dvs vs : List V} (e : vs ++ dvs = [.int l, oV h]) (w : W B L H) (o : (Tk.up l h).ok) (q : ∀ t B' H', Same B B' → IsTk D B' t (Tk.up l h) → W B' L H' → Q (.ref t) H') : rMk D.c_Up (sp_Up_init K D) dvs E Q vs H := by
  intro x dx hx hdx hne
  have w1 := w.newB hdx (.own x)
  have w2 := w1.newL (p := x) (by rw [upd_ne (Ne.symm hne)]; exact hx) (.ins D.c_Up dx [])
  rw [e]
  exact ⟨_, _, _, rfl, x, dx, _, L, rfl, w2, .inl ⟨l, h, rfl, rfl, o, fun H' w3 => ⟨rfl, q x _ _ (same_trans (same_new (w.freeB hdx)) (same_new (w3.out _ (List.mem_cons_self ..)))) ⟨dx, upd_same⟩ w3.give⟩⟩⟩
theorem mk_dn {l : Option Int} {h : Int} {dvs vs : List V} (e : vs ++ dvs = [oV l, .int h]) (w : W B L H) (o : (Tk.dn l h).ok) (q : ∀ t B' H', Same B B' → IsTk D B' t (Tk.dn l h) → W B' L H' → Q (.ref t) H') : rMk D.c_Down (sp_Down_init K D) dvs E Q vs H := by
  intro x dx hx hdx hne
  have w1 := w.newB hdx (.own x)
  have w2 := w1.newL (p := x) (by rw [upd_ne (Ne.symm hne)]; exact hx) (.ins D.c_Down dx [])
  rw [e]
  exact ⟨_, _, _, rfl, x, dx, _, L, rfl, w2, .inl ⟨l, h, rfl, rfl, o, fun H' w3 => ⟨rfl, q x _ _ (same_trans (same_new (w.freeB hdx)) (same_new (w3.out _ (List.mem_cons_self ..)))) ⟨dx, upd_same⟩ w3.give⟩⟩⟩
end

/-! tokens that are none (out of k32.zl) -/
section
variable {D : Ad} {B H : Hp} {L : List Cell} {Q : VK} {E : XK} {y z : V} {dvs vs : List V}
theorem mx_sl (e : vs ++ dvs = [y, z]) (w : W B L H) (fy : Flat y) (fz : Flat z) (bad : ∀ l h : Int, y = .int l → z = .int h → ¬ (Tk.sl l h).ok) (q : ∀ B' H', Same B B' → W B' L H' → E (.ref D.c_NoToken) none H') : rMk D.c_BySlots (sp_BySlots_init K D) dvs E Q vs H := by
  intro x dx hx hdx hne
  have w1 := w.newB hdx (.own x)
  have w2 := w1.newL (p := x) (by rw [upd_ne (Ne.symm hne)]; exact hx) (.ins D.c_BySlots dx [])
  rw [e]
  exact ⟨_, _, _, rfl, x, dx, _, L, rfl, w2, .inr ⟨trivial, trivial, fy, fz, bad, fun H' w3 => q _ _ (same_new (w.freeB hdx)) w3⟩⟩
theorem mx_up (e : vs ++ dvs = [y, z]) (w : W B L H) (fy : Flat y) (fz : Flat z) (bad : ∀ (l : Int) (h : Option Int), y = .int l → z = oV h → ¬ (Tk.up l h).ok) (q : ∀ B' H', Same B B' → W B' L H' → E (.ref D.c_NoToken) none H') : rMk D.c_Up (sp_Up_init K D) dvs E Q vs H := by
  intro x dx hx hdx hne
  have w1 := w.newB hdx (.own x)
  have w2 := w1.newL (p := x) (by rw [upd_ne (Ne.symm hne)]; exact hx) (.ins D.c_Up dx [])
  rw [e]
  exact ⟨_, _, _, rfl, x, dx, _, L, rfl, w2, .inr ⟨trivial, trivial, fy, fz, bad, fun H' w3 => q _ _ (same_new (w.freeB hdx)) w3⟩⟩
theorem mx_dn (e : vs ++ dvs = [y, z]) (w : W B L H) (fy : Flat y) (fz : Flat z) (bad : ∀ (l : Option Int) (h : Int), y = oV l → z = .int h → ¬ (Tk.dn l h).ok) (q : ∀ B' H', Same B B' → W B' L H' → E (.ref D.c_NoToken) none H') : rMk D.c_Down (sp_Down_init K D) dvs E Q vs H := by
  intro x dx hx hdx hne
  have w1 := w.newB hdx (.own x)
  have w2 := w1.newL (p := x) (by rw [upd_ne (Ne.symm hne)]; exact hx) (.ins D.c_Down dx [])
  rw [e]
  exact ⟨_, _, _, rfl, x, dx, _, L, rfl, w2, .inr ⟨trivial, trivial, fy, fz, bad, fun H' w3 => q _ _ (same_new (w.freeB hdx)) w3⟩⟩
end

/-! the program's words: read_whole -/
local macro_rules | `(tactic| wtm_at "s0") => `(tactic| first | with_reducible refine g_raise0 ?_ | with_reducible refine g_tryAs ?_ | with_reducible refine g_callW ?_ | with_reducible refine g_methW ?_ | with_reducible refine g_m1 ?_ | with_reducible refine r_m1 ?_ | with_reducible refine g_istr ?_ | with_reducible refine r_istr ?_)
theorem dig_in (c : Nat) : decide (c ∈ sg "0123456789") = decide (48 ≤ c ∧ c ≤ 57) := by
  have e : sg "0123456789" = [48, 49, 50, 51, 52, 53, 54, 55, 56, 57] := by decide
  rw [e, decide_eq_decide]
  simp only [List.mem_cons, List.not_mem_nil, or_false]
  omega
def spRW (K : PySem.W.Frag) (D : Ad) (x : V) (H : Hp) (Q : VK) (E : XK) : Prop := ∃ (B : Hp) (L : List Cell), W B L H ∧
  ((∃ z : Str, x = .str z ∧ z.length ≤ 640 ∧ ((isNum z = true ∧ ∀ n B' H', intText? z = some n → Same B B' → W B' L H' → Q (.int n) H') ∨ (rz_read_whole ∧ isNum z = false ∧ ∀ B' H', Same B B' → W B' L H' → E (.ref D.c_NoText) none H'))) ∨
  (rz_read_whole ∧ (∃ t, TyX K H x (.type t) ∧ kitB t "str" = some false) ∧ E (.ref D.c_NoText) none H))
def sp_read_whole (K : PySem.W.Frag) (D : Ad) : Sp := Sp1 fun x H Q E => spRW K D x H Q E
theorem atI_hd {z : Str} (h : 1 ≤ (sg z).length) : ∃ c, atI z.cps.toList 0 = some c ∧ (sg z).head? = some c := by
  have h0 : atI (sg z) 0 = (sg z)[0]? := atI_nat0 (by omega)
  cases hz : sg z with
  | nil => rw [hz] at h; simp at h
  | cons c r => exact ⟨c, by show atI (sg z) 0 = _; rw [h0, hz]; rfl, rfl⟩
theorem one_zero (c : Nat) : decide ((⟨#[c]⟩ : Str) = "0") = decide (c = 48) := by
  have e : ("0" : Str) = ⟨#[48]⟩ := by decide
  rw [e, decide_eq_decide]
  constructor
  · intro h; injection h with h; simpa using h
  · rintro rfl; rfl
theorem is_zero (z : Str) : decide (z = "0") = decide (sg z = [48]) := by
  have e : ("0" : Str) = ⟨#[48]⟩ := by decide
  rw [e, decide_eq_decide]
  constructor
  · rintro rfl; rfl
  · intro h; exact sg_ext h
theorem okN_read_whole {D : Ad} (T : Txt K mg D) : FnOk P w K mg base (L2N.CX P w) 1 D.a_read_whole D.d_read_whole ["text"] (sp_read_whole K D) := by
  refine okN_of T.F_read_whole sc_read_whole (fun vs H Q E h => sp1_len h) (fun cdv A outer s H vs Q E hr h => ⟨_, (pss_cons (ps_if (pt_not (pt_val (pe_callB call_isi (by rfl) T.n_isinstance bt_isinstance (pa_cons (pv 0) (pa_cons (pe_bltn (v := .ty "str") (by rfl) T.n_str bt_str rfl) pa_nil)))))
      (pss_one (ps_raise0N rfl (L2N.takes_of rfl rfl rfl rfl) T.xi_NoText T.xc_NoText T.g_NoText rfl))
      pss_nil)
    (pss_cons (ps_set (i := 1) sc_read_whole.nd rfl (Or.inl rfl) (pv 0))
    (pss_cons (ps_if (pt_val (pe_m1 PySem.F.slot_str_startswith PySem.F.type_str_startswith mt_startswith (pv 0) pe_str))
      (pss_one (ps_set (i := 1) sc_read_whole.nd rfl (Or.inl rfl) (pe_slice sl_str (pv 0) (po_some pe_int) po_none)))
      pss_nil)
    (pss_cons (ps_if (PW.pt (pw_or (pt_not (pt_chain op_le op_le pe_int (pe_callB call_lenS (by rfl) T.n_len bt_len (pa_cons (pv 1) pa_nil)) (pe_glob (v := .int 60) rfl T.k_MOST_FIGURES ⟨_, rfl⟩))) (pw_or1 (pt_not (pt_val (pe_callB (cr_all rfl) (by rfl) T.n_all bt_all (pa_cons (pe_lc (own := [("sign", 2)]) (g := gName 2) rfl sc_read_whole.nd (pi_str (pv 1)) (blkOk_by (own := [("sign", 2)]) (N := n_read_whole) (sc := defScope s_read_whole) (by decide +kernel)) (fun _ _ _ _ _ => (pg_name (i := 2) sc_read_whole.nd rfl (Or.inl rfl))) (fun _ _ _ _ _ => pts_nil) (fun _ _ _ _ _ => (pe_cmpR op_in_sign (pv 2) (pe_glob (v := .str "0123456789") rfl T.k_FIGURES ⟨_, rfl⟩) (by rfl)))) pa_nil)))))))
      (pss_one (ps_raise0N rfl (L2N.takes_of rfl rfl rfl rfl) T.xi_NoText T.xc_NoText T.g_NoText rfl))
      pss_nil)
    (pss_cons (ps_if (PW.pt (pw_and (pt_cmpR op_eq (pe_ix ix_str (pv 1) pe_int (fun _ _ => rfl)) pe_str (nomark _)) (pw_and1 (pt_cmpR op_ne (pv 0) pe_str (nomark _)))))
      (pss_one (ps_raise0N rfl (L2N.takes_of rfl rfl rfl rfl) T.xi_NoText T.xc_NoText T.g_NoText rfl))
      pss_nil)
    (pss_one (ps_ret (pe_callTy call_int_str (by rfl) T.n_int bt_int (pa_cons (pv 0) pa_nil))))))))), ?_⟩)
  obtain ⟨x0, rfl, h⟩ := h
  rw [show L2.start n_read_whole [x0] = [some x0, none, none] from rfl]
  try dsimp only [cxOf]
  obtain ⟨B, L, w, hk⟩ := h
  rcases hk with ⟨z, rfl, hl, hk⟩ | ⟨hz, ⟨t, ty, hk⟩, k⟩
  rotate_left
  · wtm_at "go"
    refine r_isi ty hk ?_
    wtm_at "go"
    exact k
  wtm_at "go"
  refine r_isi (.base (.str z)) kb_str_str ?_
  wtm_at "g0"
  refine g_ifJ (fun σ H' => ∃ f : Str, σ = [some (.str z), some (.str f), none] ∧ H' = H ∧ sg f = figs z ∧ f.length ≤ 640) ?_ ?_
  · rintro σ H' ⟨f, rfl, rfl, hf, hfl⟩
    have hlf : (f.length : Int) = ((figs z).length : Int) := by rw [← hf, sg_len]
    have key : ∀ {Q' : VK} {E' : XK}, True := trivial
    have rest : ∀ b : Bool, digs (figs z) = b → True := fun _ _ => trivial
    wtm_at "go"
    refine r_lenS (szl (by omega)) ?_
    rw [hlf]
    wtm_at "go"
    by_cases c1 : 1 ≤ (figs z).length
    rotate_left
    · rcases hk with ⟨hn, _⟩ | ⟨hz, hn, k⟩
      · unfold isNum at hn
        rw [decide_eq_false c1] at hn
        simp at hn
      · wtm_at "go"
        exact k _ _ (same_refl _) w
    wtm_at "go"
    by_cases c2 : (figs z).length ≤ 60
    rotate_left
    · rcases hk with ⟨hn, _⟩ | ⟨hz, hn, k⟩
      · unfold isNum at hn
        rw [decide_eq_false c2] at hn
        simp at hn
      · wtm_at "go"
        exact k _ _ (same_refl _) w
    wtm_at "go"
    intro D1 hD1
    refine LC.str w hD1 (szlt (by omega)) (fun i B acc => acc = (((figs z).take i).map fun c => decide (48 ≤ c ∧ c ≤ 57)).map V.bl) (by simp) ?_ ?_
    · rintro i c B' acc H2 Nx hc s2 w rfl hl1 hl2 hN
      rw [hf] at hc
      wtm_at "go"
      refine ⟨rfl, ?_⟩
      wtm_at "go"
      refine ⟨c, "0123456789", rfl, rfl, ?_⟩
      rw [dig_in]
      refine r_acc w hl2 fun H3 w3 => ?_
      refine hN _ _ _ (same_refl _) w3 ?_ (by simp at hl1 ⊢; omega)
      have et : (figs z).take (i + 1) = (figs z).take i ++ [c] := by rw [List.take_add_one, hc]; rfl
      rw [et]
      simp
    rintro _ B2 acc H2 s2 _ i2 w rfl hl1
    rw [hf, List.take_length] at i2
    wtm_at "go"
    refine ⟨_, _, rfl, SqL.of (w.rd i2), ?_⟩
    have ed : (((figs z).map fun c => decide (48 ≤ c ∧ c ≤ 57)).all id) = digs (figs z) := by
      unfold digs
      rw [List.all_map]
      rfl
    rw [ed]
    generalize hdg : digs (figs z) = dg
    cases dg with
    | false =>
      rcases hk with ⟨hn, _⟩ | ⟨hz, hn, k⟩
      · unfold isNum at hn
        rw [hdg] at hn
        simp at hn
      · wtm_at "go"
        exact k _ _ s2 w
    | true =>
    wtm_at "go"
    obtain ⟨c0, hc0, hh0⟩ := atI_hd (z := f) (by rw [hf]; exact c1)
    rw [hf] at hh0
    refine ⟨f, 0, c0, rfl, rfl, szl (by omega), hc0, ?_⟩
    wtm_at "go"
    rw [one_zero]
    by_cases c3 : c0 = 48
    rotate_left
    · wtm_at "go"
      rcases hk with ⟨hn, k⟩ | ⟨hz, hn, k⟩
      · obtain ⟨n, en⟩ := num_text c1 hdg hl
        exact ⟨z, n, rfl, en, hl, k n _ _ en s2 w⟩
      · unfold isNum at hn
        rw [decide_eq_true c1, decide_eq_true c2, hdg, hh0] at hn
        simp [c3] at hn
    wtm_at "go"
    rw [is_zero]
    by_cases c4 : sg z = [48]
    · wtm_at "go"
      rcases hk with ⟨hn, k⟩ | ⟨hz, hn, k⟩
      · obtain ⟨n, en⟩ := num_text c1 hdg hl
        exact ⟨z, n, rfl, en, hl, k n _ _ en s2 w⟩
      · unfold isNum at hn
        rw [decide_eq_true c1, decide_eq_true c2, hdg, decide_eq_true c4] at hn
        simp at hn
    · rcases hk with ⟨hn, k⟩ | ⟨hz, hn, k⟩
      · unfold isNum at hn
        rw [hh0, decide_eq_false c4] at hn
        simp [c3] at hn
      · wtm_at "go"
        exact k _ _ s2 w
  · intro N hN
    wtm_at "go"
    refine ⟨z, "-", rfl, rfl, ?_⟩
    rw [starts_dash]
    wtm_at "go"
    wtm_at "br"
    · intro c
      wtm_at "go"
      refine ⟨z, rfl, szl (by omega), ?_⟩
      wtm_at "go"
      have ec := cut_from z 1
      refine hN _ _ ⟨cutS z (some 1) none, rfl, rfl, by rw [show sg (cutS z (some 1) none) = (sg z).drop 1 from ec]; unfold figs; rw [if_pos c], ?_⟩
      have := congrArg List.length ec
      rw [List.length_drop, sg_len, sg_len] at this
      have e : (cutS z (some 1) none).length = z.length - 1 := this
      omega
    · intro c
      wtm_at "go"
      exact hN _ _ ⟨z, rfl, rfl, by unfold figs; rw [if_neg c], hl⟩
theorem ok_read_whole {D : Ad} (T : Txt K mg D) : FnOk P w K mg base (L2.CX P w) 1 D.a_read_whole D.d_read_whole ["text"] (sp_read_whole K D) := by
  refine T.F_read_whole.okX sc_read_whole (fun vs H Q E h => sp1_len h) (fun cdv A outer s H vs Q E hr h => ⟨_, (pss_cons (ps_if (pt_not (pt_val (pe_callB call_isi (by rfl) T.n_isinstance bt_isinstance (pa_cons (pv 0) (pa_cons (pe_bltn (v := .ty "str") (by rfl) T.n_str bt_str rfl) pa_nil)))))
      (pss_one (ps_raise0 rfl (takes_of rfl rfl rfl rfl) T.xi_NoText T.xc_NoText T.g_NoText rfl))
      pss_nil)
    (pss_cons (ps_set (i := 1) sc_read_whole.nd rfl (Or.inl rfl) (pv 0))
    (pss_cons (ps_if (pt_val (pe_m1 PySem.F.slot_str_startswith PySem.F.type_str_startswith mt_startswith (pv 0) pe_str))
      (pss_one (ps_set (i := 1) sc_read_whole.nd rfl (Or.inl rfl) (pe_slice sl_str (pv 0) (po_some pe_int) po_none)))
      pss_nil)
    (pss_cons (ps_if (PW.pt (pw_or (pt_not (pt_chain op_le op_le pe_int (pe_callB call_lenS (by rfl) T.n_len bt_len (pa_cons (pv 1) pa_nil)) (pe_glob (v := .int 60) rfl T.k_MOST_FIGURES ⟨_, rfl⟩))) (pw_or1 (pt_not (pt_val (pe_callB (cr_all rfl) (by rfl) T.n_all bt_all (pa_cons (pe_lc (own := [("sign", 2)]) (g := gName 2) rfl sc_read_whole.nd (pi_str (pv 1)) (blkOk_by (own := [("sign", 2)]) (N := n_read_whole) (sc := defScope s_read_whole) (by decide +kernel)) (fun _ _ _ _ _ => (pg_name (i := 2) sc_read_whole.nd rfl (Or.inl rfl))) (fun _ _ _ _ _ => pts_nil) (fun _ _ _ _ _ => (pe_cmpR op_in_sign (pv 2) (pe_glob (v := .str "0123456789") rfl T.k_FIGURES ⟨_, rfl⟩) (by rfl)))) pa_nil)))))))
      (pss_one (ps_raise0 rfl (takes_of rfl rfl rfl rfl) T.xi_NoText T.xc_NoText T.g_NoText rfl))
      pss_nil)
    (pss_cons (ps_if (PW.pt (pw_and (pt_cmpR op_eq (pe_ix ix_str (pv 1) pe_int (fun _ _ => rfl)) pe_str (nomark _)) (pw_and1 (pt_cmpR op_ne (pv 0) pe_str (nomark _)))))
      (pss_one (ps_raise0 rfl (takes_of rfl rfl rfl rfl) T.xi_NoText T.xc_NoText T.g_NoText rfl))
      pss_nil)
    (pss_one (ps_ret (pe_callTy call_int_str (by rfl) T.n_int bt_int (pa_cons (pv 0) pa_nil))))))))), ?_⟩)
  obtain ⟨x0, rfl, h⟩ := h
  rw [show L2.start n_read_whole [x0] = [some x0, none, none] from rfl]
  try dsimp only [cxOf]
  obtain ⟨B, L, w, hk⟩ := h
  rcases hk with ⟨z, rfl, hl, hk⟩ | ⟨hz, ⟨t, ty, hk⟩, k⟩
  rotate_left
  · wtm_at "go"
    refine r_isi ty hk ?_
    wtm_at "go"
    exact k
  wtm_at "go"
  refine r_isi (.base (.str z)) kb_str_str ?_
  wtm_at "g0"
  refine g_ifJ (fun σ H' => ∃ f : Str, σ = [some (.str z), some (.str f), none] ∧ H' = H ∧ sg f = figs z ∧ f.length ≤ 640) ?_ ?_
  · rintro σ H' ⟨f, rfl, rfl, hf, hfl⟩
    have hlf : (f.length : Int) = ((figs z).length : Int) := by rw [← hf, sg_len]
    have key : ∀ {Q' : VK} {E' : XK}, True := trivial
    have rest : ∀ b : Bool, digs (figs z) = b → True := fun _ _ => trivial
    wtm_at "go"
    refine r_lenS (szl (by omega)) ?_
    rw [hlf]
    wtm_at "go"
    by_cases c1 : 1 ≤ (figs z).length
    rotate_left
    · rcases hk with ⟨hn, _⟩ | ⟨hz, hn, k⟩
      · unfold isNum at hn
        rw [decide_eq_false c1] at hn
        simp at hn
      · wtm_at "go"
        exact k _ _ (same_refl _) w
    wtm_at "go"
    by_cases c2 : (figs z).length ≤ 60
    rotate_left
    · rcases hk with ⟨hn, _⟩ | ⟨hz, hn, k⟩
      · unfold isNum at hn
        rw [decide_eq_false c2] at hn
        simp at hn
      · wtm_at "go"
        exact k _ _ (same_refl _) w
    wtm_at "go"
    intro D1 hD1
    refine LC.str w hD1 (szlt (by omega)) (fun i B acc => acc = (((figs z).take i).map fun c => decide (48 ≤ c ∧ c ≤ 57)).map V.bl) (by simp) ?_ ?_
    · rintro i c B' acc H2 Nx hc s2 w rfl hl1 hl2 hN
      rw [hf] at hc
      wtm_at "go"
      refine ⟨rfl, ?_⟩
      wtm_at "go"
      refine ⟨c, "0123456789", rfl, rfl, ?_⟩
      rw [dig_in]
      refine r_acc w hl2 fun H3 w3 => ?_
      refine hN _ _ _ (same_refl _) w3 ?_ (by simp at hl1 ⊢; omega)
      have et : (figs z).take (i + 1) = (figs z).take i ++ [c] := by rw [List.take_add_one, hc]; rfl
      rw [et]
      simp
    rintro _ B2 acc H2 s2 _ i2 w rfl hl1
    rw [hf, List.take_length] at i2
    wtm_at "go"
    refine ⟨_, _, rfl, SqL.of (w.rd i2), ?_⟩
    have ed : (((figs z).map fun c => decide (48 ≤ c ∧ c ≤ 57)).all id) = digs (figs z) := by
      unfold digs
      rw [List.all_map]
      rfl
    rw [ed]
    generalize hdg : digs (figs z) = dg
    cases dg with
    | false =>
      rcases hk with ⟨hn, _⟩ | ⟨hz, hn, k⟩
      · unfold isNum at hn
        rw [hdg] at hn
        simp at hn
      · wtm_at "go"
        exact k _ _ s2 w
    | true =>
    wtm_at "go"
    obtain ⟨c0, hc0, hh0⟩ := atI_hd (z := f) (by rw [hf]; exact c1)
    rw [hf] at hh0
    refine ⟨f, 0, c0, rfl, rfl, szl (by omega), hc0, ?_⟩
    wtm_at "go"
    rw [one_zero]
    by_cases c3 : c0 = 48
    rotate_left
    · wtm_at "go"
      rcases hk with ⟨hn, k⟩ | ⟨hz, hn, k⟩
      · obtain ⟨n, en⟩ := num_text c1 hdg hl
        exact ⟨z, n, rfl, en, hl, k n _ _ en s2 w⟩
      · unfold isNum at hn
        rw [decide_eq_true c1, decide_eq_true c2, hdg, hh0] at hn
        simp [c3] at hn
    wtm_at "go"
    rw [is_zero]
    by_cases c4 : sg z = [48]
    · wtm_at "go"
      rcases hk with ⟨hn, k⟩ | ⟨hz, hn, k⟩
      · obtain ⟨n, en⟩ := num_text c1 hdg hl
        exact ⟨z, n, rfl, en, hl, k n _ _ en s2 w⟩
      · unfold isNum at hn
        rw [decide_eq_true c1, decide_eq_true c2, hdg, decide_eq_true c4] at hn
        simp at hn
    · rcases hk with ⟨hn, k⟩ | ⟨hz, hn, k⟩
      · unfold isNum at hn
        rw [hh0, decide_eq_false c4] at hn
        simp [c3] at hn
      · wtm_at "go"
        exact k _ _ s2 w
  · intro N hN
    wtm_at "go"
    refine ⟨z, "-", rfl, rfl, ?_⟩
    rw [starts_dash]
    wtm_at "go"
    wtm_at "br"
    · intro c
      wtm_at "go"
      refine ⟨z, rfl, szl (by omega), ?_⟩
      wtm_at "go"
      have ec := cut_from z 1
      refine hN _ _ ⟨cutS z (some 1) none, rfl, rfl, by rw [show sg (cutS z (some 1) none) = (sg z).drop 1 from ec]; unfold figs; rw [if_pos c], ?_⟩
      have := congrArg List.length ec
      rw [List.length_drop, sg_len, sg_len] at this
      have e : (cutS z (some 1) none).length = z.length - 1 := this
      omega
    · intro c
      wtm_at "go"
      exact hN _ _ ⟨z, rfl, rfl, by unfold figs; rw [if_neg c], hl⟩


/-! tokens read from texts -/
local macro_rules | `(tactic| wtm_at "s0") => `(tactic| first | with_reducible refine g_bm ?_ | with_reducible refine g_bm0 ?_ | with_reducible refine g_sub ?_ | with_reducible refine g_tryOn ?_)
/-- what a word tells: a number, None, or nothing -/
def wOf (z : Str) : Option (Option Int) := if z = "-" then some none else if isNum z then (intText? z).map some else none
theorem num_tells {z : Str} (h : isNum z = true) (hl : z.length ≤ 640) : ∃ n, intText? z = some n := by
  unfold isNum at h
  simp only [Bool.and_eq_true, decide_eq_true_eq] at h
  exact num_text h.1.1.1 h.1.2 hl
def sp_read_bound (_ : PySem.W.Frag) (D : Ad) : Sp := Sp1 fun x H Q E => ∃ (z : Str) (B : Hp) (L : List Cell), x = .str z ∧ z.length ≤ 640 ∧ W B L H ∧
  ((∃ o, wOf z = some o ∧ ∀ B' H', Same B B' → W B' L H' → Q (oV o) H') ∨ (rz_read_whole ∧ wOf z = none ∧ ∀ B' H', Same B B' → W B' L H' → E (.ref D.c_NoText) none H'))
theorem okN_read_bound {D : Ad} (T : Txt K mg D) : FnOk P w K mg base (L2N.CX P w) 2 D.a_read_bound D.d_read_bound ["word"] (sp_read_bound K D) := by
  refine okN_of T.F_read_bound sc_read_bound (fun vs H Q E h => sp1_len h) (fun cdv A outer s H vs Q E hr h => ⟨_, (pss_cons (ps_if (pt_cmpR op_eq (pv 0) pe_str (nomark _))
      (pss_one (ps_ret pe_non))
      pss_nil)
    (pss_one (ps_ret (pe_call (okN_read_whole T) (hr.mono (by decide)) rfl T.g_read_whole T.F_read_whole.kp T.b_read_whole .nil pXN (pa_cons (pv 0) pa_nil))))), ?_⟩)
  obtain ⟨x0, rfl, h⟩ := h
  rw [show L2.start n_read_bound [x0] = [some x0] from rfl]
  try dsimp only [cxOf]
  obtain ⟨z, B, L, rfl, hl, w, hk⟩ := h
  by_cases c : z = "-"
  · have ew : wOf z = some none := by unfold wOf; rw [if_pos c]
    wtm_at "go"
    rcases hk with ⟨o, e, k⟩ | ⟨hz, e, k⟩
    · rw [ew] at e
      cases e
      exact k B _ (same_refl _) w
    · rw [ew] at e; cases e
  · wtm_at "go"
    refine ⟨_, rfl, B, L, w, .inl ⟨z, rfl, hl, ?_⟩⟩
    rcases hk with ⟨o, e, k⟩ | ⟨hz, e, k⟩
    · unfold wOf at e
      rw [if_neg c] at e
      by_cases hn : isNum z = true
      · rw [if_pos hn] at e
        refine .inl ⟨hn, fun n B' H' hn s w => ?_⟩
        rw [hn] at e
        cases e
        exact k B' H' s w
      · rw [if_neg hn] at e; cases e
    · unfold wOf at e
      rw [if_neg c] at e
      by_cases hn : isNum z = true
      · rw [if_pos hn] at e
        obtain ⟨n, en⟩ := num_tells hn hl
        rw [en] at e; cases e
      · exact .inr ⟨hz, Bool.eq_false_iff.mpr hn, fun B' H' s w => k B' H' s w⟩
theorem ok_read_bound {D : Ad} (T : Txt K mg D) : FnOk P w K mg base (L2.CX P w) 2 D.a_read_bound D.d_read_bound ["word"] (sp_read_bound K D) := by
  refine T.F_read_bound.okX sc_read_bound (fun vs H Q E h => sp1_len h) (fun cdv A outer s H vs Q E hr h => ⟨_, (pss_cons (ps_if (pt_cmpR op_eq (pv 0) pe_str (nomark _))
      (pss_one (ps_ret pe_non))
      pss_nil)
    (pss_one (ps_ret (pe_call (ok_read_whole T) (hr.mono (by decide)) rfl T.g_read_whole T.F_read_whole.kp T.b_read_whole .nil pX (pa_cons (pv 0) pa_nil))))), ?_⟩)
  obtain ⟨x0, rfl, h⟩ := h
  rw [show L2.start n_read_bound [x0] = [some x0] from rfl]
  try dsimp only [cxOf]
  obtain ⟨z, B, L, rfl, hl, w, hk⟩ := h
  by_cases c : z = "-"
  · have ew : wOf z = some none := by unfold wOf; rw [if_pos c]
    wtm_at "go"
    rcases hk with ⟨o, e, k⟩ | ⟨hz, e, k⟩
    · rw [ew] at e
      cases e
      exact k B _ (same_refl _) w
    · rw [ew] at e; cases e
  · wtm_at "go"
    refine ⟨_, rfl, B, L, w, .inl ⟨z, rfl, hl, ?_⟩⟩
    rcases hk with ⟨o, e, k⟩ | ⟨hz, e, k⟩
    · unfold wOf at e
      rw [if_neg c] at e
      by_cases hn : isNum z = true
      · rw [if_pos hn] at e
        refine .inl ⟨hn, fun n B' H' hn s w => ?_⟩
        rw [hn] at e
        cases e
        exact k B' H' s w
      · rw [if_neg hn] at e; cases e
    · unfold wOf at e
      rw [if_neg c] at e
      by_cases hn : isNum z = true
      · rw [if_pos hn] at e
        obtain ⟨n, en⟩ := num_tells hn hl
        rw [en] at e; cases e
      · exact .inr ⟨hz, Bool.eq_false_iff.mpr hn, fun B' H' s w => k B' H' s w⟩

/-- the token of three words -/
def tkMade (a : Str) (l h : Option Int) : Option Tk :=
  if a = "slots" then (match l, h with | some l, some h => some (.sl l h) | _, _ => none)
  else if a = "up" then (match l with | some l => some (.up l h) | _ => none)
  else if a = "down" then (match h with | some h => some (.dn l h) | _ => none) else none
noncomputable def tkOf (a b c : Str) : Option Tk := by
  classical
  exact match wOf b, wOf c with
  | some l, some h => (match tkMade a l h with | some t => if t.ok then some t else none | none => none)
  | _, _ => none
theorem tkOf_some {a b c : Str} {t : Tk} (h : tkOf a b c = some t) : ∃ l h, wOf b = some l ∧ wOf c = some h ∧ tkMade a l h = some t ∧ t.ok := by
  unfold tkOf at h
  split at h
  · rename_i l r e1 e2
    split at h
    · rename_i t' e3
      split at h
      · cases h
        exact ⟨l, r, e1, e2, e3, by assumption⟩
      · cases h
    · cases h
  · cases h
theorem tkMade_some {a : Str} {l h : Option Int} {t : Tk} (e : tkMade a l h = some t) : a = t.kind ∧ t.at_ = l ∧ t.en = h := by
  unfold tkMade at e
  split at e
  · rename_i c
    split at e
    · cases e; exact ⟨c, rfl, rfl⟩
    · cases e
  · split at e
    · rename_i c
      split at e
      · cases e; exact ⟨c, rfl, rfl⟩
      · cases e
    · split at e
      · rename_i c
        split at e
        · cases e; exact ⟨c, rfl, rfl⟩
        · cases e
      · cases e

theorem tkMade_words (t : Tk) : tkMade t.kind t.at_ t.en = some t := by
  have h1 : ¬ ("up" : Str) = "slots" := by decide
  have h2 : ¬ ("down" : Str) = "slots" := by decide
  have h3 : ¬ ("down" : Str) = "up" := by decide
  cases t with
  | sl l h => show tkMade "slots" (some l) (some h) = _; unfold tkMade; rw [if_pos rfl]
  | up l h => show tkMade "up" (some l) h = _; unfold tkMade; rw [if_neg h1, if_pos rfl]
  | dn l h => show tkMade "down" l (some h) = _; unfold tkMade; rw [if_neg h2, if_neg h3, if_pos rfl]
def sp_token_of (_ : PySem.W.Frag) (D : Ad) : Sp := Sp1 fun x H Q E => ∃ (p : Addr) (a b c : Str) (B : Hp) (L : List Cell), x = .ref p ∧ W B L H ∧ B p = some (.lst [.str a, .str b, .str c]) ∧ b.length ≤ 640 ∧ c.length ≤ 640 ∧
  ((∃ t, tkOf a b c = some t ∧ ∀ q B' H', Same B B' → IsTk D B' q t → W B' L H' → Q (.ref q) H') ∨ (rz_token_of ∧ tkOf a b c = none ∧ ∀ B' H', Same B B' → W B' L H' → E (.ref D.c_NoToken) none H'))
theorem ok_token_of {D : Ad} (T : Txt K mg D) : FnOk P w K mg base (L2.CX P w) 6 D.a_token_of D.d_token_of ["words"] (sp_token_of K D) := by
  refine T.F_token_of.okX sc_token_of (fun vs H Q E h => sp1_len h) (fun cdv A outer s H vs Q E hr h => ⟨_, (pss_cons (ps_tryR rfl rfl ⟨rfl, by decide, .inl T.g_NoText⟩ (fun hd => L2H.passesAt_of rfl hd) (takes_of rfl rfl rfl rfl) (fun WW pn xe tk po =>
        (pss_cons (ps_set (i := 1) sc_token_of.nd rfl (Or.inl rfl) (pe_callW (okN_read_bound T) (hr.mono (by decide)) rfl T.g_read_bound T.F_read_bound.kp T.b_read_bound .nil (fun σ => L2N.passAt tk σ) (pa_cons (pe_ix (r := rIxL K) ix_list (pv 0) pe_int (fun _ _ => rfl)) pa_nil)))
        (pss_one (ps_set (i := 2) sc_token_of.nd rfl (Or.inl rfl) (pe_callW (okN_read_bound T) (hr.mono (by decide)) rfl T.g_read_bound T.F_read_bound.kp T.b_read_bound .nil (fun σ => L2N.passAt tk σ) (pa_cons (pe_ix (r := rIxL K) ix_list (pv 0) pe_int (fun _ _ => rfl)) pa_nil))))))
        (fun a oe cls d pn tks hot =>
        (pss_one (ps_raiseS0 hot tks T.xi_NoToken T.xc_NoToken T.g_NoToken rfl))))
    (pss_cons (ps_if (pt_cmpR op_eq (pe_ix ix_list (pv 0) pe_int (fun _ _ => rfl)) pe_str (nomark _))
      (pss_one (ps_ret (pe_make T.mk_BySlots (ok_BySlots_init T) (hr.mono (by decide)) rfl T.g_BySlots T.b_BySlots_init .nil pX (pa_cons (pv 1) (pa_cons (pv 2) pa_nil)))))
      pss_nil)
    (pss_cons (ps_if (pt_cmpR op_eq (pe_ix ix_list (pv 0) pe_int (fun _ _ => rfl)) pe_str (nomark _))
      (pss_one (ps_ret (pe_make T.mk_Up (ok_Up_init T) (hr.mono (by decide)) rfl T.g_Up T.b_Up_init .nil pX (pa_cons (pv 1) (pa_cons (pv 2) pa_nil)))))
      pss_nil)
    (pss_cons (ps_if (pt_cmpR op_eq (pe_ix ix_list (pv 0) pe_int (fun _ _ => rfl)) pe_str (nomark _))
      (pss_one (ps_ret (pe_make T.mk_Down (ok_Down_init T) (hr.mono (by decide)) rfl T.g_Down T.b_Down_init .nil pX (pa_cons (pv 1) (pa_cons (pv 2) pa_nil)))))
      pss_nil)
    (pss_one (ps_raise0 rfl (takes_of rfl rfl rfl rfl) T.xi_NoToken T.xc_NoToken T.g_NoToken rfl)))))), ?_⟩)
  obtain ⟨x0, rfl, h⟩ := h
  rw [show L2.start n_token_of [x0] = [some x0, none, none] from rfl]
  try dsimp only [cxOf]
  obtain ⟨p, a, b, c, B, L, rfl, w, ip, lb, lc, hk⟩ := h
  rcases hk with ⟨t, et, k⟩ | ⟨hz, et, k⟩
  · obtain ⟨l, h, eb, ec, em, ok⟩ := tkOf_some et
    wtm_at "go"
    refine r_ixL (SqL.of (w.rd ip)) (v := .str b) rfl ?_
    wtm_at "go"
    refine ⟨_, rfl, b, B, L, rfl, lb, w, .inl ⟨l, eb, fun B1 H1 s1 w => ?_⟩⟩
    have ip := s1 _ _ ip
    wtm_at "go"
    refine r_ixL (SqL.of (w.rd ip)) (v := .str c) rfl ?_
    wtm_at "go"
    refine ⟨_, rfl, c, B1, L, rfl, lc, w, .inl ⟨h, ec, fun B2 H2 s2 w => ?_⟩⟩
    have ip := s2 _ _ ip
    have s12 := same_trans s1 s2
    obtain ⟨rfl, rfl, rfl⟩ := tkMade_some em
    have h1 : ¬ ("up" : Str) = "slots" := by decide
    have h2 : ¬ ("down" : Str) = "slots" := by decide
    have h3 : ¬ ("down" : Str) = "up" := by decide
    cases t with
    | sl l h =>
      have ip : B2 p = some (.lst [.str "slots", .str b, .str c]) := ip
      dsimp only [Tk.at_, Tk.en, oV]
      wtm_at "go"
      refine r_ixL (SqL.of (w.rd ip)) (v := .str "slots") rfl ?_
      wtm_at "go"
      exact mk_sl rfl w ok fun q B' H' s i w => k q B' H' (same_trans s12 s) i w
    | up l h =>
      have ip : B2 p = some (.lst [.str "up", .str b, .str c]) := ip
      dsimp only [Tk.at_, Tk.en, oV]
      wtm_at "go"
      refine r_ixL (SqL.of (w.rd ip)) (v := .str "up") rfl ?_
      wtm_at "go"
      refine r_ixL (SqL.of (w.rd ip)) (v := .str "up") rfl ?_
      wtm_at "go"
      exact mk_up rfl w ok fun q B' H' s i w => k q B' H' (same_trans s12 s) i w
    | dn l h =>
      have ip : B2 p = some (.lst [.str "down", .str b, .str c]) := ip
      dsimp only [Tk.at_, Tk.en, oV]
      wtm_at "go"
      refine r_ixL (SqL.of (w.rd ip)) (v := .str "down") rfl ?_
      wtm_at "go"
      refine r_ixL (SqL.of (w.rd ip)) (v := .str "down") rfl ?_
      wtm_at "go"
      refine r_ixL (SqL.of (w.rd ip)) (v := .str "down") rfl ?_
      wtm_at "go"
      exact mk_dn rfl w ok fun q B' H' s i w => k q B' H' (same_trans s12 s) i w
  · have h1 : ¬ ("up" : Str) = "slots" := by decide
    have h2 : ¬ ("down" : Str) = "slots" := by decide
    have h3 : ¬ ("down" : Str) = "up" := by decide
    wtm_at "go"
    refine r_ixL (SqL.of (w.rd ip)) (v := .str b) rfl ?_
    wtm_at "go"
    cases eb : wOf b with
    | none =>
      refine ⟨_, rfl, b, B, L, rfl, lb, w, .inr ⟨trivial, eb, fun B1 H1 s1 w => r_caughtO (T.xc_NoText.exm T.sb_NoText_NoText) fun ea hea => ?_⟩⟩
      wtm_at "go"
      exact k B1 H1 s1 w
    | some ob =>
    refine ⟨_, rfl, b, B, L, rfl, lb, w, .inl ⟨ob, eb, fun B1 H1 s1 w => ?_⟩⟩
    have ip := s1 _ _ ip
    wtm_at "go"
    refine r_ixL (SqL.of (w.rd ip)) (v := .str c) rfl ?_
    wtm_at "go"
    cases ec : wOf c with
    | none =>
      refine ⟨_, rfl, c, B1, L, rfl, lc, w, .inr ⟨trivial, ec, fun B2 H2 s2 w => r_caughtO (T.xc_NoText.exm T.sb_NoText_NoText) fun ea hea => ?_⟩⟩
      wtm_at "go"
      exact k B2 H2 (same_trans s1 s2) w
    | some oc =>
    refine ⟨_, rfl, c, B1, L, rfl, lc, w, .inl ⟨oc, ec, fun B2 H2 s2 w => ?_⟩⟩
    have ip := s2 _ _ ip
    have s12 := same_trans s1 s2
    have hno : ∀ t, tkMade a ob oc = some t → ¬ t.ok := fun t e o => by
      unfold tkOf at et
      rw [eb, ec] at et
      simp only [e, if_pos o] at et
      cases et
    have flO : ∀ o : Option Int, Flat (oV o) := fun o => by
      cases o with
      | none => exact .inr (.inr (.inr rfl))
      | some n => exact .inl ⟨n, rfl⟩
    have oVi : ∀ {o : Option Int} {n : Int}, oV o = .int n → o = some n := fun {o n} h => by
      cases o with
      | none => cases h
      | some m => cases h; rfl
    have oVo : ∀ {o o2 : Option Int}, oV o = oV o2 → o = o2 := fun {o o2} h => by
      cases o2 with
      | none => cases o with
        | none => rfl
        | some m => cases h
      | some n => exact oVi h
    wtm_at "go"
    refine r_ixL (SqL.of (w.rd ip)) (v := .str a) rfl ?_
    by_cases a1 : a = "slots"
    · wtm_at "go"
      exact mx_sl rfl w (flO _) (flO _) (fun l h e1 e2 => hno _ (by rw [oVi e1, oVi e2]; unfold tkMade; rw [if_pos a1])) fun B' H' s w => k B' H' (same_trans s12 s) w
    wtm_at "go"
    refine r_ixL (SqL.of (w.rd ip)) (v := .str a) rfl ?_
    by_cases a2 : a = "up"
    · wtm_at "go"
      exact mx_up rfl w (flO _) (flO _) (fun l h e1 e2 => hno _ (by rw [oVi e1, oVo e2]; unfold tkMade; rw [if_neg a1, if_pos a2])) fun B' H' s w => k B' H' (same_trans s12 s) w
    wtm_at "go"
    refine r_ixL (SqL.of (w.rd ip)) (v := .str a) rfl ?_
    by_cases a3 : a = "down"
    · wtm_at "go"
      exact mx_dn rfl w (flO _) (flO _) (fun l h e1 e2 => hno _ (by rw [oVo e1, oVi e2]; unfold tkMade; rw [if_neg a1, if_neg a2, if_pos a3])) fun B' H' s w => k B' H' (same_trans s12 s) w
    wtm_at "go"
    exact k B2 H2 s12 w

def sp_read_token (K : PySem.W.Frag) (D : Ad) : Sp := Sp1 fun x H Q E => ∃ (B : Hp) (L : List Cell), W B L H ∧
  ((∃ (z a b c : Str) (t : Tk), x = .str z ∧ z.length ≤ 700 ∧ Txt.split z " " = [a, b, c] ∧ b.length ≤ 640 ∧ c.length ≤ 640 ∧ tkOf a b c = some t ∧ ∀ q B' H', Same B B' → IsTk D B' q t → W B' L H' → Q (.ref q) H') ∨
  (rz_read_token ∧ ((∃ z, x = .str z ∧ z.length ≤ 640 ∧ ∀ a b c, Txt.split z " " = [a, b, c] → b.length ≤ 640 ∧ c.length ≤ 640 ∧ tkOf a b c = none) ∨ ∃ t, TyX K H x (.type t) ∧ kitB t "str" = some false) ∧ ∀ B' H', Same B B' → W B' L H' → E (.ref D.c_NoToken) none H'))
theorem ok_read_token {D : Ad} (T : Txt K mg D) : FnOk P w K mg base (L2.CX P w) 7 D.a_read_token D.d_read_token ["text"] (sp_read_token K D) := by
  refine T.F_read_token.okX sc_read_token (fun vs H Q E h => sp1_len h) (fun cdv A outer s H vs Q E hr h => ⟨_, (pss_cons (ps_if (pt_not (pt_val (pe_callB call_isi (by rfl) T.n_isinstance bt_isinstance (pa_cons (pv 0) (pa_cons (pe_bltn (v := .ty "str") (by rfl) T.n_str bt_str rfl) pa_nil)))))
      (pss_one (ps_raise0 rfl (takes_of rfl rfl rfl rfl) T.xi_NoToken T.xc_NoToken T.g_NoToken rfl))
      pss_nil)
    (pss_cons (ps_set (i := 1) sc_read_token.nd rfl (Or.inl rfl) (pe_split (pv 0) pe_str))
    (pss_cons (ps_if (pt_cmpR op_ne (pe_callB call_lenZ (by rfl) T.n_len bt_len (pa_cons (pv 1) pa_nil)) pe_int (nomark _))
      (pss_one (ps_raise0 rfl (takes_of rfl rfl rfl rfl) T.xi_NoToken T.xc_NoToken T.g_NoToken rfl))
      pss_nil)
    (pss_one (ps_ret (pe_call (ok_token_of T) (hr.mono (by decide)) rfl T.g_token_of T.F_token_of.kp T.b_token_of .nil pX (pa_cons (pv 1) pa_nil))))))), ?_⟩)
  obtain ⟨x0, rfl, h⟩ := h
  rw [show L2.start n_read_token [x0] = [some x0, none] from rfl]
  try dsimp only [cxOf]
  obtain ⟨B, L, w, hk⟩ := h
  rcases hk with ⟨z, a, b, c, t, rfl, hl, es, lb, lc, et, k⟩ | ⟨hz, hx, k⟩
  · wtm_at "go"
    refine r_isi (.base (.str z)) kb_str_str ?_
    wtm_at "go"
    refine ⟨z, " ", rfl, rfl, by decide, szl (by omega), ?_⟩
    rw [es]
    intro p hp
    have s1 := same_new (w.freeB hp) (o := .lst [.str a, .str b, .str c])
    have w := w.newB hp (.lst [.str a, .str b, .str c])
    have ip : upd B p (.lst [.str a, .str b, .str c]) p = some (.lst [.str a, .str b, .str c]) := upd_same
    dsimp only [List.map]
    generalize upd B p (.lst [.str a, .str b, .str c]) = B1 at *
    wtm_at "go"
    refine r_lenL (SqL.of (w.rd ip)) ?_
    wtm_at "go"
    refine ⟨_, rfl, p, a, b, c, B1, L, rfl, w, ip, lb, lc, .inl ⟨t, et, fun q B' H' s i w => k q B' H' (same_trans s1 s) i w⟩⟩
  · rcases hx with ⟨z, rfl, hl, hz⟩ | ⟨t, ty, hk⟩
    · wtm_at "go"
      refine r_isi (.base (.str z)) kb_str_str ?_
      wtm_at "go"
      refine ⟨z, " ", rfl, rfl, by decide, szl (by omega), ?_⟩
      intro p hp
      have s1 := same_new (w.freeB hp) (o := .lst ((Txt.split z " ").map V.str))
      have w := w.newB hp (.lst ((Txt.split z " ").map V.str))
      have ip : upd B p (.lst ((Txt.split z " ").map V.str)) p = some (.lst ((Txt.split z " ").map V.str)) := upd_same
      generalize upd B p (.lst ((Txt.split z " ").map V.str)) = B1 at *
      generalize Txt.split z " " = ws at *
      wtm_at "go"
      refine r_lenL (SqL.of (w.rd ip)) ?_
      rw [List.length_map]
      wtm_at "go"
      by_cases c3 : ws.length = 3
      · obtain ⟨a, b, c, rfl⟩ : ∃ a b c, ws = [a, b, c] := by
          match ws, c3 with
          | [a, b, c], _ => exact ⟨a, b, c, rfl⟩
        obtain ⟨lb, lc, et⟩ := hz a b c rfl
        wtm_at "go"
        exact ⟨_, rfl, p, a, b, c, B1, L, rfl, w, ip, lb, lc, .inr ⟨trivial, et, fun B' H' s w => k B' H' (same_trans s1 s) w⟩⟩
      · wtm_at "go"
        exact k B1 _ s1 w
    · wtm_at "go"
      refine r_isi ty hk ?_
      wtm_at "go"
      exact k B H (same_refl _) w


local macro_rules | `(tactic| wtm_at "s0") => `(tactic| first | with_reducible refine g_bm ?_ | with_reducible refine g_bm0 ?_ | with_reducible refine g_sub ?_ | with_reducible refine g_m1 ?_ | with_reducible refine r_m1 ?_ | with_reducible refine g_tryOn ?_)
/-! pieces of a list -/
def cutG {α : Type} (ws : List α) (lo hi : Option Int) : List α := (ws.drop (HT.sIx ws.length 0 lo)).take (HT.sIx ws.length ws.length hi - HT.sIx ws.length 0 lo)
theorem cutV_map {α : Type} (f : α → V) (ws : List α) (lo hi : Option Int) : cutV (ws.map f) lo hi = (cutG ws lo hi).map f := by
  unfold cutV cutG
  rw [List.length_map, List.map_take, List.map_drop]
theorem cutG_len {α : Type} (ws : List α) (lo hi : Option Int) : (cutG ws lo hi).length = min (HT.sIx ws.length ws.length hi - HT.sIx ws.length 0 lo) (ws.length - HT.sIx ws.length 0 lo) := by
  unfold cutG
  rw [List.length_take, List.length_drop]
theorem cutG_mem {α : Type} {ws : List α} {lo hi : Option Int} {z : α} (h : z ∈ cutG ws lo hi) : z ∈ ws := List.mem_of_mem_drop (List.mem_of_mem_take h)
theorem sIx_m1 (n d : Nat) : HT.sIx n d (some (-1)) = n - 1 := by
  show (if (-1 : Int) < 0 then ((-1 : Int) + (n : Int)).toNat else min (-1 : Int).toNat n) = n - 1
  rw [if_pos (by decide)]
  omega
theorem sIx_no (n d : Nat) : HT.sIx n d none = d := rfl
abbrev Ws := List Str
def Wd (m : Nat) (ws : Ws) : Prop := ∀ z ∈ ws, z.length ≤ m
theorem Wd.cut {m : Nat} {ws : Ws} (h : Wd m ws) (lo hi : Option Int) : Wd m (cutG ws lo hi) := fun z hz => h z (cutG_mem hz)
theorem Wd.app {m : Nat} {a b : Ws} (h : Wd m a) (g : Wd m b) : Wd m (a ++ b) := fun z hz => (List.mem_append.mp hz).elim (h z) (g z)
theorem Wd.up {m k : Nat} {a : Ws} (h : Wd m a) (hk : m ≤ k) : Wd k a := fun z hz => Nat.le_trans (h z hz) hk
theorem Wd.one {m : Nat} {z : Str} (h : z.length ≤ m) : Wd m [z] := fun y hy => by rw [List.mem_singleton.mp hy]; exact h
section
variable {K : PySem.W.Frag} {B H : Hp} {L : List Cell} {a b : Addr} {Q : VK}
theorem d_slW {ws : Ws} {lo hi : Option Int} (w : W B L H) (h : B a = some (.lst (ws.map V.str))) (q : ∀ p B' H', Same B B' → B' p = some (.lst ((cutG ws lo hi).map V.str)) → W B' L H' → Q (.ref p) H') : rSlL K (.ref a) lo hi H Q :=
  d_slL w (SqL.of (w.rd h)) fun p B' H' _ s i w => q p B' H' s (by rw [← cutV_map]; exact i) w
theorem d_catW {xs ys : Ws} (w : W B L H) (h1 : B a = some (.lst (xs.map V.str))) (h2 : B b = some (.lst (ys.map V.str))) (hl : xs.length + ys.length ≤ 100000) (q : ∀ p B' H', Same B B' → B' p = some (.lst ((xs ++ ys).map V.str)) → W B' L H' → Q (.ref p) H') : rCat (.ref a) (.ref b) H Q :=
  d_cat w (w.rd h1) (w.rd h2) (szl (by rw [List.length_map, List.length_map]; exact hl)) fun p B' H' _ s i w => q p B' H' s (by rw [List.map_append]; exact i) w
theorem d_oneW {z : Str} (w : W B L H) (q : ∀ p B' H', Same B B' → B' p = some (.lst (([z] : Ws).map V.str)) → W B' L H' → Q (.ref p) H') : rLstN Q [.str z] H :=
  d_lst w (szl (by simp)) fun p B' H' _ s i w => q p B' H' s i w
theorem r_ixW {ws : Ws} {i : Nat} {z : Str} (w : W B L H) (h : B a = some (.lst (ws.map V.str))) (e : ws[i]? = some z) (q : Q (.str z) H) : rIxL K (.ref a) (.int (i : Nat)) H Q := by
  have hl := (List.getElem?_eq_some_iff.mp e).1
  refine r_ixL (SqL.of (w.rd h)) (v := .str z) ?_ q
  rw [atI_nat' (by omega) (by rw [List.length_map]; omega), Int.toNat_natCast, List.getElem?_map, e]
  rfl
end
def sp__law_word (K : PySem.W.Frag) (_ : Ad) : Sp := Sp1 fun x H Q _ => ∃ (c : Int) (B : Hp) (L : List Cell), x = .int c ∧ W B L H ∧ ∀ (z : Str) B' H', z.length ≤ 45 → Same B B' → W B' L H' → Q (.str z) H'
theorem ok__law_word {D : Ad} (T : Txt K mg D) : FnOk P w K mg base (L2.CX P w) 1 D.a__law_word D.d__law_word ["_law_cell"] (sp__law_word K D) := by
  refine T.F__law_word.okX sc__law_word (fun vs H Q E h => sp1_len h) (fun cdv A outer s H vs Q E hr h => ⟨_, (pss_cons (ps_if (pt_cmpR op_eq (pe_op op_mod (pv 0) pe_int) pe_int (nomark _))
      (pss_one (ps_ret pe_str))
      pss_nil)
    (pss_one (ps_ret (pe_callTy call_strI (by rfl) T.n_str bt_str (pa_cons (pe_op op_mod (pe_op op_fdiv (pv 0) pe_int) (pe_ix ix_list (pe_lst (pa_cons pe_int (pa_cons pe_int (pa_cons pe_int (pa_cons pe_int (pa_cons pe_int (pa_cons (pe_op op_pow pe_int pe_int) pa_nil))))))) (pe_op op_mod (pv 0) pe_int) (fun _ _ => rfl))) pa_nil))))), ?_⟩)
  obtain ⟨x0, rfl, h⟩ := h
  rw [show L2.start n__law_word [x0] = [some x0] from rfl]
  try dsimp only [cxOf]
  obtain ⟨c, B, L, rfl, w, k⟩ := h
  by_cases c7 : c % 7 = 6
  · wtm_at "go"
    exact k _ B H (by decide) (same_refl _) w
  wtm_at "go"
  refine d_lst w (szl (by simp)) fun p B1 H1 hp s1 i1 w => ?_
  wtm_at "go"
  obtain ⟨v, hv, e⟩ := atI_ex (ns := [10, 70000, 65537, 10, 70000, 10 ^ (39 : Int).toNat]) (i := c % 7) (by omega) (by simp only [List.length_cons, List.length_nil]; omega)
  have hv : 0 < v ∧ v ≤ 10 ^ (39 : Int).toNat := by
    simp only [List.mem_cons, List.not_mem_nil, or_false] at hv
    rcases hv with rfl | rfl | rfl | rfl | rfl | rfl <;> decide
  refine r_ixL (SqL.of (w.rd i1)) e ?_
  wtm_at "go"
  have h0 := Int.emod_nonneg (c / 7) (Int.ne_of_gt hv.1)
  have h1 := Int.emod_lt_of_pos (c / 7) hv.1
  obtain ⟨m, hm⟩ := Int.eq_ofNat_of_zero_le h0
  rw [hm] at h1 ⊢
  have hm2 : m < 10 ^ 39 := ten_nat (k := 39) (show (m : Int) < 10 ^ (39 : Int).toNat by generalize (10 : Int) ^ (39 : Int).toNat = big at *; omega)
  have hl := nt_len (n := (m : Int)) (k := 39) (by decide) hm2
  refine r_strI (log_lt (k := 39) (by decide) (show (m : Int).natAbs < 10 ^ 39 from hm2) (by decide)) ?_
  exact k _ B1 H1 (Nat.le_trans hl (by decide)) s1 w

def sp__law_changed (K : PySem.W.Frag) (_ : Ad) : Sp := Sp2 fun x y H Q _ => ∃ (p : Addr) (ws : Ws) (c : Int) (m : Nat) (B : Hp) (L : List Cell), x = .ref p ∧ y = .int c ∧ W B L H ∧ B p = some (.lst (ws.map V.str)) ∧ 1 ≤ ws.length ∧ ws.length ≤ 100 ∧ 61 ≤ m ∧ m ≤ 100 ∧ Wd m ws ∧
  ∀ (p' : Addr) (ws' : Ws) (B' H' : Hp), Same B B' → B' p' = some (.lst (ws'.map V.str)) → ws'.length ≤ ws.length + 1 → ws.length ≤ ws'.length + 1 → Wd (m + 1) ws' → W B' L H' → Q (.ref p') H'
theorem ok__law_changed {D : Ad} (T : Txt K mg D) : FnOk P w K mg base (L2.CX P w) 1 D.a__law_changed D.d__law_changed ["_law_words", "_law_cell"] (sp__law_changed K D) := by
  refine T.F__law_changed.okX sc__law_changed (fun vs H Q E h => sp2_len h) (fun cdv A outer s H vs Q E hr h => ⟨_, (pss_cons (ps_set (i := 2) sc__law_changed.nd rfl (Or.inl rfl) (pe_op op_mod (pe_op op_fdiv (pv 1) pe_int) (pe_callB call_lenZ (by rfl) T.n_len bt_len (pa_cons (pv 0) pa_nil))))
    (pss_cons (ps_set (i := 3) sc__law_changed.nd rfl (Or.inl rfl) (pe_lst (pa_cons pe_str (pa_cons pe_str (pa_cons pe_str (pa_cons pe_str (pa_cons pe_str (pa_cons pe_str (pa_cons pe_str (pa_cons pe_str (pa_cons pe_str (pa_cons pe_str (pa_cons pe_str (pa_cons pe_str pa_nil))))))))))))))
    (pss_cons (ps_set (i := 4) sc__law_changed.nd rfl (Or.inl rfl) (pe_ix ix_list (pe_op op_cat (pv 3) (pe_lst (pa_cons (pe_op op_rep_str pe_str pe_int) (pa_cons pe_str (pa_cons pe_str (pa_cons pe_str (pa_cons pe_str (pa_cons pe_str pa_nil)))))))) (pe_op op_mod (pe_op op_fdiv (pv 1) pe_int) pe_int) (fun _ _ => rfl)))
    (pss_cons (ps_set (i := 5) sc__law_changed.nd rfl (Or.inl rfl) (pe_op op_mod (pv 1) pe_int))
    (pss_cons (ps_if (pt_cmpR op_eq (pv 5) pe_int (nomark _))
      (pss_one (ps_ret (pe_op op_cat (pe_slice sl_list (pv 0) po_none (po_some (pv 2))) (pe_slice sl_list (pv 0) (po_some (pe_op op_add (pv 2) pe_int)) po_none))))
      pss_nil)
    (pss_cons (ps_if (pt_cmpR op_eq (pv 5) pe_int (nomark _))
      (pss_one (ps_ret (pe_op op_cat (pe_op op_cat (pe_slice sl_list (pv 0) po_none (po_some (pv 2))) (pe_lst (pa_cons (pe_ix ix_list (pv 0) (pv 2) (fun _ _ => rfl)) pa_nil))) (pe_slice sl_list (pv 0) (po_some (pv 2)) po_none))))
      pss_nil)
    (pss_cons (ps_if (pt_cmpR op_eq (pv 5) pe_int (nomark _))
      (pss_one (ps_ret (pe_op op_cat (pe_op op_cat (pe_slice sl_list (pv 0) po_none (po_some (pv 2))) (pe_lst (pa_cons (pv 4) pa_nil))) (pe_slice sl_list (pv 0) (po_some (pv 2)) po_none))))
      pss_nil)
    (pss_cons (ps_if (pt_cmpR op_lt (pv 5) pe_int (nomark _))
      (pss_one (ps_ret (pe_op op_cat (pe_op op_cat (pe_slice sl_list (pv 0) po_none (po_some (pv 2))) (pe_lst (pa_cons (pv 4) pa_nil))) (pe_slice sl_list (pv 0) (po_some (pe_op op_add (pv 2) pe_int)) po_none))))
      pss_nil)
    (pss_cons (ps_if (pt_cmpR op_eq (pv 5) pe_int (nomark _))
      (pss_one (ps_ret (pe_op op_cat (pe_op op_cat (pe_slice sl_list (pe_slice sl_list (pv 0) po_none (po_some (pv 2))) po_none (po_some (pe_un un_neg pe_int))) (pe_slice sl_list (pv 0) (po_some (pv 2)) po_none)) (pe_slice sl_list (pe_slice sl_list (pv 0) po_none (po_some (pv 2))) (po_some (pe_un un_neg pe_int)) po_none))))
      pss_nil)
    (pss_cons (ps_set (i := 6) sc__law_changed.nd rfl (Or.inl rfl) (pe_ix ix_list (pe_lst (pa_cons pe_str (pa_cons pe_str (pa_cons pe_str (pa_cons pe_str (pa_cons pe_str (pa_cons pe_str pa_nil))))))) (pe_op op_mod (pe_op op_fdiv (pv 1) pe_int) pe_int) (fun _ _ => rfl)))
    (pss_cons (ps_if (pt_cmpR op_eq (pe_op op_mod (pe_op op_fdiv (pv 1) pe_int) pe_int) pe_int (nomark _))
      (pss_one (ps_ret (pe_op op_cat (pe_op op_cat (pe_slice sl_list (pv 0) po_none (po_some (pv 2))) (pe_lst (pa_cons (pe_op op_addS (pe_ix ix_list (pv 0) (pv 2) (fun _ _ => rfl)) (pv 6)) pa_nil))) (pe_slice sl_list (pv 0) (po_some (pe_op op_add (pv 2) pe_int)) po_none))))
      pss_nil)
    (pss_one (ps_ret (pe_op op_cat (pe_op op_cat (pe_slice sl_list (pv 0) po_none (po_some (pv 2))) (pe_lst (pa_cons (pe_op op_addS (pe_slice sl_str (pe_ix ix_list (pv 0) (pv 2) (fun _ _ => rfl)) po_none (po_some (pe_un un_neg pe_int))) (pv 6)) pa_nil))) (pe_slice sl_list (pv 0) (po_some (pe_op op_add (pv 2) pe_int)) po_none))))))))))))))), ?_⟩)
  obtain ⟨x0, x1, rfl, h⟩ := h
  rw [show L2.start n__law_changed [x0, x1] = [some x0, some x1, none, none, none, none, none] from rfl]
  try dsimp only [cxOf]
  obtain ⟨p, ws, c, m, B, L, rfl, rfl, w, ip, hl1, hl2, hm1, hm2, hwd, k⟩ := h
  wtm_at "go"
  refine r_lenL (SqL.of (w.rd ip)) ?_
  rw [List.length_map]
  have hn : (0 : Int) < (ws.length : Nat) := by omega
  have g0 := Int.emod_nonneg (c / 7) (Int.ne_of_gt hn)
  have g1 := Int.emod_lt_of_pos (c / 7) hn
  wtm_at "go"
  obtain ⟨pl, hpl⟩ := Int.eq_ofNat_of_zero_le g0
  rw [hpl] at g1 ⊢
  have hpl1 : pl < ws.length := by omega
  obtain ⟨zp, hzp⟩ : ∃ zp, ws[pl]? = some zp := ⟨_, List.getElem?_eq_getElem hpl1⟩
  have hzl := hwd zp (List.mem_of_getElem? hzp)
  have e1 : ((pl : Nat) : Int) + 1 = ((pl + 1 : Nat) : Int) := by omega
  have ca : (cutG ws none (some (pl : Int))).length = pl := by
    rw [cutG_len, sIx_no, HT.sIx_nat]; omega
  have cb : (cutG ws (some ((pl + 1 : Nat) : Int)) none).length = ws.length - (pl + 1) := by
    rw [cutG_len, sIx_no, HT.sIx_nat]; omega
  have cc : (cutG ws (some (pl : Int)) none).length = ws.length - pl := by
    rw [cutG_len, sIx_no, HT.sIx_nat]; omega
  have wa := hwd.cut none (some (pl : Int))
  have wb := hwd.cut (some ((pl + 1 : Nat) : Int)) none
  have wc := hwd.cut (some (pl : Int)) none
  refine d_lst w (szl (by simp)) fun p1 B1 H1 hp1 s1 i1 w => ?_
  have i1 : B1 p1 = some (.lst ((["slots", "up", "down", "-", "0", "-1", "007", "65536", "65537", "", "Up", "5."] : Ws).map V.str)) := i1
  have ip := s1 _ _ ip
  wtm_at "go"
  refine ⟨"9", 61, rfl, rfl, by decide, by decide, by decide, ?_⟩
  have hr := repS_len "9" (61 : Int).toNat
  rw [show ("9" : Str).length = 1 by decide] at hr
  generalize repS "9" (61 : Int).toNat = nines at *
  have hr : nines.length = 61 := hr
  wtm_at "go"
  refine d_lst w (szl (by simp)) fun p2 B2 H2 hp2 s2 i2 w => ?_
  have i2 : B2 p2 = some (.lst (([nines, "none", "--", "-0", "+3", "100000"] : Ws).map V.str)) := i2
  refine d_catW w (s2 _ _ i1) i2 (by simp) fun p3 B3 H3 s3 i3 w => ?_
  have ip := s3 _ _ (s2 _ _ ip)
  wtm_at "go"
  obtain ⟨wh, hwh, ewh⟩ := atS_ex (ns := ((["slots", "up", "down", "-", "0", "-1", "007", "65536", "65537", "", "Up", "5."] : Ws) ++ [nines, "none", "--", "-0", "+3", "100000"])) (i := c / 28 % 18) (by omega) (by simp only [List.length_append, List.length_cons, List.length_nil]; omega)
  have hwl : wh.length ≤ 61 := by
    rcases List.mem_append.mp hwh with h | h
    · have : ∀ z ∈ (["slots", "up", "down", "-", "0", "-1", "007", "65536", "65537", "", "Up", "5."] : Ws), z.length ≤ 61 := by decide
      exact this wh h
    · rcases List.mem_cons.mp h with rfl | h
      · omega
      · have : ∀ z ∈ (["none", "--", "-0", "+3", "100000"] : Ws), z.length ≤ 61 := by decide
        exact this wh h
  refine r_ixL (SqL.of (w.rd i3)) ewh ?_
  clear ewh hwh
  have s123 := same_trans s1 (same_trans s2 s3)
  have hway : c % 7 = 0 ∨ c % 7 = 1 ∨ c % 7 = 2 ∨ c % 7 = 3 ∨ c % 7 = 4 ∨ c % 7 = 5 ∨ c % 7 = 6 := by omega
  wtm_at "go"
  rcases hway with e | e | e | e | e | e | e
  all_goals
    rw [e]
    wtm_at "go"
  · refine d_slW w ip fun p4 B4 H4 s4 i4 w => ?_
    wtm_at "go"
    rw [e1]
    refine d_slW w (s4 _ _ ip) fun p5 B5 H5 s5 i5 w => ?_
    refine d_catW w (s5 _ _ i4) i5 (by rw [ca, cb]; omega) fun p6 B6 H6 s6 i6 w => ?_
    exact k p6 _ B6 H6 (same_trans s123 (same_trans s4 (same_trans s5 s6))) i6 (by rw [List.length_append, ca, cb]; omega) (by rw [List.length_append, ca, cb]; omega) ((wa.app wb).up (by omega)) w
  · refine d_slW w ip fun p4 B4 H4 s4 i4 w => ?_
    wtm_at "go"
    refine r_ixW w (s4 _ _ ip) hzp ?_
    wtm_at "go"
    refine d_oneW w fun p5 B5 H5 s5 i5 w => ?_
    refine d_catW w (s5 _ _ i4) i5 (by rw [ca]; simp only [List.length_cons, List.length_nil]; omega) fun p6 B6 H6 s6 i6 w => ?_
    wtm_at "go"
    have s46 := same_trans s4 (same_trans s5 s6)
    refine d_slW w (s46 _ _ ip) fun p7 B7 H7 s7 i7 w => ?_
    refine d_catW w (s7 _ _ i6) i7 (by rw [List.length_append, ca, cc]; simp only [List.length_cons, List.length_nil]; omega) fun p8 B8 H8 s8 i8 w => ?_
    exact k p8 _ B8 H8 (same_trans s123 (same_trans s46 (same_trans s7 s8))) i8 (by rw [List.length_append, List.length_append, ca, cc]; simp only [List.length_cons, List.length_nil]; omega) (by rw [List.length_append, List.length_append, ca, cc]; simp only [List.length_cons, List.length_nil]; omega) (((wa.app (Wd.one hzl)).app wc).up (by omega)) w
  · refine d_slW w ip fun p4 B4 H4 s4 i4 w => ?_
    wtm_at "go"
    refine d_oneW w fun p5 B5 H5 s5 i5 w => ?_
    refine d_catW w (s5 _ _ i4) i5 (by rw [ca]; simp only [List.length_cons, List.length_nil]; omega) fun p6 B6 H6 s6 i6 w => ?_
    wtm_at "go"
    have s46 := same_trans s4 (same_trans s5 s6)
    refine d_slW w (s46 _ _ ip) fun p7 B7 H7 s7 i7 w => ?_
    refine d_catW w (s7 _ _ i6) i7 (by rw [List.length_append, ca, cc]; simp only [List.length_cons, List.length_nil]; omega) fun p8 B8 H8 s8 i8 w => ?_
    exact k p8 _ B8 H8 (same_trans s123 (same_trans s46 (same_trans s7 s8))) i8 (by rw [List.length_append, List.length_append, ca, cc]; simp only [List.length_cons, List.length_nil]; omega) (by rw [List.length_append, List.length_append, ca, cc]; simp only [List.length_cons, List.length_nil]; omega) (((wa.app (Wd.one (by omega))).app wc).up (by omega)) w
  · refine d_slW w ip fun p4 B4 H4 s4 i4 w => ?_
    wtm_at "go"
    refine d_oneW w fun p5 B5 H5 s5 i5 w => ?_
    refine d_catW w (s5 _ _ i4) i5 (by rw [ca]; simp only [List.length_cons, List.length_nil]; omega) fun p6 B6 H6 s6 i6 w => ?_
    wtm_at "go"
    rw [e1]
    have s46 := same_trans s4 (same_trans s5 s6)
    refine d_slW w (s46 _ _ ip) fun p7 B7 H7 s7 i7 w => ?_
    refine d_catW w (s7 _ _ i6) i7 (by rw [List.length_append, ca, cb]; simp only [List.length_cons, List.length_nil]; omega) fun p8 B8 H8 s8 i8 w => ?_
    exact k p8 _ B8 H8 (same_trans s123 (same_trans s46 (same_trans s7 s8))) i8 (by rw [List.length_append, List.length_append, ca, cb]; simp only [List.length_cons, List.length_nil]; omega) (by rw [List.length_append, List.length_append, ca, cb]; simp only [List.length_cons, List.length_nil]; omega) (((wa.app (Wd.one (by omega))).app wb).up (by omega)) w
  · refine d_slW w ip fun p4 B4 H4 s4 i4 w => ?_
    wtm_at "go"
    refine d_oneW w fun p5 B5 H5 s5 i5 w => ?_
    refine d_catW w (s5 _ _ i4) i5 (by rw [ca]; simp only [List.length_cons, List.length_nil]; omega) fun p6 B6 H6 s6 i6 w => ?_
    wtm_at "go"
    rw [e1]
    have s46 := same_trans s4 (same_trans s5 s6)
    refine d_slW w (s46 _ _ ip) fun p7 B7 H7 s7 i7 w => ?_
    refine d_catW w (s7 _ _ i6) i7 (by rw [List.length_append, ca, cb]; simp only [List.length_cons, List.length_nil]; omega) fun p8 B8 H8 s8 i8 w => ?_
    exact k p8 _ B8 H8 (same_trans s123 (same_trans s46 (same_trans s7 s8))) i8 (by rw [List.length_append, List.length_append, ca, cb]; simp only [List.length_cons, List.length_nil]; omega) (by rw [List.length_append, List.length_append, ca, cb]; simp only [List.length_cons, List.length_nil]; omega) (((wa.app (Wd.one (by omega))).app wb).up (by omega)) w
  · have cd : (cutG (cutG ws none (some (pl : Int))) none (some (-1))).length = pl - 1 := by
      rw [cutG_len, sIx_no, sIx_m1, ca]; omega
    have ce : (cutG (cutG ws none (some (pl : Int))) (some (-1)) none).length = pl - (pl - 1) := by
      rw [cutG_len, sIx_no, sIx_m1, ca]; omega
    refine d_slW w ip fun p4 B4 H4 s4 i4 w => ?_
    wtm_at "go"
    refine d_slW w i4 fun p5 B5 H5 s5 i5 w => ?_
    wtm_at "go"
    refine d_slW w (s5 _ _ (s4 _ _ ip)) fun p6 B6 H6 s6 i6 w => ?_
    refine d_catW w (s6 _ _ i5) i6 (by rw [cd, cc]; omega) fun p7 B7 H7 s7 i7 w => ?_
    have s47 := same_trans s4 (same_trans s5 (same_trans s6 s7))
    wtm_at "go"
    refine d_slW w (s47 _ _ ip) fun p8 B8 H8 s8 i8 w => ?_
    wtm_at "go"
    refine d_slW w i8 fun p9 B9 H9 s9 i9 w => ?_
    refine d_catW w (s9 _ _ (s8 _ _ i7)) i9 (by rw [List.length_append, cd, cc, ce]; omega) fun p10 B10 H10 s10 i10 w => ?_
    exact k p10 _ B10 H10 (same_trans s123 (same_trans s47 (same_trans s8 (same_trans s9 s10)))) i10 (by rw [List.length_append, List.length_append, cd, cc, ce]; omega) (by rw [List.length_append, List.length_append, cd, cc, ce]; omega) ((((wa.cut _ _).app wc).app (wa.cut _ _)).up (by omega)) w
  · refine d_lst w (szl (by simp)) fun p4 B4 H4 hp4 s4 i4 w => ?_
    wtm_at "go"
    obtain ⟨la, hla, ela⟩ := atS_ex (ns := [" ", "", "x", "0", "\n", "\t"]) (i := c / 28 % 6) (by omega) (by simp only [List.length_cons, List.length_nil]; omega)
    have hll : la.length ≤ 1 := by
      have : ∀ z ∈ ([" ", "", "x", "0", "\n", "\t"] : Ws), z.length ≤ 1 := by decide
      exact this la hla
    refine r_ixL (SqL.of (w.rd i4)) ela ?_
    have ip := s4 _ _ ip
    wtm_at "go"
    by_cases c2 : c / 168 % 2 = 1
    · wtm_at "go"
      refine d_slW w ip fun p5 B5 H5 s5 i5 w => ?_
      wtm_at "go"
      refine r_ixW w (s5 _ _ ip) hzp ?_
      wtm_at "go"
      refine r_addS (szl (by omega)) ?_
      wtm_at "go"
      refine d_oneW w fun p6 B6 H6 s6 i6 w => ?_
      refine d_catW w (s6 _ _ i5) i6 (by rw [ca]; simp only [List.length_cons, List.length_nil]; omega) fun p7 B7 H7 s7 i7 w => ?_
      wtm_at "go"
      rw [e1]
      have s57 := same_trans s5 (same_trans s6 s7)
      refine d_slW w (s57 _ _ ip) fun p8 B8 H8 s8 i8 w => ?_
      refine d_catW w (s8 _ _ i7) i8 (by rw [List.length_append, ca, cb]; simp only [List.length_cons, List.length_nil]; omega) fun p9 B9 H9 s9 i9 w => ?_
      exact k p9 _ B9 H9 (same_trans s123 (same_trans s4 (same_trans s57 (same_trans s8 s9)))) i9 (by rw [List.length_append, List.length_append, ca, cb]; simp only [List.length_cons, List.length_nil]; omega) (by rw [List.length_append, List.length_append, ca, cb]; simp only [List.length_cons, List.length_nil]; omega) (((wa.up (by omega)).app (Wd.one (by rw [app_len]; omega))).app (wb.up (by omega))) w
    · wtm_at "go"
      refine d_slW w ip fun p5 B5 H5 s5 i5 w => ?_
      wtm_at "go"
      refine r_ixW w (s5 _ _ ip) hzp ?_
      wtm_at "go"
      refine r_slS (szl (by omega)) ?_
      have hcl := cutS_len zp none (some (-1))
      wtm_at "go"
      refine r_addS (szl (by omega)) ?_
      wtm_at "go"
      refine d_oneW w fun p6 B6 H6 s6 i6 w => ?_
      refine d_catW w (s6 _ _ i5) i6 (by rw [ca]; simp only [List.length_cons, List.length_nil]; omega) fun p7 B7 H7 s7 i7 w => ?_
      wtm_at "go"
      rw [e1]
      have s57 := same_trans s5 (same_trans s6 s7)
      refine d_slW w (s57 _ _ ip) fun p8 B8 H8 s8 i8 w => ?_
      refine d_catW w (s8 _ _ i7) i8 (by rw [List.length_append, ca, cb]; simp only [List.length_cons, List.length_nil]; omega) fun p9 B9 H9 s9 i9 w => ?_
      exact k p9 _ B9 H9 (same_trans s123 (same_trans s4 (same_trans s57 (same_trans s8 s9)))) i9 (by rw [List.length_append, List.length_append, ca, cb]; simp only [List.length_cons, List.length_nil]; omega) (by rw [List.length_append, List.length_append, ca, cb]; simp only [List.length_cons, List.length_nil]; omega) (((wa.up (by omega)).app (Wd.one (by rw [app_len]; omega))).app (wb.up (by omega))) w

/-- what the law takes a word for -/
def figN (z : Str) : Bool := digs (sg z) && decide (1 ≤ z.length) && decide (z.length ≤ 60) && (decide (sg z = [48]) || decide ((sg z).head? ≠ some 48))
def vOf (z : Str) : Int := if figN z then ((NumText.digitsVal (sg z) : Nat) : Int) else -2
theorem figN_dash {z : Str} (h : figN z = true) : (sg z).head? ≠ some 45 := fun c => by
  unfold figN at h
  simp only [Bool.and_eq_true] at h
  have hd := digs_all h.1.1.1
  have hm : (45 : Nat) ∈ sg z := by
    cases hz : sg z with
    | nil => rw [hz] at c; cases c
    | cons a r => rw [hz] at c; cases c; exact List.mem_cons_self ..
  exact absurd (hd 45 hm).1 (by decide)
theorem figN_num {z : Str} (h : figN z = true) : isNum z = true ∧ intText? z = some ((NumText.digitsVal (sg z) : Nat) : Int) := by
  have hd := figN_dash h
  unfold figN at h
  simp only [Bool.and_eq_true, Bool.or_eq_true, decide_eq_true_eq] at h
  obtain ⟨⟨⟨h1, h2⟩, h3⟩, h4⟩ := h
  have ef : figs z = sg z := by unfold figs; rw [if_neg hd]
  have hz : (sg z).length = z.length := sg_len z
  refine ⟨?_, PySem.intText_digits (x := z) (digs_all h1) (List.length_pos_iff.mp (show 0 < (sg z).length by omega)) (by omega)⟩
  unfold isNum
  rw [ef]
  simp only [Bool.and_eq_true, Bool.or_eq_true, decide_eq_true_eq]
  exact ⟨⟨⟨by omega, by omega⟩, h1⟩, h4.symm⟩
theorem num_figN {z : Str} {n : Int} (h : isNum z = true) (e : intText? z = some n) (h0 : 0 ≤ n) : figN z = true := by
  unfold isNum at h
  simp only [Bool.and_eq_true, Bool.or_eq_true, decide_eq_true_eq] at h
  obtain ⟨⟨⟨h1, h2⟩, h3⟩, h4⟩ := h
  by_cases c : (sg z).head? = some 45
  · exfalso
    have ef : figs z = (sg z).drop 1 := by unfold figs; rw [if_pos c]
    rw [ef] at h1 h2 h3 h4
    obtain ⟨r, hr⟩ : ∃ r, sg z = 45 :: r := by
      cases hz : sg z with
      | nil => rw [hz] at c; cases c
      | cons a r => rw [hz] at c; cases c; exact ⟨r, rfl⟩
    rw [hr] at h1 h2 h3 h4
    have h1 : 1 ≤ r.length := h1
    have h2 : r.length ≤ 60 := h2
    have h3 : digs r = true := h3
    have h4 : r.head? ≠ some 48 := by
      rcases h4 with h4 | h4
      · exact h4
      · cases h4
    have hl : z.length ≤ 4300 := by rw [← sg_len, hr, List.length_cons]; omega
    have e2 := PySem.intText_neg (x := z) hr (digs_all h3) (List.length_pos_iff.mp h1) hl
    rw [e2] at e
    cases e
    have c2 := (canon_nat (r.length - 1) r (by omega) (digs_all h3) h4).2
    omega
  · have ef : figs z = sg z := by unfold figs; rw [if_neg c]
    rw [ef] at h1 h2 h3 h4
    have hz : (sg z).length = z.length := sg_len z
    unfold figN
    simp only [Bool.and_eq_true, Bool.or_eq_true, decide_eq_true_eq]
    exact ⟨⟨⟨h3, by omega⟩, by omega⟩, h4.symm⟩
theorem vOf_up {z : Str} (h : 0 ≤ vOf z) : figN z = true := by
  unfold vOf at h
  cases e : figN z with
  | true => rfl
  | false => rw [e, if_neg Bool.false_ne_true] at h; exact absurd h (by decide)
theorem vOf_w {z : Str} (h : 0 ≤ vOf z) : wOf z = some (some (vOf z)) := by
  have f := vOf_up h
  obtain ⟨h1, h2⟩ := figN_num f
  have hd : z ≠ "-" := fun e => figN_dash f (by rw [e]; decide)
  unfold wOf vOf
  rw [if_neg hd, if_pos h1, h2, if_pos f]
  rfl
theorem wOf_v {z : Str} {n : Int} (h : wOf z = some (some n)) (h0 : 0 ≤ n) : vOf z = n := by
  unfold wOf at h
  split at h
  · cases h
  · split at h
    · rename_i c1 c2
      obtain ⟨m, hm, e⟩ := Option.map_eq_some_iff.mp h
      cases e
      have f := num_figN c2 hm h0
      have := (figN_num f).2
      rw [hm] at this
      cases this
      unfold vOf
      rw [if_pos f]
    · cases h
theorem wOf_non {z : Str} (h : wOf z = some none) : z = "-" := by
  unfold wOf at h
  split at h
  · assumption
  · split at h
    · obtain ⟨m, hm, e⟩ := Option.map_eq_some_iff.mp h
      cases e
    · cases h
theorem wOf_dash : wOf "-" = some none := by
  unfold wOf
  rw [if_pos rfl]
/-- a good token's three words -/
def good3 (a b c : Str) : Bool :=
  if a = "slots" then decide (0 ≤ vOf b ∧ vOf b ≤ vOf c ∧ vOf c ≤ 65536)
  else if a = "up" then decide (0 ≤ vOf b ∧ (c = "-" ∨ vOf b ≤ vOf c))
  else decide (a = "down" ∧ 0 ≤ vOf c ∧ (b = "-" ∨ vOf c ≤ vOf b))
theorem good_tk {a b c : Str} (h : good3 a b c = true) : ∃ t, tkOf a b c = some t := by
  have h1 : ¬ ("up" : Str) = "slots" := by decide
  have h2 : ¬ ("down" : Str) = "slots" := by decide
  have h3 : ¬ ("down" : Str) = "up" := by decide
  unfold good3 at h
  unfold tkOf
  by_cases a1 : a = "slots"
  · rw [if_pos a1, decide_eq_true_eq] at h
    subst a1
    obtain ⟨g1, g2, g3⟩ := h
    rw [vOf_w g1, vOf_w (show 0 ≤ vOf c by omega)]
    have e : tkMade "slots" (some (vOf b)) (some (vOf c)) = some (.sl (vOf b) (vOf c)) := tkMade_words (.sl (vOf b) (vOf c))
    simp only [e]
    rw [if_pos (show (Tk.sl (vOf b) (vOf c)).ok from ⟨g1, g2, g3⟩)]
    exact ⟨_, rfl⟩
  rw [if_neg a1] at h
  by_cases a2 : a = "up"
  · rw [if_pos a2, decide_eq_true_eq] at h
    subst a2
    obtain ⟨g1, g2⟩ := h
    rw [vOf_w g1]
    obtain ⟨hc, ec, ho⟩ : ∃ hc, wOf c = some hc ∧ (Tk.up (vOf b) hc).ok := by
      rcases g2 with rfl | g2
      · exact ⟨none, wOf_dash, ⟨g1, nofun⟩⟩
      · exact ⟨some (vOf c), vOf_w (by omega), ⟨g1, fun n e => by cases e; exact g2⟩⟩
    rw [ec]
    have e : tkMade "up" (some (vOf b)) hc = some (.up (vOf b) hc) := tkMade_words (.up (vOf b) hc)
    simp only [e]
    rw [if_pos ho]
    exact ⟨_, rfl⟩
  rw [if_neg a2, decide_eq_true_eq] at h
  obtain ⟨rfl, g1, g2⟩ := h
  rw [vOf_w g1]
  obtain ⟨hb, eb, ho⟩ : ∃ hb, wOf b = some hb ∧ (Tk.dn hb (vOf c)).ok := by
    rcases g2 with rfl | g2
    · exact ⟨none, wOf_dash, ⟨g1, nofun⟩⟩
    · exact ⟨some (vOf b), vOf_w (by omega), ⟨g1, fun n e => by cases e; exact g2⟩⟩
  rw [eb]
  have e : tkMade "down" hb (some (vOf c)) = some (.dn hb (vOf c)) := tkMade_words (.dn hb (vOf c))
  simp only [e]
  rw [if_pos ho]
  exact ⟨_, rfl⟩
theorem tk_good {a b c : Str} {t : Tk} (h : tkOf a b c = some t) : good3 a b c = true := by
  have h1 : ¬ ("up" : Str) = "slots" := by decide
  have h2 : ¬ ("down" : Str) = "slots" := by decide
  have h3 : ¬ ("down" : Str) = "up" := by decide
  obtain ⟨l0, r0, eb, ec, em, ok⟩ := tkOf_some h
  obtain ⟨rfl, rfl, rfl⟩ := tkMade_some em
  unfold good3
  cases t with
  | sl l r =>
    obtain ⟨o1, o2, o3⟩ := ok
    have vb := wOf_v (show wOf b = some (some l) from eb) o1
    have vc := wOf_v (show wOf c = some (some r) from ec) (by omega)
    rw [show (Tk.sl l r).kind = "slots" from rfl, if_pos rfl, vb, vc, decide_eq_true_eq]
    exact ⟨o1, o2, o3⟩
  | up l r =>
    obtain ⟨o1, o2⟩ := ok
    have vb := wOf_v (show wOf b = some (some l) from eb) o1
    rw [show (Tk.up l r).kind = "up" from rfl, if_neg h1, if_pos rfl, vb, decide_eq_true_eq]
    refine ⟨o1, ?_⟩
    cases r with
    | none => exact .inl (wOf_non ec)
    | some n =>
      have := o2 n rfl
      rw [wOf_v (show wOf c = some (some n) from ec) (by omega)]
      exact .inr this
  | dn l r =>
    obtain ⟨o1, o2⟩ := ok
    have vc := wOf_v (show wOf c = some (some r) from ec) o1
    rw [show (Tk.dn l r).kind = "down" from rfl, if_neg h2, if_neg h3, vc, decide_eq_true_eq]
    refine ⟨rfl, o1, ?_⟩
    cases l with
    | none => exact .inl (wOf_non eb)
    | some n =>
      have := o2 n rfl
      rw [wOf_v (show wOf b = some (some n) from eb) (by omega)]
      exact .inr this
def goodL : List Str → Bool
  | [a, b, c] => good3 a b c
  | _ => false
theorem goodL_no {ws : List Str} (h : ws.length ≠ 3) : goodL ws = false := by
  match ws, h with
  | [], _ => rfl
  | [_], _ => rfl
  | [_, _], _ => rfl
  | [_, _, _], h => exact absurd rfl h
  | _ :: _ :: _ :: _ :: _, _ => rfl
def gOf (z : Str) : Bool := goodL (Txt.split z " ")
theorem gOf_yes {z : Str} (h : gOf z = true) : ∃ a b c t, Txt.split z " " = [a, b, c] ∧ tkOf a b c = some t := by
  unfold gOf at h
  generalize e : Txt.split z " " = ws at h
  match ws, e, h with
  | [a, b, c], e, h =>
    obtain ⟨t, et⟩ := good_tk h
    exact ⟨a, b, c, t, rfl, et⟩
theorem gOf_no {z a b c : Str} (h : gOf z = false) (e : Txt.split z " " = [a, b, c]) : tkOf a b c = none := by
  unfold gOf at h
  rw [e] at h
  cases et : tkOf a b c with
  | none => rfl
  | some t => rw [show goodL [a, b, c] = good3 a b c from rfl, tk_good et] at h; cases h
theorem split3_len {z a b c : Str} (e : Txt.split z " " = [a, b, c]) : z = a ++ " " ++ b ++ " " ++ c := by
  have h := (split_whole (y := " ") (s := 32) (by decide) (by decide) z).2.2
  rw [e, join3] at h
  exact h.symm
local macro_rules | `(tactic| wtm_at "s0") => `(tactic| first | with_reducible refine g_chain3 ?_)
def sp__law_value (K : PySem.W.Frag) (_ : Ad) : Sp := Sp1 fun x H Q _ => ∃ (z : Str) (B : Hp) (L : List Cell), x = .str z ∧ z.length ≤ 640 ∧ W B L H ∧ ∀ B' H', Same B B' → W B' L H' → Q (.int (vOf z)) H'
theorem ok__law_value {D : Ad} (T : Txt K mg D) : FnOk P w K mg base (L2.CX P w) 1 D.a__law_value D.d__law_value ["_law_word_here"] (sp__law_value K D) := by
  refine T.F__law_value.okX sc__law_value (fun vs H Q E h => sp1_len h) (fun cdv A outer s H vs Q E hr h => ⟨_, (pss_cons (ps_for (passes_of rfl) rfl (pi_str (pv 0)) (pg_name (i := 1) sc__law_value.nd rfl (Or.inl rfl))
      (pss_one (ps_if (pt_cmpR op_notIn_sign (pv 1) pe_str (by rfl))
        (pss_one (ps_ret (pe_un un_neg pe_int)))
        pss_nil)))
    (pss_cons (ps_if (PW.pt (pw_or (pt_cmpR op_eq (pv 0) pe_str (nomark _)) (pw_or (pt_cmpR op_gt (pe_callB call_lenS (by rfl) T.n_len bt_len (pa_cons (pv 0) pa_nil)) pe_int (nomark _)) (pw_or1 (PW.pt (pw_and (pt_cmpR op_ne (pv 0) pe_str (nomark _)) (pw_and1 (pt_cmpR op_eq (pe_ix ix_str (pv 0) pe_int (fun _ _ => rfl)) pe_str (nomark _)))))))))
      (pss_one (ps_ret (pe_un un_neg pe_int)))
      pss_nil)
    (pss_one (ps_ret (pe_callTy call_int_str (by rfl) T.n_int bt_int (pa_cons (pv 0) pa_nil)))))), ?_⟩)
  obtain ⟨x0, rfl, h⟩ := h
  rw [show L2.start n__law_value [x0] = [some x0, none] from rfl]
  try dsimp only [cxOf]
  obtain ⟨z, B, L, rfl, hl, w, k⟩ := h
  have no : figN z = false → Q (.int (-2)) H := fun e => by
    have := k B H (same_refl _) w
    unfold vOf at this
    rw [e] at this
    exact this
  have hz : (sg z).length = z.length := sg_len z
  wtm_at "go"
  refine FOR.strJ (fun σ H2 => (∃ v, σ = [some (.str z), v]) ∧ H2 = H ∧ digs (sg z) = true) ?_ (fun i σ H2 => (∃ v, σ = [some (.str z), v]) ∧ H2 = H ∧ digs ((sg z).take i) = true) ⟨⟨none, rfl⟩, rfl, rfl⟩ ?_ ?_
  · rintro σ H2 ⟨⟨v, rfl⟩, rfl, hdg⟩
    wtm_at "go"
    by_cases z0 : z = ""
    · wtm_at "go"
      exact no (by rw [z0]; decide)
    wtm_at "go"
    refine r_lenS (szl (by omega)) ?_
    by_cases c2 : (z.length : Int) > 60
    · wtm_at "go"
      exact no (by unfold figN; rw [hdg, decide_eq_false (show ¬ z.length ≤ 60 by omega), Bool.and_false, Bool.false_and])
    wtm_at "go"
    have hp1 : 1 ≤ z.length := by
      rcases Nat.eq_zero_or_pos z.length with e | e
      · exact absurd (sg_ext (List.length_eq_zero_iff.mp (show (sg z).length = 0 by omega))) z0
      · exact e
    have yes : figN z = true → ∃ n, intText? z = some n ∧ Q (.int n) H2 := fun f => by
      refine ⟨_, (figN_num f).2, ?_⟩
      have := k B H2 (same_refl _) w
      unfold vOf at this
      rw [if_pos f] at this
      exact this
    rw [is_zero]
    by_cases c4 : sg z = [48]
    · wtm_at "go"
      obtain ⟨n, en, q⟩ := yes (by unfold figN; rw [hdg, decide_eq_true c4, decide_eq_true hp1, decide_eq_true (show z.length ≤ 60 by omega)]; rfl)
      exact ⟨z, n, rfl, en, hl, q⟩
    wtm_at "go"
    obtain ⟨c0, hc0, hh0⟩ := atI_hd (z := z) (by omega)
    refine ⟨z, 0, c0, rfl, rfl, szl (by omega), hc0, ?_⟩
    wtm_at "go"
    rw [one_zero]
    by_cases c3 : c0 = 48
    · wtm_at "go"
      exact no (by unfold figN; rw [hh0, c3, decide_eq_false c4]; simp)
    · wtm_at "go"
      obtain ⟨n, en, q⟩ := yes (by unfold figN; rw [hdg, decide_eq_true hp1, decide_eq_true (show z.length ≤ 60 by omega), hh0, decide_eq_true (show (some c0 : Option Nat) ≠ some 48 from fun e => c3 (Option.some.inj e)), Bool.or_true]; rfl)
      exact ⟨z, n, rfl, en, hl, q⟩
  · rintro N hN i c σ H2 hc ⟨⟨v, rfl⟩, rfl, hdg⟩
    have et : (sg z).take (i + 1) = (sg z).take i ++ [c] := by rw [List.take_add_one, hc]; rfl
    have ed : digs ((sg z).take (i + 1)) = decide (48 ≤ c ∧ c ≤ 57) := by
      unfold digs at hdg ⊢
      rw [et, List.all_append, hdg]
      simp
    wtm_at "go"
    refine ⟨c, "0123456789", rfl, rfl, ?_⟩
    rw [dig_in]
    by_cases cc : 48 ≤ c ∧ c ≤ 57
    · wtm_at "go"
      exact ⟨⟨_, rfl⟩, rfl, by rw [ed, decide_eq_true cc]⟩
    · have hall : digs (sg z) = false := by
        unfold digs
        refine Bool.eq_false_iff.mpr fun h => ?_
        have := List.all_eq_true.mp h c (List.mem_of_getElem? hc)
        exact cc (of_decide_eq_true this)
      wtm_at "go"
      exact no (by unfold figN; rw [hall]; rfl)
  · rintro σ H2 ⟨⟨v, rfl⟩, rfl, hdg⟩
    rw [List.take_length] at hdg
    exact ⟨⟨v, rfl⟩, rfl, hdg⟩

def sp__law_good (K : PySem.W.Frag) (_ : Ad) : Sp := Sp1 fun x H Q _ => ∃ (z : Str) (B : Hp) (L : List Cell), x = .str z ∧ z.length ≤ 640 ∧ W B L H ∧ ∀ B' H', Same B B' → W B' L H' → Q (.bl (gOf z)) H'
theorem ok__law_good {D : Ad} (T : Txt K mg D) : FnOk P w K mg base (L2.CX P w) 2 D.a__law_good D.d__law_good ["_law_text"] (sp__law_good K D) := by
  refine T.F__law_good.okX sc__law_good (fun vs H Q E h => sp1_len h) (fun cdv A outer s H vs Q E hr h => ⟨_, (pss_cons (ps_set (i := 1) sc__law_good.nd rfl (Or.inl rfl) (pe_split (pv 0) pe_str))
    (pss_cons (ps_if (pt_cmpR op_ne (pe_callB call_lenZ (by rfl) T.n_len bt_len (pa_cons (pv 1) pa_nil)) pe_int (nomark _))
      (pss_one (ps_ret pe_bl))
      pss_nil)
    (pss_cons (ps_set (i := 2) sc__law_good.nd rfl (Or.inl rfl) (pe_call (ok__law_value T) (hr.mono (by decide)) rfl T.g__law_value T.F__law_value.kp T.b__law_value .nil pX (pa_cons (pe_ix ix_list (pv 1) pe_int (fun _ _ => rfl)) pa_nil)))
    (pss_cons (ps_set (i := 3) sc__law_good.nd rfl (Or.inl rfl) (pe_call (ok__law_value T) (hr.mono (by decide)) rfl T.g__law_value T.F__law_value.kp T.b__law_value .nil pX (pa_cons (pe_ix ix_list (pv 1) pe_int (fun _ _ => rfl)) pa_nil)))
    (pss_cons (ps_if (pt_cmpR op_eq (pe_ix ix_list (pv 1) pe_int (fun _ _ => rfl)) pe_str (nomark _))
      (pss_one (ps_ret (pe_chain3 op_le op_le op_le pe_int (pv 2) (pv 3) pe_int)))
      pss_nil)
    (pss_cons (ps_if (pt_cmpR op_eq (pe_ix ix_list (pv 1) pe_int (fun _ _ => rfl)) pe_str (nomark _))
      (pss_one (ps_ret (pe_and (pe_cmpR op_ge (pv 2) pe_int (nomark _)) (pe_one (pe_or (pe_cmpR op_eq (pe_ix ix_list (pv 1) pe_int (fun _ _ => rfl)) pe_str (nomark _)) (pe_one (pe_cmpR op_ge (pv 3) (pv 2) (nomark _))))))))
      pss_nil)
    (pss_one (ps_ret (pe_and (pe_cmpR op_eq (pe_ix ix_list (pv 1) pe_int (fun _ _ => rfl)) pe_str (nomark _)) (pe_and (pe_cmpR op_ge (pv 3) pe_int (nomark _)) (pe_one (pe_or (pe_cmpR op_eq (pe_ix ix_list (pv 1) pe_int (fun _ _ => rfl)) pe_str (nomark _)) (pe_one (pe_cmpR op_ge (pv 2) (pv 3) (nomark _))))))))))))))), ?_⟩)
  obtain ⟨x0, rfl, h⟩ := h
  rw [show L2.start n__law_good [x0] = [some x0, none, none, none] from rfl]
  try dsimp only [cxOf]
  obtain ⟨z, B, L, rfl, hl, w, k⟩ := h
  have hw := split_whole (y := " ") (s := 32) (by decide) (by decide) z
  wtm_at "go"
  refine ⟨z, " ", rfl, rfl, by decide, szl (by omega), ?_⟩
  intro p hp
  have s1 := same_new (w.freeB hp) (o := .lst ((Txt.split z " ").map V.str))
  have w := w.newB hp (.lst ((Txt.split z " ").map V.str))
  have ip : upd B p (.lst ((Txt.split z " ").map V.str)) p = some (.lst ((Txt.split z " ").map V.str)) := upd_same
  generalize upd B p (.lst ((Txt.split z " ").map V.str)) = B1 at *
  have k := fun B' H' => k B' H'
  unfold gOf at k
  generalize hws : Txt.split z " " = ws at *
  wtm_at "go"
  refine r_lenL (SqL.of (w.rd ip)) ?_
  rw [List.length_map]
  by_cases c3 : ws.length = 3
  rotate_left
  · wtm_at "go"
    have e : goodL ws = false := goodL_no c3
    rw [e] at k
    exact k _ _ s1 w
  obtain ⟨a, b, c, rfl⟩ : ∃ a b c, ws = [a, b, c] := by
    match ws, c3 with
    | [a, b, c], _ => exact ⟨a, b, c, rfl⟩
  have k : ∀ B' H', Same B B' → W B' L H' → Q (.bl (good3 a b c)) H' := k
  have hlen : a.length + b.length + c.length + 2 = z.length := by
    rw [split3_len hws, app_len, app_len, app_len, app_len]
    have : (" " : Str).length = 1 := by decide
    omega
  wtm_at "go"
  refine r_ixL (SqL.of (w.rd ip)) (v := .str b) rfl ?_
  wtm_at "go"
  refine ⟨_, rfl, b, B1, L, rfl, by omega, w, fun B2 H2 s2 w => ?_⟩
  have ip := s2 _ _ ip
  have s12 := same_trans s1 s2
  wtm_at "go"
  refine r_ixL (SqL.of (w.rd ip)) (v := .str c) rfl ?_
  wtm_at "go"
  refine ⟨_, rfl, c, B2, L, rfl, by omega, w, fun B3 H3 s3 w => ?_⟩
  have ip := s3 _ _ ip
  have s13 := same_trans s12 s3
  have k := k B3 H3 s13 w
  have h1 : ¬ ("up" : Str) = "slots" := by decide
  have h2 : ¬ ("down" : Str) = "slots" := by decide
  have h3 : ¬ ("down" : Str) = "up" := by decide
  unfold good3 at k
  wtm_at "go"
  refine r_ixL (SqL.of (w.rd ip)) (v := .str a) rfl ?_
  by_cases a1 : a = "slots"
  · rw [if_pos a1] at k
    wtm_at "go"
    by_cases b1 : 0 ≤ vOf b
    rotate_left
    · wtm_at "go"
      rw [decide_eq_false (fun h => b1 h.1)] at k
      exact k
    wtm_at "go"
    by_cases b2 : vOf b ≤ vOf c
    rotate_left
    · wtm_at "go"
      rw [decide_eq_false (fun h => b2 h.2.1)] at k
      exact k
    wtm_at "go"
    rw [show decide (0 ≤ vOf b ∧ vOf b ≤ vOf c ∧ vOf c ≤ 65536) = decide (vOf c ≤ 65536) from decide_eq_decide.mpr ⟨fun h => h.2.2, fun h => ⟨b1, b2, h⟩⟩] at k
    exact k
  rw [if_neg a1] at k
  wtm_at "go"
  refine r_ixL (SqL.of (w.rd ip)) (v := .str a) rfl ?_
  by_cases a2 : a = "up"
  · rw [if_pos a2] at k
    wtm_at "go"
    by_cases b1 : 0 ≤ vOf b
    rotate_left
    · wtm_at "go"
      rw [decide_eq_false (fun h => b1 h.1)] at k
      exact k
    wtm_at "go"
    refine r_ixL (SqL.of (w.rd ip)) (v := .str c) rfl ?_
    by_cases b2 : c = "-"
    · wtm_at "go"
      rw [decide_eq_true ⟨b1, Or.inl b2⟩] at k
      exact k
    wtm_at "go"
    rw [show decide (0 ≤ vOf b ∧ (c = "-" ∨ vOf b ≤ vOf c)) = decide (vOf b ≤ vOf c) from decide_eq_decide.mpr ⟨fun h => h.2.resolve_left b2, fun h => ⟨b1, .inr h⟩⟩] at k
    exact k
  rw [if_neg a2] at k
  wtm_at "go"
  refine r_ixL (SqL.of (w.rd ip)) (v := .str a) rfl ?_
  wtm_at "go"
  by_cases b0 : a = "down"
  rotate_left
  · wtm_at "go"
    rw [decide_eq_false (fun h => b0 h.1)] at k
    exact k
  wtm_at "go"
  by_cases b1 : 0 ≤ vOf c
  rotate_left
  · wtm_at "go"
    rw [decide_eq_false (fun h => b1 h.2.1)] at k
    exact k
  wtm_at "go"
  refine r_ixL (SqL.of (w.rd ip)) (v := .str b) rfl ?_
  by_cases b2 : b = "-"
  · wtm_at "go"
    rw [decide_eq_true ⟨b0, b1, Or.inl b2⟩] at k
    exact k
  wtm_at "go"
  rw [show decide (a = "down" ∧ 0 ≤ vOf c ∧ (b = "-" ∨ vOf c ≤ vOf b)) = decide (vOf c ≤ vOf b) from decide_eq_decide.mpr ⟨fun h => h.2.2.resolve_left b2, fun h => ⟨b0, b1, .inr h⟩⟩] at k
  exact k

def sp__law_refused (K : PySem.W.Frag) (D : Ad) : Sp := Sp1 fun x H Q _ => ∃ (B : Hp) (L : List Cell), W B L H ∧ ((∃ z, x = .str z ∧ z.length ≤ 640 ∧ ∀ a b c, Txt.split z " " = [a, b, c] → b.length ≤ 640 ∧ c.length ≤ 640 ∧ tkOf a b c = none) ∨ ∃ t, TyX K H x (.type t) ∧ kitB t "str" = some false) ∧ ∀ B' H', Same B B' → W B' L H' → Q (.bl true) H'
theorem ok__law_refused {D : Ad} (T : Txt K mg D) : FnOk P w K mg base (L2.CX P w) 8 D.a__law_refused D.d__law_refused ["_law_thing"] (sp__law_refused K D) := by
  refine T.F__law_refused.okX sc__law_refused (fun vs H Q E h => sp1_len h) (fun cdv A outer s H vs Q E hr h => ⟨_, (pss_cons (ps_tryAs (i := 1) rfl rfl sc__law_refused.nd rfl rfl ⟨rfl, by decide, .inl T.g_WalkError⟩ (takes_of rfl rfl rfl rfl) (fun WW pn xe tk po =>
        (pss_one (ps_expr (pe_callW (ok_read_token T) (hr.mono (by decide)) rfl T.g_read_token T.F_read_token.kp T.b_read_token .nil (fun σ => passAt tk σ) (pa_cons (pv 0) pa_nil)))))
        (fun a oe cls d pn hz hf =>
        (pss_cons (ps_if (PW.pt (pw_or (pt_val (pe_callB (call_isX hz hf) (by rfl) T.n_isinstance bt_isinstance (pa_cons (pv 1) (pa_cons (pe_glob (v := .ref D.c_NoRow) rfl T.g_NoRow rfl) pa_nil)))) (pw_or1 (pt_val (pe_callB (call_isX hz hf) (by rfl) T.n_isinstance bt_isinstance (pa_cons (pv 1) (pa_cons (pe_glob (v := .ref D.c_NoText) rfl T.g_NoText rfl) pa_nil)))))))
          (pss_one (ps_ret pe_bl))
          pss_nil)
        (pss_one (ps_ret (pe_and (pe_callB (call_isX hz hf) (by rfl) T.n_isinstance bt_isinstance (pa_cons (pv 1) (pa_cons (pe_glob (v := .ref D.c_NoToken) rfl T.g_NoToken rfl) pa_nil))) (pe_one (pe_callB (call_isX hz hf) (by rfl) T.n_isinstance bt_isinstance (pa_cons (pv 1) (pa_cons (pe_bltn (v := .ty "ValueError") (by rfl) T.n_ValueError bt_ValueError rfl) pa_nil))))))))))
    (pss_one (ps_ret pe_bl))), ?_⟩)
  obtain ⟨x0, rfl, h⟩ := h
  rw [show L2.start n__law_refused [x0] = [some x0, none] from rfl]
  try dsimp only [cxOf]
  obtain ⟨B, L, w, hx, k⟩ := h
  wtm_at "go"
  refine ⟨_, rfl, B, L, w, .inr ⟨trivial, hx, fun B1 H1 s1 w => ?_⟩⟩
  refine r_caught (T.xc_WalkError.exm T.sb_NoToken_WalkError) fun ea hea => ?_
  wtm_at "go"
  refine r_isXC0 T.xc_NoToken T.xc_NoRow T.sb_NoToken_NoRow ?_
  wtm_at "go"
  refine r_isXC0 T.xc_NoToken T.xc_NoText T.sb_NoToken_NoText ?_
  wtm_at "go"
  refine r_isXC0 T.xc_NoToken T.xc_NoToken T.sb_NoToken_NoToken ?_
  wtm_at "go"
  refine r_isXV0 T.xc_NoToken T.sv_NoToken ?_
  wtm_at "go"
  exact k B1 H1 s1 w

theorem join_le {s : Str} {m : Nat} : ∀ {ws : Ws}, Wd m ws → (ws.map (·.length)).sum + ws.length * s.length ≤ ws.length * (m + s.length)
  | [], _ => by simp
  | z :: ws, h => by
    have h1 := h z (List.mem_cons_self ..)
    have h2 := join_le (s := s) (ws := ws) fun y hy => h y (List.mem_cons_of_mem _ hy)
    rw [List.map_cons, List.sum_cons, List.length_cons, Nat.succ_mul, Nat.succ_mul]
    omega
theorem joinL_le (s : List Nat) : ∀ ps : List (List Nat), (TL.joinL s ps).length ≤ (ps.map List.length).sum + ps.length * s.length
  | [] => Nat.zero_le _
  | [p] => by
    show p.length ≤ _
    rw [List.map_cons, List.sum_cons]
    omega
  | p :: q :: r => by
    have h := joinL_le s (q :: r)
    show (p ++ (s ++ TL.joinL s (q :: r))).length ≤ _
    rw [List.length_append, List.length_append, List.map_cons, List.sum_cons, List.length_cons (a := p), Nat.succ_mul]
    omega
theorem join_len_le (s : Str) (ws : Ws) : (Txt.join s ws).length ≤ (ws.map (·.length)).sum + ws.length * s.length := by
  have h := joinL_le (sg s) (ws.map sg)
  rw [List.map_map, List.length_map, sg_len] at h
  have e : sg (Txt.join s ws) = TL.joinL (sg s) (ws.map sg) := by
    show TL.tl _ = _
    rw [TL.join_eq, TL.tl_join]
  rw [← sg_len, e]
  have e2 : ws.map (List.length ∘ sg) = ws.map (·.length) := List.map_congr_left fun z _ => sg_len z
  rw [e2] at h
  exact h
theorem val_lt : ∀ (cs : List Nat) (a : Nat), (∀ c ∈ cs, 48 ≤ c ∧ c ≤ 57) → cs.foldl (fun a c => a * 10 + (c - 48)) a + 1 ≤ (a + 1) * 10 ^ cs.length
  | [], a, _ => by simp
  | c :: cs, a, h => by
    have hc := h c (List.mem_cons_self ..)
    have ih := val_lt cs (a * 10 + (c - 48)) fun d hd => h d (List.mem_cons_of_mem _ hd)
    rw [List.foldl_cons, List.length_cons, Nat.pow_succ]
    have h2 : a * 10 + (c - 48) + 1 ≤ (a + 1) * 10 := by omega
    have h3 := Nat.mul_le_mul_right (10 ^ cs.length) h2
    rw [Nat.mul_assoc, Nat.mul_comm 10] at h3
    exact Nat.le_trans ih h3
theorem dval_lt {cs : List Nat} (h : digs cs = true) (hl : cs.length ≤ 60) : NumText.digitsVal cs < 10 ^ 60 := by
  have h1 := val_lt cs 0 (digs_all h)
  have h2 : 10 ^ cs.length ≤ 10 ^ 60 := Nat.pow_le_pow_right (by decide) hl
  have h3 : NumText.digitsVal cs = cs.foldl (fun a c => a * 10 + (c - 48)) 0 := rfl
  rw [h3]
  generalize 10 ^ 60 = big at *
  omega
theorem num_sml {z : Str} {n : Int} (h : isNum z = true) (e : intText? z = some n) : n.natAbs.log2 < 1920 := by
  unfold isNum at h
  simp only [Bool.and_eq_true, Bool.or_eq_true, decide_eq_true_eq] at h
  obtain ⟨⟨⟨h1, h2⟩, h3⟩, h4⟩ := h
  have hv := dval_lt h3 h2
  refine log_lt (k := 60) (by decide) ?_ (by decide)
  by_cases c : (sg z).head? = some 45
  · have ef : figs z = (sg z).drop 1 := by unfold figs; rw [if_pos c]
    rw [ef] at h1 h2 h3 h4 hv
    obtain ⟨r, hr⟩ : ∃ r, sg z = 45 :: r := by
      cases hz : sg z with
      | nil => rw [hz] at c; cases c
      | cons a r => rw [hz] at c; cases c; exact ⟨r, rfl⟩
    rw [hr] at h1 h2 h3 h4 hv
    have h1 : 1 ≤ r.length := h1
    have h2 : r.length ≤ 60 := h2
    have h3 : digs r = true := h3
    have hv : NumText.digitsVal r < 10 ^ 60 := hv
    have hl : z.length ≤ 4300 := by rw [← sg_len, hr, List.length_cons]; omega
    have e2 := PySem.intText_neg (x := z) hr (digs_all h3) (List.length_pos_iff.mp h1) hl
    rw [e2] at e
    cases e
    rw [Int.natAbs_neg]
    exact hv
  · have ef : figs z = sg z := by unfold figs; rw [if_neg c]
    rw [ef] at h1 h2 h3 h4 hv
    have hl : z.length ≤ 4300 := by rw [← sg_len]; omega
    have e2 := PySem.intText_digits (x := z) (digs_all h3) (List.length_pos_iff.mp h1) hl
    rw [e2] at e
    cases e
    exact hv
theorem wOf_text {z : Str} {o : Option Int} (h : wOf z = some o) : z = sOf o ∧ sml o := by
  unfold wOf at h
  split at h
  · rename_i c
    cases h
    exact ⟨c, nofun⟩
  · split at h
    · rename_i c1 c2
      obtain ⟨m, hm, e⟩ := Option.map_eq_some_iff.mp h
      cases e
      exact ⟨num_canon c2 hm, fun n e => by cases e; exact num_sml c2 hm⟩
    · cases h
theorem ok_law {D : Ad} (T : Txt K mg D) : FnOk P w K mg base (L2.CX P w) 9 D.a_law D.d_law ["_law_script"] (sp_law K D) := by
  refine T.F_law.okX sc_law (fun vs H Q E h => sp1_len h) (fun cdv A outer s H vs Q E hr h => ⟨_, (pss_cons (ps_set (i := 1) sc_law.nd rfl (Or.inl rfl) (pe_lst (pa_cons (pe_ix ix_list (pe_lst (pa_cons pe_str (pa_cons pe_str (pa_cons pe_str pa_nil)))) (pe_op op_mod (pe_call (ok__law_cell_at T) (hr.mono (by decide)) rfl T.g__law_cell_at T.F__law_cell_at.kp T.b__law_cell_at .nil pX (pa_cons (pv 0) (pa_cons pe_int pa_nil))) pe_int) (fun _ _ => rfl)) pa_nil)))
    (pss_cons (ps_set (i := 1) sc_law.nd rfl (Or.inl rfl) (pe_op op_cat (pv 1) (pe_lst (pa_cons (pe_call (ok__law_word T) (hr.mono (by decide)) rfl T.g__law_word T.F__law_word.kp T.b__law_word .nil pX (pa_cons (pe_call (ok__law_cell_at T) (hr.mono (by decide)) rfl T.g__law_cell_at T.F__law_cell_at.kp T.b__law_cell_at .nil pX (pa_cons (pv 0) (pa_cons pe_int pa_nil))) pa_nil)) (pa_cons (pe_call (ok__law_word T) (hr.mono (by decide)) rfl T.g__law_word T.F__law_word.kp T.b__law_word .nil pX (pa_cons (pe_call (ok__law_cell_at T) (hr.mono (by decide)) rfl T.g__law_cell_at T.F__law_cell_at.kp T.b__law_cell_at .nil pX (pa_cons (pv 0) (pa_cons pe_int pa_nil))) pa_nil)) pa_nil)))))
    (pss_cons (ps_if (pt_cmpR op_gt (pe_op op_mod (pe_call (ok__law_cell_at T) (hr.mono (by decide)) rfl T.g__law_cell_at T.F__law_cell_at.kp T.b__law_cell_at .nil pX (pa_cons (pv 0) (pa_cons pe_int pa_nil))) pe_int) pe_int (nomark _))
      (pss_one (ps_set (i := 1) sc_law.nd rfl (Or.inl rfl) (pe_call (ok__law_changed T) (hr.mono (by decide)) rfl T.g__law_changed T.F__law_changed.kp T.b__law_changed .nil pX (pa_cons (pv 1) (pa_cons (pe_call (ok__law_cell_at T) (hr.mono (by decide)) rfl T.g__law_cell_at T.F__law_cell_at.kp T.b__law_cell_at .nil pX (pa_cons (pv 0) (pa_cons pe_int pa_nil))) pa_nil)))))
      pss_nil)
    (pss_cons (ps_if (pt_cmpR op_eq (pe_op op_mod (pe_call (ok__law_cell_at T) (hr.mono (by decide)) rfl T.g__law_cell_at T.F__law_cell_at.kp T.b__law_cell_at .nil pX (pa_cons (pv 0) (pa_cons pe_int pa_nil))) pe_int) pe_int (nomark _))
      (pss_one (ps_set (i := 1) sc_law.nd rfl (Or.inl rfl) (pe_call (ok__law_changed T) (hr.mono (by decide)) rfl T.g__law_changed T.F__law_changed.kp T.b__law_changed .nil pX (pa_cons (pv 1) (pa_cons (pe_call (ok__law_cell_at T) (hr.mono (by decide)) rfl T.g__law_cell_at T.F__law_cell_at.kp T.b__law_cell_at .nil pX (pa_cons (pv 0) (pa_cons pe_int pa_nil))) pa_nil)))))
      pss_nil)
    (pss_cons (ps_set (i := 2) sc_law.nd rfl (Or.inl rfl) (pe_join pe_str (pv 1)))
    (pss_cons (ps_set (i := 3) sc_law.nd rfl (Or.inl rfl) (pe_ix ix_list (pe_lst (pa_cons (pe_op op_mod (pe_call (ok__law_cell_at T) (hr.mono (by decide)) rfl T.g__law_cell_at T.F__law_cell_at.kp T.b__law_cell_at .nil pX (pa_cons (pv 0) (pa_cons pe_int pa_nil))) (pe_op op_pow pe_int pe_int)) (pa_cons pe_non (pa_cons pe_bl (pa_cons (pe_lst (pa_cons (pv 2) pa_nil)) (pa_cons (pv 1) (pa_cons (pe_tup (pa_cons (pv 2) pa_nil)) pa_nil))))))) (pe_op op_mod (pe_call (ok__law_cell_at T) (hr.mono (by decide)) rfl T.g__law_cell_at T.F__law_cell_at.kp T.b__law_cell_at .nil pX (pa_cons (pv 0) (pa_cons pe_int pa_nil))) pe_int) (fun _ _ => rfl)))
    (pss_cons (ps_if (pt_not (pt_val (pe_call (ok__law_refused T) (hr.mono (by decide)) rfl T.g__law_refused T.F__law_refused.kp T.b__law_refused .nil pX (pa_cons (pv 3) pa_nil))))
      (pss_one (ps_ret pe_bl))
      pss_nil)
    (pss_cons (ps_if (pt_not (pt_val (pe_call (ok__law_good T) (hr.mono (by decide)) rfl T.g__law_good T.F__law_good.kp T.b__law_good .nil pX (pa_cons (pv 2) pa_nil))))
      (pss_one (ps_ret (pe_call (ok__law_refused T) (hr.mono (by decide)) rfl T.g__law_refused T.F__law_refused.kp T.b__law_refused .nil pX (pa_cons (pv 2) pa_nil))))
      pss_nil)
    (pss_one (ps_ret (pe_cmpR op_eq (pe_either (pe_meth0 (pe_call (ok_read_token T) (hr.mono (by decide)) rfl T.g_read_token T.F_read_token.kp T.b_read_token .nil pX (pa_cons (pv 2) pa_nil)) T.cl_BySlots T.me_BySlots_words (ok_Token_words T) (hr.mono (by decide)) T.b_Token_words .nil pX) (pe_either (pe_meth0 (pe_call (ok_read_token T) (hr.mono (by decide)) rfl T.g_read_token T.F_read_token.kp T.b_read_token .nil pX (pa_cons (pv 2) pa_nil)) T.cl_Down T.me_Down_words (ok_Token_words T) (hr.mono (by decide)) T.b_Token_words .nil pX) (pe_meth0 (pe_call (ok_read_token T) (hr.mono (by decide)) rfl T.g_read_token T.F_read_token.kp T.b_read_token .nil pX (pa_cons (pv 2) pa_nil)) T.cl_Up T.me_Up_words (ok_Token_words T) (hr.mono (by decide)) T.b_Token_words .nil pX))) (pv 2) (nomark _)))))))))))), ?_⟩)
  obtain ⟨x0, rfl, h⟩ := h
  rw [show L2.start n_law [x0] = [some x0, none, none, none] from rfl]
  try dsimp only [cxOf]
  obtain ⟨A, ns, rfl, hS, hlen, k⟩ := h
  obtain ⟨B0, hS, w⟩ := W.law hS
  generalize hc0 : ns.getD 0 0 = c0
  generalize hc1 : ns.getD 1 0 = c1
  generalize hc2 : ns.getD 2 0 = c2
  generalize hc3 : ns.getD 3 0 = c3
  generalize hc4 : ns.getD 4 0 = c4
  generalize hc5 : ns.getD 5 0 = c5
  generalize hc6 : ns.getD 6 0 = c6
  wtm_at "go"
  refine d_lst w (szl (by simp)) fun p1 B1 H1 hp1 s1 i1 w => ?_
  wtm_at "go"
  obtain ⟨wh, hwh, ewh⟩ := atS_ex (ns := ["slots", "up", "down"]) (i := c0 % 3) (by omega) (by simp only [List.length_cons, List.length_nil]; omega)
  have hwl : wh.length ≤ 61 := by
    have : ∀ z ∈ (["slots", "up", "down"] : Ws), z.length ≤ 61 := by decide
    exact this wh hwh
  rw [hc0]
  refine r_ixL (SqL.of (w.rd i1)) ewh ?_
  clear ewh hwh
  wtm_at "go"
  refine d_oneW w fun p2 B2 H2 s2 i2 w => ?_
  wtm_at "go"
  rw [hc1]
  refine ⟨_, rfl, c1, B2, [], rfl, w, fun z1 B3 H3 l1 s3 w => ?_⟩
  wtm_at "go"
  rw [hc2]
  refine ⟨_, rfl, c2, B3, [], rfl, w, fun z2 B4 H4 l2 s4 w => ?_⟩
  wtm_at "go"
  refine d_lst w (szl (by simp)) fun p5 B5 H5 hp5 s5 i5 w => ?_
  have i5 : B5 p5 = some (.lst (([z1, z2] : Ws).map V.str)) := i5
  refine d_catW w (s5 _ _ (s4 _ _ (s3 _ _ i2))) i5 (by simp) fun p6 B6 H6 s6 i6 w => ?_
  have hA := same_trans s1 (same_trans s2 (same_trans s3 (same_trans s4 (same_trans s5 s6))))
  have wd : Wd 61 ([wh] ++ [z1, z2]) := fun z hz => by
    simp only [List.cons_append, List.nil_append, List.mem_cons, List.not_mem_nil, or_false] at hz
    rcases hz with rfl | rfl | rfl
    · exact hwl
    · omega
    · omega
  generalize hws : ([wh] ++ [z1, z2] : Ws) = ws1 at *
  have hl1 : ws1.length = 3 := by rw [← hws]; rfl
  wtm_at "g0"
  refine g_ifJ (fun σ H' => ∃ (p : Addr) (ws : Ws) (B : Hp), σ = [some (.ref A), some (.ref p), none, none] ∧ Same B0 B ∧ B p = some (.lst (ws.map V.str)) ∧ 2 ≤ ws.length ∧ ws.length ≤ 4 ∧ Wd 62 ws ∧ W B [] H') ?_ ?_
  rotate_left
  · intro N hN
    wtm_at "go"
    rw [hc3]
    wtm_at "br"
    · intro cc
      wtm_at "go"
      rw [hc4]
      refine ⟨_, _, rfl, p6, ws1, c4, 61, B6, [], rfl, rfl, w, i6, by omega, by omega, by omega, by omega, wd, fun p7 ws2 B7 H7 s7 i7 h1 h2 wd2 w => ?_⟩
      wtm_at "go"
      exact hN _ _ ⟨p7, ws2, B7, rfl, same_trans hA s7, i7, by omega, by omega, wd2, w⟩
    · intro cc
      wtm_at "go"
      exact hN _ _ ⟨p6, ws1, B6, rfl, hA, i6, by omega, by omega, wd.up (by omega), w⟩
  rintro σ H7 ⟨p7, ws2, B7, rfl, s7, i7, n1, n2, wd2, w⟩
  wtm_at "g0"
  refine g_ifJ (fun σ H' => ∃ (p : Addr) (ws : Ws) (B : Hp), σ = [some (.ref A), some (.ref p), none, none] ∧ Same B0 B ∧ B p = some (.lst (ws.map V.str)) ∧ ws.length ≤ 5 ∧ Wd 63 ws ∧ W B [] H') ?_ ?_
  rotate_left
  · intro N hN
    wtm_at "go"
    rw [hc3]
    wtm_at "br"
    · intro cc
      wtm_at "go"
      refine c_cell (i := 5) (w.sq (Z.Same.sq s7 hS)) ?_
      wtm_at "go"
      rw [hc5]
      refine ⟨_, _, rfl, p7, ws2, c5, 62, B7, [], rfl, rfl, w, i7, by omega, by omega, by omega, by omega, wd2, fun p8 ws3 B8 H8 s8 i8 h1 h2 wd3 w => ?_⟩
      wtm_at "go"
      exact hN _ _ ⟨p8, ws3, B8, rfl, same_trans s7 s8, i8, by omega, wd3, w⟩
    · intro cc
      wtm_at "go"
      exact hN _ _ ⟨p7, ws2, B7, rfl, s7, i7, by omega, wd2.up (by omega), w⟩
  rintro σ H8 ⟨p8, ws3, B8, rfl, s8, i8, n3, wd3, w⟩
  have hb := join_le (s := " ") (m := 63) wd3
  have e0 : (" " : Str).length = 1 := by decide
  rw [e0] at hb
  have hbb : ws3.length * (63 + 1) ≤ 5 * (63 + 1) := Nat.mul_le_mul_right _ n3
  wtm_at "go"
  refine ⟨" ", p8, ws3, rfl, rfl, .inl (SqL.of (w.rd i8)), ?_, ?_⟩
  · rw [e0]; omega
  have ht : (Txt.join " " ws3).length ≤ 640 := by have := join_len_le " " ws3; rw [e0] at this; omega
  generalize Txt.join " " ws3 = z at *
  wtm_at "go"
  refine d_lst w (szl (by simp)) fun p9 B9 H9 hp9 s9 i9 w => ?_
  wtm_at "go"
  refine d_tup w (szl (by simp)) fun p10 B10 H10 hp10 s10 i10 w => ?_
  wtm_at "go"
  refine d_lst w (szl (by simp)) fun p11 B11 H11 hp11 s11 i11 w => ?_
  have s9a := same_trans s9 (same_trans s10 s11)
  have i8 := s9a _ _ i8
  have i9 := s11 _ _ (s10 _ _ i9)
  have i10 := s11 _ _ i10
  have hS := Z.Same.sq (same_trans s8 s9a) hS
  wtm_at "go"
  refine c_cell (i := 6) (w.sq hS) ?_
  wtm_at "go"
  rw [hc6]
  generalize hv0 : ns.getD 1 0 % (10 : Int) ^ (39 : Int).toNat = v0 at *
  have e5 : ∃ v5 t5, atI [V.int v0, .non, .bl true, .ref p9, .ref p8, .ref p10] (c6 % 6) = some v5 ∧ TyX K H11 v5 (.type t5) ∧ kitB t5 "str" = some false := by
    have hc : c6 % 6 = 0 ∨ c6 % 6 = 1 ∨ c6 % 6 = 2 ∨ c6 % 6 = 3 ∨ c6 % 6 = 4 ∨ c6 % 6 = 5 := by omega
    rcases hc with e | e | e | e | e | e
    all_goals rw [e]
    · exact ⟨_, _, rfl, .base (.int _), kb_int_str⟩
    · exact ⟨_, _, rfl, .base .non, kb_non_str⟩
    · exact ⟨_, _, rfl, .base (.bl _), kb_bool_str⟩
    · exact ⟨_, _, rfl, .base (.lst (w.rd i9)), kb_list_str⟩
    · exact ⟨_, _, rfl, .base (.lst (w.rd i8)), kb_list_str⟩
    · exact ⟨_, _, rfl, .base (.tup (w.rd i10)), kb_tup_str⟩
  obtain ⟨v5, t5, e5, ty5, kb5⟩ := e5
  refine r_ixL (SqL.of (w.rd i11)) e5 ?_
  wtm_at "go"
  refine ⟨_, rfl, B11, [], w, .inr ⟨t5, ty5, kb5⟩, fun B12 H12 s12 w => ?_⟩
  wtm_at "go"
  refine ⟨_, rfl, z, B12, [], rfl, ht, w, fun B13 H13 s13 w => ?_⟩
  cases hg : gOf z with
  | false =>
    wtm_at "go"
    refine ⟨_, rfl, B13, [], w, .inl ⟨z, rfl, ht, fun a b c e => ?_⟩, fun B14 H14 s14 w => k _⟩
    have hl := split3_len e
    have hl : z.length = _ := congrArg Str.length hl
    rw [app_len, app_len, app_len, app_len] at hl
    exact ⟨by omega, by omega, gOf_no hg e⟩
  | true =>
    obtain ⟨a, b, c, t, es, et⟩ := gOf_yes hg
    have hz := split3_len es
    have hl : z.length = _ := congrArg Str.length hz
    rw [app_len, app_len, app_len, app_len] at hl
    obtain ⟨o1, o2, w1, w2, hm, ok⟩ := tkOf_some et
    obtain ⟨ea, rfl, rfl⟩ := tkMade_some hm
    obtain ⟨eb, sb⟩ := wOf_text w1
    obtain ⟨ec, sc⟩ := wOf_text w2
    have ez : z = t.words := by
      rw [hz, ea, eb, ec]
      rfl
    have rd : ∀ {Q' : VK}, (∀ q B' H', Same B13 B' → IsTk D B' q t → W B' [] H' → Q' (.ref q) H') → sp_read_token K D ([.str z] ++ []) H13 Q' E := fun {Q'} hq =>
      ⟨_, rfl, B13, [], w, .inl ⟨z, a, _, _, t, rfl, by omega, es, by omega, by omega, et, hq⟩⟩
    wtm_at "go"
    cases t with
    | sl l r =>
      refine .inl ?_
      refine ⟨_, rfl, rd fun q B14 H14 s14 ⟨dx, iq⟩ w => ?_⟩
      refine ⟨q, dx, _, rfl, w.rd iq, rfl, _, rfl, q, .sl l r, rfl, ⟨dx, w.rd iq⟩, trivial, sb, sc, ?_⟩
      wtm_at "go"
      refine (?_ : Q (V.bl (decide (_ = z))) _)
      rw [decide_eq_true ez.symm]
      exact k _
    | up l r =>
      refine .inr (.inr ?_)
      refine ⟨_, rfl, rd fun q B14 H14 s14 ⟨dx, iq⟩ w => ?_⟩
      refine ⟨q, dx, _, rfl, w.rd iq, rfl, _, rfl, q, .up l r, rfl, ⟨dx, w.rd iq⟩, trivial, sb, sc, ?_⟩
      wtm_at "go"
      refine (?_ : Q (V.bl (decide (_ = z))) _)
      rw [decide_eq_true ez.symm]
      exact k _
    | dn l r =>
      refine .inr (.inl ?_)
      refine ⟨_, rfl, rd fun q B14 H14 s14 ⟨dx, iq⟩ w => ?_⟩
      refine ⟨q, dx, _, rfl, w.rd iq, rfl, _, rfl, q, .dn l r, rfl, ⟨dx, w.rd iq⟩, trivial, sb, sc, ?_⟩
      wtm_at "go"
      refine (?_ : Q (V.bl (decide (_ = z))) _)
      rw [decide_eq_true ez.symm]
      exact k _


end
theorem all_mk {l : PySem.W.OpenLaw} {w : World} {K : PySem.W.Frag} {h : Heap} {mg : Str → Option Value} {fa f1 f2 f3 f4 f5 f6 f7 f8 f9 f10 f11 f12 f13 f14 f15 f16 f17 f18 f19 f20 f21 f22 f23 f24 C_WalkError C_NoToken C_NoText C_NoRow C_Token C_BySlots C_Up C_Down : Addr} (X : K.In h) (G : h.Ns mainGlobals mg) (hfa : mg "law" = some (.ref fa))
    {nm_WalkError q_WalkError : Str} {N_WalkError : Addr} {bs_WalkError : List Value} {sn_WalkError : List Str} {su_WalkError : List Value} {ab_WalkError : Bool} {co_WalkError : Option Bool} {dd_WalkError : Option Addr} {m0_WalkError m1_WalkError m2_WalkError m3_WalkError m5_WalkError : Option Value}
    {nm_NoToken q_NoToken : Str} {N_NoToken : Addr} {bs_NoToken : List Value} {sn_NoToken : List Str} {su_NoToken : List Value} {ab_NoToken : Bool} {co_NoToken : Option Bool} {dd_NoToken : Option Addr} {m0_NoToken m1_NoToken m2_NoToken m3_NoToken m5_NoToken : Option Value}
    {nm_NoText q_NoText : Str} {N_NoText : Addr} {bs_NoText : List Value} {sn_NoText : List Str} {su_NoText : List Value} {ab_NoText : Bool} {co_NoText : Option Bool} {dd_NoText : Option Addr} {m0_NoText m1_NoText m2_NoText m3_NoText m5_NoText : Option Value}
    {nm_NoRow q_NoRow : Str} {N_NoRow : Addr} {bs_NoRow : List Value} {sn_NoRow : List Str} {su_NoRow : List Value} {ab_NoRow : Bool} {co_NoRow : Option Bool} {dd_NoRow : Option Addr} {m0_NoRow m1_NoRow m2_NoRow m3_NoRow m5_NoRow : Option Value}
    {od1 an1 od2 an2 od3 an3 od4 an4 od5 an5 od6 an6 od7 an7 od8 an8 od9 an9 od10 an10 od11 an11 od12 an12 od13 an13 od14 an14 od15 an15 od16 an16 od17 an17 od18 an18 od19 an19 od20 an20 od21 an21 od22 an22 od23 an23 od24 an24 : Option Addr} {sl1 sl2 sl3 sl4 sl5 sl6 sl7 sl8 sl9 sl10 sl11 sl12 sl13 sl14 sl15 sl16 sl17 sl18 sl19 sl20 sl21 sl22 sl23 sl24 : Array (Option Value)} {oc1 kV1 dc1 pm1 cd1 ct1 oc2 kV2 dc2 pm2 cd2 ct2 oc3 kV3 dc3 pm3 cd3 ct3 oc4 kV4 dc4 pm4 cd4 ct4 oc5 kV5 dc5 pm5 cd5 ct5 oc6 kV6 dc6 pm6 cd6 ct6 oc7 kV7 dc7 pm7 cd7 ct7 oc8 kV8 dc8 pm8 cd8 ct8 oc9 kV9 dc9 pm9 cd9 ct9 oc10 kV10 dc10 pm10 cd10 ct10 oc11 kV11 dc11 pm11 cd11 ct11 oc12 kV12 dc12 pm12 cd12 ct12 oc13 kV13 dc13 pm13 cd13 ct13 oc14 kV14 dc14 pm14 cd14 ct14 oc15 kV15 dc15 pm15 cd15 ct15 oc16 kV16 dc16 pm16 cd16 ct16 oc17 kV17 dc17 pm17 cd17 ct17 oc18 kV18 dc18 pm18 cd18 ct18 oc19 kV19 dc19 pm19 cd19 ct19 oc20 kV20 dc20 pm20 cd20 ct20 oc21 kV21 dc21 pm21 cd21 ct21 oc22 kV22 dc22 pm22 cd22 ct22 oc23 kV23 dc23 pm23 cd23 ct23 oc24 kV24 dc24 pm24 cd24 ct24 : Value} {tk_PLACES tk_FIGURES tk_MOST_FIGURES : Tok}
    {T14 : Addr} {ocT14 : Value} {odT14 : Option Addr} {nT14 : Nat} {slT14 : Array (Option Value)} {tk14_0 tk14_1 : Tok}
    {T16 : Addr} {ocT16 : Value} {odT16 : Option Addr} {nT16 : Nat} {slT16 : Array (Option Value)} {tk16_1 : Tok}
    {T17 : Addr} {ocT17 : Value} {odT17 : Option Addr} {nT17 : Nat} {slT17 : Array (Option Value)} {tk17_0 : Tok}
    (a1 : PySem.W.findIn K (.ref C_BySlots) "kind_word" = some (some (.ref f1)))
    (i1 : PySem.W.isFn K (.ref f1) = true)
    (l1 : K.lookup f1 = some ⟨oc1, od1, .func (PySem.W.fnOf "kind_word" "BySlots.kind_word" (defArgs s_BySlots_kind_word) (defBody s_BySlots_kind_word) (defScope s_BySlots_kind_word) .none kV1 dc1 pm1 an1 cd1 ct1), sl1⟩)
    (c1 : PySem.W.codeIn K cd1 "BySlots.kind_word" = true)
    (k1 : PySem.W.keepIn K (.ref f1) = true)
    (a2 : PySem.W.findIn K (.ref C_Down) "kind_word" = some (some (.ref f2)))
    (i2 : PySem.W.isFn K (.ref f2) = true)
    (l2 : K.lookup f2 = some ⟨oc2, od2, .func (PySem.W.fnOf "kind_word" "Down.kind_word" (defArgs s_Down_kind_word) (defBody s_Down_kind_word) (defScope s_Down_kind_word) .none kV2 dc2 pm2 an2 cd2 ct2), sl2⟩)
    (c2 : PySem.W.codeIn K cd2 "Down.kind_word" = true)
    (k2 : PySem.W.keepIn K (.ref f2) = true)
    (a3 : PySem.W.findIn K (.ref C_Up) "kind_word" = some (some (.ref f3)))
    (i3 : PySem.W.isFn K (.ref f3) = true)
    (l3 : K.lookup f3 = some ⟨oc3, od3, .func (PySem.W.fnOf "kind_word" "Up.kind_word" (defArgs s_Up_kind_word) (defBody s_Up_kind_word) (defScope s_Up_kind_word) .none kV3 dc3 pm3 an3 cd3 ct3), sl3⟩)
    (c3 : PySem.W.codeIn K cd3 "Up.kind_word" = true)
    (k3 : PySem.W.keepIn K (.ref f3) = true)
    (a4 : PySem.W.nsIn K mainGlobals "shown" = some (some (.ref f4)))
    (l4 : K.lookup f4 = some ⟨oc4, od4, .func (PySem.W.fnOf "shown" "shown" (defArgs s_shown) (defBody s_shown) (defScope s_shown) .none kV4 dc4 pm4 an4 cd4 ct4), sl4⟩)
    (c4 : PySem.W.codeIn K cd4 "shown" = true)
    (k4 : PySem.W.keepIn K (.ref f4) = true)
    (a5 : PySem.W.findIn K (.ref C_Token) "words" = some (some (.ref f5)))
    (i5 : PySem.W.isFn K (.ref f5) = true)
    (l5 : K.lookup f5 = some ⟨oc5, od5, .func (PySem.W.fnOf "words" "Token.words" (defArgs s_Token_words) (defBody s_Token_words) (defScope s_Token_words) .none kV5 dc5 pm5 an5 cd5 ct5), sl5⟩)
    (c5 : PySem.W.codeIn K cd5 "Token.words" = true)
    (k5 : PySem.W.keepIn K (.ref f5) = true)
    (a6 : PySem.W.nsIn K mainGlobals "_law_cell_at" = some (some (.ref f6)))
    (l6 : K.lookup f6 = some ⟨oc6, od6, .func (PySem.W.fnOf "_law_cell_at" "_law_cell_at" (defArgs s__law_cell_at) (defBody s__law_cell_at) (defScope s__law_cell_at) .none kV6 dc6 pm6 an6 cd6 ct6), sl6⟩)
    (c6 : PySem.W.codeIn K cd6 "_law_cell_at" = true)
    (k6 : PySem.W.keepIn K (.ref f6) = true)
    (a7 : PySem.W.nsIn K mainGlobals "_law_changed" = some (some (.ref f7)))
    (l7 : K.lookup f7 = some ⟨oc7, od7, .func (PySem.W.fnOf "_law_changed" "_law_changed" (defArgs s__law_changed) (defBody s__law_changed) (defScope s__law_changed) .none kV7 dc7 pm7 an7 cd7 ct7), sl7⟩)
    (c7 : PySem.W.codeIn K cd7 "_law_changed" = true)
    (k7 : PySem.W.keepIn K (.ref f7) = true)
    (a8 : PySem.W.nsIn K mainGlobals "_law_value" = some (some (.ref f8)))
    (l8 : K.lookup f8 = some ⟨oc8, od8, .func (PySem.W.fnOf "_law_value" "_law_value" (defArgs s__law_value) (defBody s__law_value) (defScope s__law_value) .none kV8 dc8 pm8 an8 cd8 ct8), sl8⟩)
    (c8 : PySem.W.codeIn K cd8 "_law_value" = true)
    (k8 : PySem.W.keepIn K (.ref f8) = true)
    (a9 : PySem.W.nsIn K mainGlobals "_law_good" = some (some (.ref f9)))
    (l9 : K.lookup f9 = some ⟨oc9, od9, .func (PySem.W.fnOf "_law_good" "_law_good" (defArgs s__law_good) (defBody s__law_good) (defScope s__law_good) .none kV9 dc9 pm9 an9 cd9 ct9), sl9⟩)
    (c9 : PySem.W.codeIn K cd9 "_law_good" = true)
    (k9 : PySem.W.keepIn K (.ref f9) = true)
    (a10 : PySem.W.findIn K (.ref C_Token) "__init__" = some (some (.ref f10)))
    (i10 : PySem.W.isFn K (.ref f10) = true)
    (l10 : K.lookup f10 = some ⟨oc10, od10, .func (PySem.W.fnOf "__init__" "Token.__init__" (defArgs s_Token_init) (defBody s_Token_init) (defScope s_Token_init) .none kV10 dc10 pm10 an10 cd10 ct10), sl10⟩)
    (c10 : PySem.W.codeIn K cd10 "Token.__init__" = true)
    (k10 : PySem.W.keepIn K (.ref f10) = true)
    (a11 : PySem.W.nsIn K mainGlobals "is_whole" = some (some (.ref f11)))
    (l11 : K.lookup f11 = some ⟨oc11, od11, .func (PySem.W.fnOf "is_whole" "is_whole" (defArgs s_is_whole) (defBody s_is_whole) (defScope s_is_whole) .none kV11 dc11 pm11 an11 cd11 ct11), sl11⟩)
    (c11 : PySem.W.codeIn K cd11 "is_whole" = true)
    (k11 : PySem.W.keepIn K (.ref f11) = true)
    (a12 : PySem.W.nsIn K mainGlobals "bounded" = some (some (.ref f12)))
    (l12 : K.lookup f12 = some ⟨oc12, od12, .func (PySem.W.fnOf "bounded" "bounded" (defArgs s_bounded) (defBody s_bounded) (defScope s_bounded) .none kV12 dc12 pm12 an12 cd12 ct12), sl12⟩)
    (c12 : PySem.W.codeIn K cd12 "bounded" = true)
    (k12 : PySem.W.keepIn K (.ref f12) = true)
    (a13 : PySem.W.nsIn K mainGlobals "in_order" = some (some (.ref f13)))
    (l13 : K.lookup f13 = some ⟨oc13, od13, .func (PySem.W.fnOf "in_order" "in_order" (defArgs s_in_order) (defBody s_in_order) (defScope s_in_order) .none kV13 dc13 pm13 an13 cd13 ct13), sl13⟩)
    (c13 : PySem.W.codeIn K cd13 "in_order" = true)
    (k13 : PySem.W.keepIn K (.ref f13) = true)
    (a14 : PySem.W.findIn K (.ref C_BySlots) "__init__" = some (some (.ref f14)))
    (i14 : PySem.W.isFn K (.ref f14) = true)
    (l14 : K.lookup f14 = some ⟨oc14, od14, .func (PySem.W.fnOf "__init__" "BySlots.__init__" (defArgs s_BySlots_init) (defBody s_BySlots_init) (defScope s_BySlots_init) (.ref T14) kV14 dc14 pm14 an14 cd14 ct14), sl14⟩)
    (t14 : K.lookup T14 = some ⟨ocT14, odT14, .seq (List.toArray [.int 0 tk14_0, .int 65536 tk14_1]) nT14, slT14⟩)
    (c14 : PySem.W.codeIn K cd14 "BySlots.__init__" = true)
    (k14 : PySem.W.keepIn K (.ref f14) = true)
    (a15 : PySem.W.nsIn K mainGlobals "bound_or_none" = some (some (.ref f15)))
    (l15 : K.lookup f15 = some ⟨oc15, od15, .func (PySem.W.fnOf "bound_or_none" "bound_or_none" (defArgs s_bound_or_none) (defBody s_bound_or_none) (defScope s_bound_or_none) .none kV15 dc15 pm15 an15 cd15 ct15), sl15⟩)
    (c15 : PySem.W.codeIn K cd15 "bound_or_none" = true)
    (k15 : PySem.W.keepIn K (.ref f15) = true)
    (a16 : PySem.W.findIn K (.ref C_Down) "__init__" = some (some (.ref f16)))
    (i16 : PySem.W.isFn K (.ref f16) = true)
    (l16 : K.lookup f16 = some ⟨oc16, od16, .func (PySem.W.fnOf "__init__" "Down.__init__" (defArgs s_Down_init) (defBody s_Down_init) (defScope s_Down_init) (.ref T16) kV16 dc16 pm16 an16 cd16 ct16), sl16⟩)
    (t16 : K.lookup T16 = some ⟨ocT16, odT16, .seq (List.toArray [.none, .int 0 tk16_1]) nT16, slT16⟩)
    (c16 : PySem.W.codeIn K cd16 "Down.__init__" = true)
    (k16 : PySem.W.keepIn K (.ref f16) = true)
    (a17 : PySem.W.findIn K (.ref C_Up) "__init__" = some (some (.ref f17)))
    (i17 : PySem.W.isFn K (.ref f17) = true)
    (l17 : K.lookup f17 = some ⟨oc17, od17, .func (PySem.W.fnOf "__init__" "Up.__init__" (defArgs s_Up_init) (defBody s_Up_init) (defScope s_Up_init) (.ref T17) kV17 dc17 pm17 an17 cd17 ct17), sl17⟩)
    (t17 : K.lookup T17 = some ⟨ocT17, odT17, .seq (List.toArray [.int 0 tk17_0, .none]) nT17, slT17⟩)
    (c17 : PySem.W.codeIn K cd17 "Up.__init__" = true)
    (k17 : PySem.W.keepIn K (.ref f17) = true)
    (a18 : PySem.W.nsIn K mainGlobals "read_whole" = some (some (.ref f18)))
    (l18 : K.lookup f18 = some ⟨oc18, od18, .func (PySem.W.fnOf "read_whole" "read_whole" (defArgs s_read_whole) (defBody s_read_whole) (defScope s_read_whole) .none kV18 dc18 pm18 an18 cd18 ct18), sl18⟩)
    (c18 : PySem.W.codeIn K cd18 "read_whole" = true)
    (k18 : PySem.W.keepIn K (.ref f18) = true)
    (a19 : PySem.W.nsIn K mainGlobals "read_bound" = some (some (.ref f19)))
    (l19 : K.lookup f19 = some ⟨oc19, od19, .func (PySem.W.fnOf "read_bound" "read_bound" (defArgs s_read_bound) (defBody s_read_bound) (defScope s_read_bound) .none kV19 dc19 pm19 an19 cd19 ct19), sl19⟩)
    (c19 : PySem.W.codeIn K cd19 "read_bound" = true)
    (k19 : PySem.W.keepIn K (.ref f19) = true)
    (a20 : PySem.W.nsIn K mainGlobals "token_of" = some (some (.ref f20)))
    (l20 : K.lookup f20 = some ⟨oc20, od20, .func (PySem.W.fnOf "token_of" "token_of" (defArgs s_token_of) (defBody s_token_of) (defScope s_token_of) .none kV20 dc20 pm20 an20 cd20 ct20), sl20⟩)
    (c20 : PySem.W.codeIn K cd20 "token_of" = true)
    (k20 : PySem.W.keepIn K (.ref f20) = true)
    (a21 : PySem.W.nsIn K mainGlobals "read_token" = some (some (.ref f21)))
    (l21 : K.lookup f21 = some ⟨oc21, od21, .func (PySem.W.fnOf "read_token" "read_token" (defArgs s_read_token) (defBody s_read_token) (defScope s_read_token) .none kV21 dc21 pm21 an21 cd21 ct21), sl21⟩)
    (c21 : PySem.W.codeIn K cd21 "read_token" = true)
    (k21 : PySem.W.keepIn K (.ref f21) = true)
    (a22 : PySem.W.nsIn K mainGlobals "_law_refused" = some (some (.ref f22)))
    (l22 : K.lookup f22 = some ⟨oc22, od22, .func (PySem.W.fnOf "_law_refused" "_law_refused" (defArgs s__law_refused) (defBody s__law_refused) (defScope s__law_refused) .none kV22 dc22 pm22 an22 cd22 ct22), sl22⟩)
    (c22 : PySem.W.codeIn K cd22 "_law_refused" = true)
    (k22 : PySem.W.keepIn K (.ref f22) = true)
    (a23 : PySem.W.nsIn K mainGlobals "_law_word" = some (some (.ref f23)))
    (l23 : K.lookup f23 = some ⟨oc23, od23, .func (PySem.W.fnOf "_law_word" "_law_word" (defArgs s__law_word) (defBody s__law_word) (defScope s__law_word) .none kV23 dc23 pm23 an23 cd23 ct23), sl23⟩)
    (c23 : PySem.W.codeIn K cd23 "_law_word" = true)
    (k23 : PySem.W.keepIn K (.ref f23) = true)
    (a24 : PySem.W.nsIn K mainGlobals "law" = some (some (.ref f24)))
    (l24 : K.lookup f24 = some ⟨oc24, od24, .func (PySem.W.fnOf "law" "law" (defArgs s_law) (defBody s_law) (defScope s_law) .none kV24 dc24 pm24 an24 cd24 ct24), sl24⟩)
    (c24 : PySem.W.codeIn K cd24 "law" = true)
    (k24 : PySem.W.keepIn K (.ref f24) = true)
    (aC_WalkError : PySem.W.nsIn K mainGlobals "WalkError" = some (some (.ref C_WalkError)))
    (xL_WalkError : K.lookup C_WalkError = some (excClassObj nm_WalkError q_WalkError C_WalkError N_WalkError bs_WalkError [.type "ValueError", .type "Exception", .type "BaseException", .type "object"] true sn_WalkError su_WalkError ab_WalkError co_WalkError dd_WalkError m0_WalkError m1_WalkError m2_WalkError m3_WalkError m5_WalkError "ValueError.__new__"))
    (xa_WalkError : PySem.W.findIn K (.ref C_WalkError) "__setattr__" = some (some (.builtin "object.__setattr__")))
    (xe_WalkError : PySem.W.subIn K (.ref C_WalkError) (.type "BaseException") = some true)
    (xt_WalkError : PySem.W.typeIn K (.ref C_WalkError) = some (.type "type"))
    (xk_WalkError : PySem.W.keepIn K (.ref C_WalkError) = true)
    (xg_WalkError : PySem.W.findIn K (.ref C_WalkError) "__getattribute__" = some (some (.builtin "BaseException.__getattribute__")))
    (xn_WalkError : PySem.W.findIn K (.ref C_WalkError) "__getattr__" = some none)
    (xd_WalkError : PySem.W.hasDictIn K C_WalkError = true)
    (xc_WalkError : PySem.W.findIn K (.ref C_WalkError) "__class__" = some (some (.builtin "object.__class__")))
    (xs_WalkError : PySem.W.specialIn K (.builtin "object.__class__") "__get__" = some (some (.builtin "getset_descriptor.__get__")))
    (xj_WalkError : PySem.W.takesIn K (.builtin "object.__class__") = some true)
    (xm_WalkError : PySem.W.mroIn K C_WalkError (.type "object") = some true)
    (xl_WalkError : PySem.W.subIn K (.ref C_WalkError) (.ref C_WalkError) = some true)
    (aC_NoToken : PySem.W.nsIn K mainGlobals "NoToken" = some (some (.ref C_NoToken)))
    (xL_NoToken : K.lookup C_NoToken = some (excClassObj nm_NoToken q_NoToken C_NoToken N_NoToken bs_NoToken [.ref C_WalkError, .type "ValueError", .type "Exception", .type "BaseException", .type "object"] true sn_NoToken su_NoToken ab_NoToken co_NoToken dd_NoToken m0_NoToken m1_NoToken m2_NoToken m3_NoToken m5_NoToken "ValueError.__new__"))
    (xa_NoToken : PySem.W.findIn K (.ref C_NoToken) "__setattr__" = some (some (.builtin "object.__setattr__")))
    (xe_NoToken : PySem.W.subIn K (.ref C_NoToken) (.type "BaseException") = some true)
    (xt_NoToken : PySem.W.typeIn K (.ref C_NoToken) = some (.type "type"))
    (xk_NoToken : PySem.W.keepIn K (.ref C_NoToken) = true)
    (xg_NoToken : PySem.W.findIn K (.ref C_NoToken) "__getattribute__" = some (some (.builtin "BaseException.__getattribute__")))
    (xn_NoToken : PySem.W.findIn K (.ref C_NoToken) "__getattr__" = some none)
    (xd_NoToken : PySem.W.hasDictIn K C_NoToken = true)
    (xc_NoToken : PySem.W.findIn K (.ref C_NoToken) "__class__" = some (some (.builtin "object.__class__")))
    (xs_NoToken : PySem.W.specialIn K (.builtin "object.__class__") "__get__" = some (some (.builtin "getset_descriptor.__get__")))
    (xj_NoToken : PySem.W.takesIn K (.builtin "object.__class__") = some true)
    (xm_NoToken : PySem.W.mroIn K C_NoToken (.type "object") = some true)
    (xl_NoToken : PySem.W.subIn K (.ref C_NoToken) (.ref C_NoToken) = some true)
    (sv_NoToken : PySem.W.subIn K (.ref C_NoToken) (.type "ValueError") = some true)
    (xi_NoToken : PySem.W.excIn K C_NoToken PySem.HandSPX.veTail "ValueError.__new__" = true)
    (sb_NoToken_NoText : PySem.W.subIn K (.ref C_NoToken) (.ref C_NoText) = some false)
    (sb_NoToken_WalkError : PySem.W.subIn K (.ref C_NoToken) (.ref C_WalkError) = some true)
    (sb_NoToken_NoRow : PySem.W.subIn K (.ref C_NoToken) (.ref C_NoRow) = some false)
    (sb_NoToken_NoToken : PySem.W.subIn K (.ref C_NoToken) (.ref C_NoToken) = some true)
    (aC_NoText : PySem.W.nsIn K mainGlobals "NoText" = some (some (.ref C_NoText)))
    (xL_NoText : K.lookup C_NoText = some (excClassObj nm_NoText q_NoText C_NoText N_NoText bs_NoText [.ref C_WalkError, .type "ValueError", .type "Exception", .type "BaseException", .type "object"] true sn_NoText su_NoText ab_NoText co_NoText dd_NoText m0_NoText m1_NoText m2_NoText m3_NoText m5_NoText "ValueError.__new__"))
    (xa_NoText : PySem.W.findIn K (.ref C_NoText) "__setattr__" = some (some (.builtin "object.__setattr__")))
    (xe_NoText : PySem.W.subIn K (.ref C_NoText) (.type "BaseException") = some true)
    (xt_NoText : PySem.W.typeIn K (.ref C_NoText) = some (.type "type"))
    (xk_NoText : PySem.W.keepIn K (.ref C_NoText) = true)
    (xg_NoText : PySem.W.findIn K (.ref C_NoText) "__getattribute__" = some (some (.builtin "BaseException.__getattribute__")))
    (xn_NoText : PySem.W.findIn K (.ref C_NoText) "__getattr__" = some none)
    (xd_NoText : PySem.W.hasDictIn K C_NoText = true)
    (xc_NoText : PySem.W.findIn K (.ref C_NoText) "__class__" = some (some (.builtin "object.__class__")))
    (xs_NoText : PySem.W.specialIn K (.builtin "object.__class__") "__get__" = some (some (.builtin "getset_descriptor.__get__")))
    (xj_NoText : PySem.W.takesIn K (.builtin "object.__class__") = some true)
    (xm_NoText : PySem.W.mroIn K C_NoText (.type "object") = some true)
    (xl_NoText : PySem.W.subIn K (.ref C_NoText) (.ref C_NoText) = some true)
    (sv_NoText : PySem.W.subIn K (.ref C_NoText) (.type "ValueError") = some true)
    (xi_NoText : PySem.W.excIn K C_NoText PySem.HandSPX.veTail "ValueError.__new__" = true)
    (sb_NoText_NoText : PySem.W.subIn K (.ref C_NoText) (.ref C_NoText) = some true)
    (sb_NoText_WalkError : PySem.W.subIn K (.ref C_NoText) (.ref C_WalkError) = some true)
    (sb_NoText_NoRow : PySem.W.subIn K (.ref C_NoText) (.ref C_NoRow) = some false)
    (sb_NoText_NoToken : PySem.W.subIn K (.ref C_NoText) (.ref C_NoToken) = some false)
    (aC_NoRow : PySem.W.nsIn K mainGlobals "NoRow" = some (some (.ref C_NoRow)))
    (xL_NoRow : K.lookup C_NoRow = some (excClassObj nm_NoRow q_NoRow C_NoRow N_NoRow bs_NoRow [.ref C_WalkError, .type "ValueError", .type "Exception", .type "BaseException", .type "object"] true sn_NoRow su_NoRow ab_NoRow co_NoRow dd_NoRow m0_NoRow m1_NoRow m2_NoRow m3_NoRow m5_NoRow "ValueError.__new__"))
    (xa_NoRow : PySem.W.findIn K (.ref C_NoRow) "__setattr__" = some (some (.builtin "object.__setattr__")))
    (xe_NoRow : PySem.W.subIn K (.ref C_NoRow) (.type "BaseException") = some true)
    (xt_NoRow : PySem.W.typeIn K (.ref C_NoRow) = some (.type "type"))
    (xk_NoRow : PySem.W.keepIn K (.ref C_NoRow) = true)
    (xg_NoRow : PySem.W.findIn K (.ref C_NoRow) "__getattribute__" = some (some (.builtin "BaseException.__getattribute__")))
    (xn_NoRow : PySem.W.findIn K (.ref C_NoRow) "__getattr__" = some none)
    (xd_NoRow : PySem.W.hasDictIn K C_NoRow = true)
    (xc_NoRow : PySem.W.findIn K (.ref C_NoRow) "__class__" = some (some (.builtin "object.__class__")))
    (xs_NoRow : PySem.W.specialIn K (.builtin "object.__class__") "__get__" = some (some (.builtin "getset_descriptor.__get__")))
    (xj_NoRow : PySem.W.takesIn K (.builtin "object.__class__") = some true)
    (xm_NoRow : PySem.W.mroIn K C_NoRow (.type "object") = some true)
    (xl_NoRow : PySem.W.subIn K (.ref C_NoRow) (.ref C_NoRow) = some true)
    (aC_Token : PySem.W.nsIn K mainGlobals "Token" = some (some (.ref C_Token)))
    (pg_Token : PySem.W.plainGet K C_Token Str.empty = true)
    (hd_Token : PySem.W.hasDictIn K C_Token = true)
    (po_Token : PySem.W.plainOver K C_Token = true)
    (sa_Token : PySem.W.findIn K (.ref C_Token) "__setattr__" = some (some (.builtin "object.__setattr__")))
    (mk_Token : PySem.W.makesIn K C_Token = true)
    (kc_Token : PySem.W.keepIn K (.ref C_Token) = true)
    (na_Token_at : PySem.W.findIn K (.ref C_Token) "at" = some none)
    (na_Token_end : PySem.W.findIn K (.ref C_Token) "end" = some none)
    (aC_BySlots : PySem.W.nsIn K mainGlobals "BySlots" = some (some (.ref C_BySlots)))
    (pg_BySlots : PySem.W.plainGet K C_BySlots Str.empty = true)
    (hd_BySlots : PySem.W.hasDictIn K C_BySlots = true)
    (po_BySlots : PySem.W.plainOver K C_BySlots = true)
    (sa_BySlots : PySem.W.findIn K (.ref C_BySlots) "__setattr__" = some (some (.builtin "object.__setattr__")))
    (mk_BySlots : PySem.W.makesIn K C_BySlots = true)
    (kc_BySlots : PySem.W.keepIn K (.ref C_BySlots) = true)
    (m_BySlots_words : PySem.W.findIn K (.ref C_BySlots) "words" = some (some (.ref f5)))
    (na_BySlots_at : PySem.W.findIn K (.ref C_BySlots) "at" = some none)
    (na_BySlots_end : PySem.W.findIn K (.ref C_BySlots) "end" = some none)
    (aC_Up : PySem.W.nsIn K mainGlobals "Up" = some (some (.ref C_Up)))
    (pg_Up : PySem.W.plainGet K C_Up Str.empty = true)
    (hd_Up : PySem.W.hasDictIn K C_Up = true)
    (po_Up : PySem.W.plainOver K C_Up = true)
    (sa_Up : PySem.W.findIn K (.ref C_Up) "__setattr__" = some (some (.builtin "object.__setattr__")))
    (mk_Up : PySem.W.makesIn K C_Up = true)
    (kc_Up : PySem.W.keepIn K (.ref C_Up) = true)
    (m_Up_words : PySem.W.findIn K (.ref C_Up) "words" = some (some (.ref f5)))
    (na_Up_at : PySem.W.findIn K (.ref C_Up) "at" = some none)
    (na_Up_end : PySem.W.findIn K (.ref C_Up) "end" = some none)
    (aC_Down : PySem.W.nsIn K mainGlobals "Down" = some (some (.ref C_Down)))
    (pg_Down : PySem.W.plainGet K C_Down Str.empty = true)
    (hd_Down : PySem.W.hasDictIn K C_Down = true)
    (po_Down : PySem.W.plainOver K C_Down = true)
    (sa_Down : PySem.W.findIn K (.ref C_Down) "__setattr__" = some (some (.builtin "object.__setattr__")))
    (mk_Down : PySem.W.makesIn K C_Down = true)
    (kc_Down : PySem.W.keepIn K (.ref C_Down) = true)
    (m_Down_words : PySem.W.findIn K (.ref C_Down) "words" = some (some (.ref f5)))
    (na_Down_at : PySem.W.findIn K (.ref C_Down) "at" = some none)
    (na_Down_end : PySem.W.findIn K (.ref C_Down) "end" = some none)
    (cg_Token : PySem.W.readsIn K C_Token (.type "type") = true)
    (ca_Token : PySem.W.specialIn K (.ref C_Token) "__getattribute__" = some (some (.builtin "type.__getattribute__")))
    (ci_Token_init : PySem.W.findCls K (.ref C_Token) (.type "type") "__init__" = some (.val (.ref f10)))
    (kk_PLACES : PySem.W.nsIn K mainGlobals "PLACES" = some (some (.int 65536 tk_PLACES)))
    (kk_FIGURES : PySem.W.nsIn K mainGlobals "FIGURES" = some (some (.str "0123456789" tk_FIGURES)))
    (kk_MOST_FIGURES : PySem.W.nsIn K mainGlobals "MOST_FIGURES" = some (some (.int 60 tk_MOST_FIGURES)))
    (z_ValueError : PySem.W.nsIn K mainGlobals "ValueError" = some none)
    (z_all : PySem.W.nsIn K mainGlobals "all" = some none)
    (z_bool : PySem.W.nsIn K mainGlobals "bool" = some none)
    (z_int : PySem.W.nsIn K mainGlobals "int" = some none)
    (z_isinstance : PySem.W.nsIn K mainGlobals "isinstance" = some none)
    (z_len : PySem.W.nsIn K mainGlobals "len" = some none)
    (z_str : PySem.W.nsIn K mainGlobals "str" = some none) :
    ∃ fd : FuncData, (∀ (s : Shared) (v : Value), BindsTo s fd ⟨[v], []⟩ [("_law_script", v)]) ∧ ∃ D : Ad, ∀ base : Heap, K.In base → base.Ns mainGlobals mg → FnOk l.prog w K mg base (L2.CX l.prog w) 9 fa fd ["_law_script"] (sp_law K D) := by
  have e := hfa.symm.trans (PySem.W.mg_of X G a24)
  cases e
  have F1 := fun_mk (st := s_BySlots_kind_word) l1 c1 k1
  have b1 := F1.binds (ps := ["self"]) fun _ _ _ _ _ _ us hl => match us, hl with | [_], _ => rfl
  have F2 := fun_mk (st := s_Down_kind_word) l2 c2 k2
  have b2 := F2.binds (ps := ["self"]) fun _ _ _ _ _ _ us hl => match us, hl with | [_], _ => rfl
  have F3 := fun_mk (st := s_Up_kind_word) l3 c3 k3
  have b3 := F3.binds (ps := ["self"]) fun _ _ _ _ _ _ us hl => match us, hl with | [_], _ => rfl
  have F4 := fun_mk (st := s_shown) l4 c4 k4
  have b4 := F4.binds (ps := ["number"]) fun _ _ _ _ _ _ us hl => match us, hl with | [_], _ => rfl
  have F5 := fun_mk (st := s_Token_words) l5 c5 k5
  have b5 := F5.binds (ps := ["self"]) fun _ _ _ _ _ _ us hl => match us, hl with | [_], _ => rfl
  have F6 := fun_mk (st := s__law_cell_at) l6 c6 k6
  have b6 := F6.binds (ps := ["_law_script", "_law_k"]) fun _ _ _ _ _ _ us hl => match us, hl with | [_, _], _ => rfl
  have F7 := fun_mk (st := s__law_changed) l7 c7 k7
  have b7 := F7.binds (ps := ["_law_words", "_law_cell"]) fun _ _ _ _ _ _ us hl => match us, hl with | [_, _], _ => rfl
  have F8 := fun_mk (st := s__law_value) l8 c8 k8
  have b8 := F8.binds (ps := ["_law_word_here"]) fun _ _ _ _ _ _ us hl => match us, hl with | [_], _ => rfl
  have F9 := fun_mk (st := s__law_good) l9 c9 k9
  have b9 := F9.binds (ps := ["_law_text"]) fun _ _ _ _ _ _ us hl => match us, hl with | [_], _ => rfl
  have F10 := fun_mk (st := s_Token_init) l10 c10 k10
  have b10 := F10.binds (ps := ["self", "at", "end"]) fun _ _ _ _ _ _ us hl => match us, hl with | [_, _, _], _ => rfl
  have F11 := fun_mk (st := s_is_whole) l11 c11 k11
  have b11 := F11.binds (ps := ["thing"]) fun _ _ _ _ _ _ us hl => match us, hl with | [_], _ => rfl
  have F12 := fun_mk (st := s_bounded) l12 c12 k12
  have b12 := F12.binds (ps := ["number", "most"]) fun _ _ _ _ _ _ us hl => match us, hl with | [_, _], _ => rfl
  have F13 := fun_mk (st := s_in_order) l13 c13 k13
  have b13 := F13.binds (ps := ["low", "high"]) fun _ _ _ _ _ _ us hl => match us, hl with | [_, _], _ => rfl
  have F14 : FunD K "__init__" "BySlots.__init__" (defArgs s_BySlots_init) (defBody s_BySlots_init) (defScope s_BySlots_init) [.int 0, .int 65536] [] f14 _ := ⟨⟨_, _, _, _, _, _, _, _, _, _, rfl, l14, c14, .inr ⟨by simp, T14, _, _, _, rfl, t14, rfl, (.cons ⟨_, rfl⟩ (.cons ⟨_, rfl⟩ .nil))⟩, .inl rfl⟩, k14⟩
  have b14_0 := F14.binds1 (ps := ["self", "at", "end"]) 3 2 (by simp) (by decide) fun _ _ _ _ _ _ _ us its h1 h2 => match us, its, h1, h2 with | [_, _, _], [_, _], _, _ => ⟨_, rfl, rfl⟩
  have b14_1 := F14.binds1 (ps := ["self", "at", "end"]) 2 1 (by simp) (by decide) fun _ _ _ _ _ _ _ us its h1 h2 => match us, its, h1, h2 with | [_, _], [_, _], _, _ => ⟨_, rfl, rfl⟩
  have b14_2 := F14.binds1 (ps := ["self", "at", "end"]) 1 0 (by simp) (by decide) fun _ _ _ _ _ _ _ us its h1 h2 => match us, its, h1, h2 with | [_], [_, _], _, _ => ⟨_, rfl, rfl⟩
  have b14 := (match b14_0 with | ⟨ds, h, b⟩ => (by cases h; exact b) : Binds K _ ["self", "at", "end"] [])
  have F15 := fun_mk (st := s_bound_or_none) l15 c15 k15
  have b15 := F15.binds (ps := ["number"]) fun _ _ _ _ _ _ us hl => match us, hl with | [_], _ => rfl
  have F16 : FunD K "__init__" "Down.__init__" (defArgs s_Down_init) (defBody s_Down_init) (defScope s_Down_init) [.non, .int 0] [] f16 _ := ⟨⟨_, _, _, _, _, _, _, _, _, _, rfl, l16, c16, .inr ⟨by simp, T16, _, _, _, rfl, t16, rfl, (.cons rfl (.cons ⟨_, rfl⟩ .nil))⟩, .inl rfl⟩, k16⟩
  have b16_0 := F16.binds1 (ps := ["self", "at", "end"]) 3 2 (by simp) (by decide) fun _ _ _ _ _ _ _ us its h1 h2 => match us, its, h1, h2 with | [_, _, _], [_, _], _, _ => ⟨_, rfl, rfl⟩
  have b16_1 := F16.binds1 (ps := ["self", "at", "end"]) 2 1 (by simp) (by decide) fun _ _ _ _ _ _ _ us its h1 h2 => match us, its, h1, h2 with | [_, _], [_, _], _, _ => ⟨_, rfl, rfl⟩
  have b16_2 := F16.binds1 (ps := ["self", "at", "end"]) 1 0 (by simp) (by decide) fun _ _ _ _ _ _ _ us its h1 h2 => match us, its, h1, h2 with | [_], [_, _], _, _ => ⟨_, rfl, rfl⟩
  have b16 := (match b16_0 with | ⟨ds, h, b⟩ => (by cases h; exact b) : Binds K _ ["self", "at", "end"] [])
  have F17 : FunD K "__init__" "Up.__init__" (defArgs s_Up_init) (defBody s_Up_init) (defScope s_Up_init) [.int 0, .non] [] f17 _ := ⟨⟨_, _, _, _, _, _, _, _, _, _, rfl, l17, c17, .inr ⟨by simp, T17, _, _, _, rfl, t17, rfl, (.cons ⟨_, rfl⟩ (.cons rfl .nil))⟩, .inl rfl⟩, k17⟩
  have b17_0 := F17.binds1 (ps := ["self", "at", "end"]) 3 2 (by simp) (by decide) fun _ _ _ _ _ _ _ us its h1 h2 => match us, its, h1, h2 with | [_, _, _], [_, _], _, _ => ⟨_, rfl, rfl⟩
  have b17_1 := F17.binds1 (ps := ["self", "at", "end"]) 2 1 (by simp) (by decide) fun _ _ _ _ _ _ _ us its h1 h2 => match us, its, h1, h2 with | [_, _], [_, _], _, _ => ⟨_, rfl, rfl⟩
  have b17_2 := F17.binds1 (ps := ["self", "at", "end"]) 1 0 (by simp) (by decide) fun _ _ _ _ _ _ _ us its h1 h2 => match us, its, h1, h2 with | [_], [_, _], _, _ => ⟨_, rfl, rfl⟩
  have b17 := (match b17_0 with | ⟨ds, h, b⟩ => (by cases h; exact b) : Binds K _ ["self", "at", "end"] [])
  have F18 := fun_mk (st := s_read_whole) l18 c18 k18
  have b18 := F18.binds (ps := ["text"]) fun _ _ _ _ _ _ us hl => match us, hl with | [_], _ => rfl
  have F19 := fun_mk (st := s_read_bound) l19 c19 k19
  have b19 := F19.binds (ps := ["word"]) fun _ _ _ _ _ _ us hl => match us, hl with | [_], _ => rfl
  have F20 := fun_mk (st := s_token_of) l20 c20 k20
  have b20 := F20.binds (ps := ["words"]) fun _ _ _ _ _ _ us hl => match us, hl with | [_], _ => rfl
  have F21 := fun_mk (st := s_read_token) l21 c21 k21
  have b21 := F21.binds (ps := ["text"]) fun _ _ _ _ _ _ us hl => match us, hl with | [_], _ => rfl
  have F22 := fun_mk (st := s__law_refused) l22 c22 k22
  have b22 := F22.binds (ps := ["_law_thing"]) fun _ _ _ _ _ _ us hl => match us, hl with | [_], _ => rfl
  have F23 := fun_mk (st := s__law_word) l23 c23 k23
  have b23 := F23.binds (ps := ["_law_cell"]) fun _ _ _ _ _ _ us hl => match us, hl with | [_], _ => rfl
  have F24 := fun_mk (st := s_law) l24 c24 k24
  have b24 := F24.binds (ps := ["_law_script"]) fun _ _ _ _ _ _ us hl => match us, hl with | [_], _ => rfl
  have T : Txt K mg { a_BySlots_kind_word := f1, d_BySlots_kind_word := _, a_Down_kind_word := f2, d_Down_kind_word := _, a_Up_kind_word := f3, d_Up_kind_word := _, a_shown := f4, d_shown := _, a_Token_words := f5, d_Token_words := _, a__law_cell_at := f6, d__law_cell_at := _, a__law_changed := f7, d__law_changed := _, a__law_value := f8, d__law_value := _, a__law_good := f9, d__law_good := _, a_Token_init := f10, d_Token_init := _, a_is_whole := f11, d_is_whole := _, a_bounded := f12, d_bounded := _, a_in_order := f13, d_in_order := _, a_BySlots_init := f14, d_BySlots_init := _, a_bound_or_none := f15, d_bound_or_none := _, a_Down_init := f16, d_Down_init := _, a_Up_init := f17, d_Up_init := _, a_read_whole := f18, d_read_whole := _, a_read_bound := f19, d_read_bound := _, a_token_of := f20, d_token_of := _, a_read_token := f21, d_read_token := _, a__law_refused := f22, d__law_refused := _, a__law_word := f23, d__law_word := _, a_law := fa, d_law := _, c_WalkError := C_WalkError, c_NoToken := C_NoToken, c_NoText := C_NoText, c_NoRow := C_NoRow, c_Token := C_Token, c_BySlots := C_BySlots, c_Up := C_Up, c_Down := C_Down, t_PLACES := tk_PLACES, t_FIGURES := tk_FIGURES, t_MOST_FIGURES := tk_MOST_FIGURES } := { F_BySlots_kind_word := F1, b_BySlots_kind_word := b1, F_Down_kind_word := F2, b_Down_kind_word := b2, F_Up_kind_word := F3, b_Up_kind_word := b3, F_shown := F4, b_shown := b4, g_shown := PySem.W.mg_of X G a4, F_Token_words := F5, b_Token_words := b5, F__law_cell_at := F6, b__law_cell_at := b6, g__law_cell_at := PySem.W.mg_of X G a6, F__law_changed := F7, b__law_changed := b7, g__law_changed := PySem.W.mg_of X G a7, F__law_value := F8, b__law_value := b8, g__law_value := PySem.W.mg_of X G a8, F__law_good := F9, b__law_good := b9, g__law_good := PySem.W.mg_of X G a9, F_Token_init := F10, b_Token_init := b10, F_is_whole := F11, b_is_whole := b11, g_is_whole := PySem.W.mg_of X G a11, F_bounded := F12, b_bounded := b12, g_bounded := PySem.W.mg_of X G a12, F_in_order := F13, b_in_order := b13, g_in_order := PySem.W.mg_of X G a13, F_BySlots_init := F14, b_BySlots_init := b14, b_BySlots_init_1 := b14_1, b_BySlots_init_2 := b14_2, F_bound_or_none := F15, b_bound_or_none := b15, g_bound_or_none := PySem.W.mg_of X G a15, F_Down_init := F16, b_Down_init := b16, b_Down_init_1 := b16_1, b_Down_init_2 := b16_2, F_Up_init := F17, b_Up_init := b17, b_Up_init_1 := b17_1, b_Up_init_2 := b17_2, F_read_whole := F18, b_read_whole := b18, g_read_whole := PySem.W.mg_of X G a18, F_read_bound := F19, b_read_bound := b19, g_read_bound := PySem.W.mg_of X G a19, F_token_of := F20, b_token_of := b20, g_token_of := PySem.W.mg_of X G a20, F_read_token := F21, b_read_token := b21, g_read_token := PySem.W.mg_of X G a21, F__law_refused := F22, b__law_refused := b22, g__law_refused := PySem.W.mg_of X G a22, F__law_word := F23, b__law_word := b23, g__law_word := PySem.W.mg_of X G a23, F_law := F24, b_law := b24, g_law := PySem.W.mg_of X G a24, g_WalkError := PySem.W.mg_of X G aC_WalkError, xc_WalkError := ⟨⟨⟨_, _, _, _, _, _, _, _, _, _, _, _, _, _, _, xL_WalkError, rfl⟩, xa_WalkError, xe_WalkError, xt_WalkError, xk_WalkError⟩, ⟨xg_WalkError, xn_WalkError, xe_WalkError, xd_WalkError, xc_WalkError, xs_WalkError, xj_WalkError, xm_WalkError⟩, xl_WalkError⟩, g_NoToken := PySem.W.mg_of X G aC_NoToken, xc_NoToken := ⟨⟨⟨_, _, _, _, _, _, _, _, _, _, _, _, _, _, _, xL_NoToken, rfl⟩, xa_NoToken, xe_NoToken, xt_NoToken, xk_NoToken⟩, ⟨xg_NoToken, xn_NoToken, xe_NoToken, xd_NoToken, xc_NoToken, xs_NoToken, xj_NoToken, xm_NoToken⟩, xl_NoToken⟩, sv_NoToken := sv_NoToken, xi_NoToken := xi_NoToken, sb_NoToken_NoText := sb_NoToken_NoText, sb_NoToken_WalkError := sb_NoToken_WalkError, sb_NoToken_NoRow := sb_NoToken_NoRow, sb_NoToken_NoToken := sb_NoToken_NoToken, g_NoText := PySem.W.mg_of X G aC_NoText, xc_NoText := ⟨⟨⟨_, _, _, _, _, _, _, _, _, _, _, _, _, _, _, xL_NoText, rfl⟩, xa_NoText, xe_NoText, xt_NoText, xk_NoText⟩, ⟨xg_NoText, xn_NoText, xe_NoText, xd_NoText, xc_NoText, xs_NoText, xj_NoText, xm_NoText⟩, xl_NoText⟩, sv_NoText := sv_NoText, xi_NoText := xi_NoText, sb_NoText_NoText := sb_NoText_NoText, sb_NoText_WalkError := sb_NoText_WalkError, sb_NoText_NoRow := sb_NoText_NoRow, sb_NoText_NoToken := sb_NoText_NoToken, g_NoRow := PySem.W.mg_of X G aC_NoRow, xc_NoRow := ⟨⟨⟨_, _, _, _, _, _, _, _, _, _, _, _, _, _, _, xL_NoRow, rfl⟩, xa_NoRow, xe_NoRow, xt_NoRow, xk_NoRow⟩, ⟨xg_NoRow, xn_NoRow, xe_NoRow, xd_NoRow, xc_NoRow, xs_NoRow, xj_NoRow, xm_NoRow⟩, xl_NoRow⟩, g_Token := PySem.W.mg_of X G aC_Token, cl_Token := ⟨pg_Token, hd_Token, po_Token, sa_Token⟩, mk_Token := ⟨mk_Token, a10, i10, kc_Token⟩, me_Token_words := ⟨a5, i5, k5⟩, na_Token_at := na_Token_at, na_Token_end := na_Token_end, g_BySlots := PySem.W.mg_of X G aC_BySlots, cl_BySlots := ⟨pg_BySlots, hd_BySlots, po_BySlots, sa_BySlots⟩, mk_BySlots := ⟨mk_BySlots, a14, i14, kc_BySlots⟩, me_BySlots_kind_word := ⟨a1, i1, k1⟩, me_BySlots_words := ⟨m_BySlots_words, i5, k5⟩, na_BySlots_at := na_BySlots_at, na_BySlots_end := na_BySlots_end, g_Up := PySem.W.mg_of X G aC_Up, cl_Up := ⟨pg_Up, hd_Up, po_Up, sa_Up⟩, mk_Up := ⟨mk_Up, a17, i17, kc_Up⟩, me_Up_kind_word := ⟨a3, i3, k3⟩, me_Up_words := ⟨m_Up_words, i5, k5⟩, na_Up_at := na_Up_at, na_Up_end := na_Up_end, g_Down := PySem.W.mg_of X G aC_Down, cl_Down := ⟨pg_Down, hd_Down, po_Down, sa_Down⟩, mk_Down := ⟨mk_Down, a16, i16, kc_Down⟩, me_Down_kind_word := ⟨a2, i2, k2⟩, me_Down_words := ⟨m_Down_words, i5, k5⟩, na_Down_at := na_Down_at, na_Down_end := na_Down_end, cr_Token := ⟨cg_Token, ca_Token⟩, ci_Token_init := ci_Token_init, k_PLACES := PySem.W.mg_of X G kk_PLACES, k_FIGURES := PySem.W.mg_of X G kk_FIGURES, k_MOST_FIGURES := PySem.W.mg_of X G kk_MOST_FIGURES, n_ValueError := PySem.W.mg_none_of X G z_ValueError, n_all := PySem.W.mg_none_of X G z_all, n_bool := PySem.W.mg_none_of X G z_bool, n_int := PySem.W.mg_none_of X G z_int, n_isinstance := PySem.W.mg_none_of X G z_isinstance, n_len := PySem.W.mg_none_of X G z_len, n_str := PySem.W.mg_none_of X G z_str }
  exact ⟨_, fun s v => .of_eq rfl, _, fun base _ _ => ok_law T⟩
theorem walk {l : PySem.W.OpenLaw} {q : Program} {loose : List Str} {XP : (Str → Option Value) → Heap → Prop} {YP : World → Heap → Prop} {d : DefRec} {K : Params → PySem.W.Frag} (hn : l.most = some 63) (hdf : d.params.defaults = [])
    (hY : ∀ (w : World) (h : Heap), YP w h → (K w.params).In h)
    (F : ∀ (w : World) (mg : Str → Option Value) (fa : Addr) (h : Heap), (K w.params).In h → h.Ns mainGlobals mg → mg d.name = some (.ref fa) →
      ∃ fd : FuncData, (∀ (s : Shared) (u : Value), BindsTo s fd ⟨[u], []⟩ [("_law_script", u)]) ∧ ∃ D : Ad, ∀ base : Heap, (K w.params).In base → base.Ns mainGlobals mg → FnOk l.prog w (K w.params) mg base (L2.CX l.prog w) 9 fa fd ["_law_script"] (sp_law (K w.params) D)) :
    PySem.W.WalkO q loose XP YP l.row.toRowW d [] (fun f vs => PySem.call f vs) :=
  L2.walk_of (n := 63) (k := 9) (x := "_law_script") (CX := fun w => L2.CX l.prog w) (sp := fun w => spEnd (K w.params)) hn (by decide) hdf ⟨rfl, by decide, by decide⟩ hY
    (fun w mg fa h a b c => by
      obtain ⟨fd, h1, D, h2⟩ := F w mg fa h a b c
      exact ⟨fd, h1, fun base x y => (h2 base x y).imp fun vs H Q E z => sp_law_end z⟩)
    (fun _ H a ns hl hO hS => ⟨.ref a, rfl, a, ns, rfl, hS, hl, fun _ => rfl⟩) fun _ _ _ _ _ z => cx_false z
end Toy
open PySem PySem.W PyProof.Rows
set_option maxRecDepth 100000 in
set_option maxHeartbeats 0 in
theorem PySem.Challenge.cw_staywalk_k63_texts_that_are_no_token_holds : PySem.Challenge.rw_staywalk_k63_texts_that_are_no_token.Holds := by
  w_on; o_law; k_head; (case hw => w_witness2)
  k_fill
  refine Toy.walk (l := PySem.Challenge.rw_staywalk_k63_texts_that_are_no_token) rfl rfl (fun w h Y => PySem.W.kIn_of Y) ?F
  case F =>
    intro w mg fa h KX G hmg
    refine' Toy.all_mk KX G hmg ?a1 ?i1 ?l1 ?c1 ?k1 ?a2 ?i2 ?l2 ?c2 ?k2 ?a3 ?i3 ?l3 ?c3 ?k3 ?a4 ?l4 ?c4 ?k4 ?a5 ?i5 ?l5 ?c5 ?k5 ?a6 ?l6 ?c6 ?k6 ?a7 ?l7 ?c7 ?k7 ?a8 ?l8 ?c8 ?k8 ?a9 ?l9 ?c9 ?k9 ?a10 ?i10 ?l10 ?c10 ?k10 ?a11 ?l11 ?c11 ?k11 ?a12 ?l12 ?c12 ?k12 ?a13 ?l13 ?c13 ?k13 ?a14 ?i14 ?l14 ?t14 ?c14 ?k14 ?a15 ?l15 ?c15 ?k15 ?a16 ?i16 ?l16 ?t16 ?c16 ?k16 ?a17 ?i17 ?l17 ?t17 ?c17 ?k17 ?a18 ?l18 ?c18 ?k18 ?a19 ?l19 ?c19 ?k19 ?a20 ?l20 ?c20 ?k20 ?a21 ?l21 ?c21 ?k21 ?a22 ?l22 ?c22 ?k22 ?a23 ?l23 ?c23 ?k23 ?a24 ?l24 ?c24 ?k24 ?aC_WalkError ?xL_WalkError ?xa_WalkError ?xe_WalkError ?xt_WalkError ?xk_WalkError ?xg_WalkError ?xn_WalkError ?xd_WalkError ?xc_WalkError ?xs_WalkError ?xj_WalkError ?xm_WalkError ?xl_WalkError ?aC_NoToken ?xL_NoToken ?xa_NoToken ?xe_NoToken ?xt_NoToken ?xk_NoToken ?xg_NoToken ?xn_NoToken ?xd_NoToken ?xc_NoToken ?xs_NoToken ?xj_NoToken ?xm_NoToken ?xl_NoToken ?sv_NoToken ?xi_NoToken ?sb_NoToken_NoText ?sb_NoToken_WalkError ?sb_NoToken_NoRow ?sb_NoToken_NoToken ?aC_NoText ?xL_NoText ?xa_NoText ?xe_NoText ?xt_NoText ?xk_NoText ?xg_NoText ?xn_NoText ?xd_NoText ?xc_NoText ?xs_NoText ?xj_NoText ?xm_NoText ?xl_NoText ?sv_NoText ?xi_NoText ?sb_NoText_NoText ?sb_NoText_WalkError ?sb_NoText_NoRow ?sb_NoText_NoToken ?aC_NoRow ?xL_NoRow ?xa_NoRow ?xe_NoRow ?xt_NoRow ?xk_NoRow ?xg_NoRow ?xn_NoRow ?xd_NoRow ?xc_NoRow ?xs_NoRow ?xj_NoRow ?xm_NoRow ?xl_NoRow ?aC_Token ?pg_Token ?hd_Token ?po_Token ?sa_Token ?mk_Token ?kc_Token ?na_Token_at ?na_Token_end ?aC_BySlots ?pg_BySlots ?hd_BySlots ?po_BySlots ?sa_BySlots ?mk_BySlots ?kc_BySlots ?m_BySlots_words ?na_BySlots_at ?na_BySlots_end ?aC_Up ?pg_Up ?hd_Up ?po_Up ?sa_Up ?mk_Up ?kc_Up ?m_Up_words ?na_Up_at ?na_Up_end ?aC_Down ?pg_Down ?hd_Down ?po_Down ?sa_Down ?mk_Down ?kc_Down ?m_Down_words ?na_Down_at ?na_Down_end ?cg_Token ?ca_Token ?ci_Token_init ?kk_PLACES ?kk_FIGURES ?kk_MOST_FIGURES ?z_ValueError ?z_all ?z_bool ?z_int ?z_isinstance ?z_len ?z_str
    (case aC_WalkError => k_is)
    (case aC_NoToken => k_is)
    (case aC_NoText => k_is)
    (case aC_NoRow => k_is)
    (case aC_Token => k_is)
    (case aC_BySlots => k_is)
    (case aC_Up => k_is)
    (case aC_Down => k_is)
    (case a1 => k_is)
    (case i1 => k_is)
    (case l1 => k_is)
    (case c1 => k_is)
    (case k1 => k_is)
    (case a2 => k_is)
    (case i2 => k_is)
    (case l2 => k_is)
    (case c2 => k_is)
    (case k2 => k_is)
    (case a3 => k_is)
    (case i3 => k_is)
    (case l3 => k_is)
    (case c3 => k_is)
    (case k3 => k_is)
    (case a4 => k_is)
    (case l4 => k_is)
    (case c4 => k_is)
    (case k4 => k_is)
    (case a5 => k_is)
    (case i5 => k_is)
    (case l5 => k_is)
    (case c5 => k_is)
    (case k5 => k_is)
    (case a6 => k_is)
    (case l6 => k_is)
    (case c6 => k_is)
    (case k6 => k_is)
    (case a7 => k_is)
    (case l7 => k_is)
    (case c7 => k_is)
    (case k7 => k_is)
    (case a8 => k_is)
    (case l8 => k_is)
    (case c8 => k_is)
    (case k8 => k_is)
    (case a9 => k_is)
    (case l9 => k_is)
    (case c9 => k_is)
    (case k9 => k_is)
    (case a10 => k_is)
    (case i10 => k_is)
    (case l10 => k_is)
    (case c10 => k_is)
    (case k10 => k_is)
    (case a11 => k_is)
    (case l11 => k_is)
    (case c11 => k_is)
    (case k11 => k_is)
    (case a12 => k_is)
    (case l12 => k_is)
    (case c12 => k_is)
    (case k12 => k_is)
    (case a13 => k_is)
    (case l13 => k_is)
    (case c13 => k_is)
    (case k13 => k_is)
    (case a14 => k_is)
    (case i14 => k_is)
    (case l14 => k_is)
    (case t14 => k_is)
    (case c14 => k_is)
    (case k14 => k_is)
    (case a15 => k_is)
    (case l15 => k_is)
    (case c15 => k_is)
    (case k15 => k_is)
    (case a16 => k_is)
    (case i16 => k_is)
    (case l16 => k_is)
    (case t16 => k_is)
    (case c16 => k_is)
    (case k16 => k_is)
    (case a17 => k_is)
    (case i17 => k_is)
    (case l17 => k_is)
    (case t17 => k_is)
    (case c17 => k_is)
    (case k17 => k_is)
    (case a18 => k_is)
    (case l18 => k_is)
    (case c18 => k_is)
    (case k18 => k_is)
    (case a19 => k_is)
    (case l19 => k_is)
    (case c19 => k_is)
    (case k19 => k_is)
    (case a20 => k_is)
    (case l20 => k_is)
    (case c20 => k_is)
    (case k20 => k_is)
    (case a21 => k_is)
    (case l21 => k_is)
    (case c21 => k_is)
    (case k21 => k_is)
    (case a22 => k_is)
    (case l22 => k_is)
    (case c22 => k_is)
    (case k22 => k_is)
    (case a23 => k_is)
    (case l23 => k_is)
    (case c23 => k_is)
    (case k23 => k_is)
    (case a24 => k_is)
    (case l24 => k_is)
    (case c24 => k_is)
    (case k24 => k_is)
    (case xL_WalkError => k_is)
    (case xa_WalkError => k_is)
    (case xe_WalkError => k_is)
    (case xt_WalkError => k_is)
    (case xk_WalkError => k_is)
    (case xg_WalkError => k_is)
    (case xn_WalkError => k_is)
    (case xd_WalkError => k_is)
    (case xc_WalkError => k_is)
    (case xs_WalkError => k_is)
    (case xj_WalkError => k_is)
    (case xm_WalkError => k_is)
    (case xl_WalkError => k_is)
    (case xL_NoToken => k_is)
    (case xa_NoToken => k_is)
    (case xe_NoToken => k_is)
    (case xt_NoToken => k_is)
    (case xk_NoToken => k_is)
    (case xg_NoToken => k_is)
    (case xn_NoToken => k_is)
    (case xd_NoToken => k_is)
    (case xc_NoToken => k_is)
    (case xs_NoToken => k_is)
    (case xj_NoToken => k_is)
    (case xm_NoToken => k_is)
    (case xl_NoToken => k_is)
    (case sv_NoToken => k_is)
    (case xi_NoToken => k_exc)
    (case sb_NoToken_NoText => k_is)
    (case sb_NoToken_WalkError => k_is)
    (case sb_NoToken_NoRow => k_is)
    (case sb_NoToken_NoToken => k_is)
    (case xL_NoText => k_is)
    (case xa_NoText => k_is)
    (case xe_NoText => k_is)
    (case xt_NoText => k_is)
    (case xk_NoText => k_is)
    (case xg_NoText => k_is)
    (case xn_NoText => k_is)
    (case xd_NoText => k_is)
    (case xc_NoText => k_is)
    (case xs_NoText => k_is)
    (case xj_NoText => k_is)
    (case xm_NoText => k_is)
    (case xl_NoText => k_is)
    (case sv_NoText => k_is)
    (case xi_NoText => k_exc)
    (case sb_NoText_NoText => k_is)
    (case sb_NoText_WalkError => k_is)
    (case sb_NoText_NoRow => k_is)
    (case sb_NoText_NoToken => k_is)
    (case xL_NoRow => k_is)
    (case xa_NoRow => k_is)
    (case xe_NoRow => k_is)
    (case xt_NoRow => k_is)
    (case xk_NoRow => k_is)
    (case xg_NoRow => k_is)
    (case xn_NoRow => k_is)
    (case xd_NoRow => k_is)
    (case xc_NoRow => k_is)
    (case xs_NoRow => k_is)
    (case xj_NoRow => k_is)
    (case xm_NoRow => k_is)
    (case xl_NoRow => k_is)
    (case pg_Token => k_is)
    (case hd_Token => k_is)
    (case po_Token => k_is)
    (case sa_Token => k_is)
    (case mk_Token => k_is)
    (case kc_Token => k_is)
    (case na_Token_at => k_is)
    (case na_Token_end => k_is)
    (case pg_BySlots => k_is)
    (case hd_BySlots => k_is)
    (case po_BySlots => k_is)
    (case sa_BySlots => k_is)
    (case mk_BySlots => k_is)
    (case kc_BySlots => k_is)
    (case m_BySlots_words => k_is)
    (case na_BySlots_at => k_is)
    (case na_BySlots_end => k_is)
    (case pg_Up => k_is)
    (case hd_Up => k_is)
    (case po_Up => k_is)
    (case sa_Up => k_is)
    (case mk_Up => k_is)
    (case kc_Up => k_is)
    (case m_Up_words => k_is)
    (case na_Up_at => k_is)
    (case na_Up_end => k_is)
    (case pg_Down => k_is)
    (case hd_Down => k_is)
    (case po_Down => k_is)
    (case sa_Down => k_is)
    (case mk_Down => k_is)
    (case kc_Down => k_is)
    (case m_Down_words => k_is)
    (case na_Down_at => k_is)
    (case na_Down_end => k_is)
    (case cg_Token => k_is)
    (case ca_Token => k_is)
    (case ci_Token_init => k_is)
    (case kk_PLACES => k_is)
    (case kk_FIGURES => k_is)
    (case kk_MOST_FIGURES => k_is)
    (case z_ValueError => k_is)
    (case z_all => k_is)
    (case z_bool => k_is)
    (case z_int => k_is)
    (case z_isinstance => k_is)
    (case z_len => k_is)
    (case z_str => k_is)
