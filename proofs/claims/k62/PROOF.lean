import PyProof.Rows.All
import Wide.All
import OpenK.AllK
import Wide.FinOn
import HandS.ForMost
import HandS.ForExc
import HandS.IsInst
import HandS.Flow
import HandS.Wide
import HandS.Style
import KE.KBits
import KE.BitLaws
import KE.KEqDict
import HandS.Iter
import HandS.SortRule
import HandS.ClsMeth
import HandS.ExcInit
import HandS.Defaults
import HandS.SortInts
import HandS.More
import HandS.ExcIs
import HandS.ExcField
import HandS.ExcOwn
import KE.KExcIs
import HandS.Text
import HandS.Walk
import KE.IntTextLaws
import KE.KIntText
import KE.KxLen
import PyProof.FitsInt
import HandS.SuiteRaise
import PySem.Challenge.RW_staywalk_k62_tokens_read_again
set_option Elab.async false
set_option linter.all false
set_option maxRecDepth 100000
set_option maxHeartbeats 4000000
/-! Z1: a small calculus over HandS: what a def may rely on is a list of cells that it owns (L) and a part that stays (B). -/
namespace Z
open PySem L2

abbrev Cell := Addr × HO
/-- B stays for ever, L is owned, both lie in H, apart -/
structure W (B : Hp) (L : List Cell) (H : Hp) : Prop where
  sub : Same B H
  has : ∀ c ∈ L, H c.1 = some c.2
  nd : (L.map (·.1)).Nodup
  out : ∀ c ∈ L, B c.1 = none
def Same' (A B : Hp) : Prop := Same A B
theorem szl {n : Nat} (h : n ≤ 100000) : n ≤ sizeLine := Nat.le_trans h (by decide)
theorem szlt {n : Nat} (h : n < 100000) : n < sizeLine := Nat.lt_of_lt_of_le h (by decide)
theorem same_refl (H : Hp) : Same H H := fun _ _ e => e
theorem same_trans {A B C : Hp} (x : Same A B) (y : Same B C) : Same A C := fun b o e => y b o (x b o e)
theorem same_new {B : Hp} {p : Addr} {o : HO} (h : B p = none) : Same B (upd B p o) := fun b u e => by
  rw [upd_ne (ne_of_none e h)]
  exact e
theorem Same.tq {K : PySem.W.Frag} {H H' : Hp} {a : Addr} {xs : List V} (e : Same H H') (h : SqT K H a xs) : SqT K H' a xs := by
  rcases h with (h | ⟨o, h⟩) | h
  · exact .inl (.inl (e _ _ h))
  · exact .inl (.inr ⟨o, e _ _ h⟩)
  · exact .inr h
theorem Same.rd {A B : Hp} {a : Addr} {o : HO} (s : Same A B) (h : A a = some o) : B a = some o := s _ _ h
theorem Same.sq {K : PySem.W.Frag} {H H' : Hp} {a : Addr} {xs : List V} (e : Same H H') (h : SqL K H a xs) : SqL K H' a xs := L2.Same.seq e h
namespace W
variable {B B' H : Hp} {L L' R : List Cell} {a p : Addr} {o o' : HO}
theorem perm (w : W B L H) (h : L.Perm L') : W B L' H :=
  ⟨w.sub, fun c hc => w.has c (h.mem_iff.mpr hc), (h.map _).nodup_iff.mp w.nd, fun c hc => w.out c (h.mem_iff.mpr hc)⟩
theorem get (w : W B L H) (h : (a, o) ∈ L) : H a = some o := w.has _ h
theorem freeB (w : W B L H) (h : H p = none) : B p = none := by
  cases e : B p with
  | none => rfl
  | some u => rw [w.sub _ _ e] at h; cases h
theorem freeL (w : W B L H) (h : H p = none) : p ∉ L.map (·.1) := fun m => by
  obtain ⟨c, hc, rfl⟩ := List.mem_map.mp m
  rw [w.has c hc] at h
  cases h
/-- a new thing that stays -/
theorem newB (w : W B L H) (h : H p = none) (o : HO) : W (upd B p o) L (upd H p o) := by
  refine ⟨fun b u e => ?_, fun c hc => ?_, w.nd, fun c hc => ?_⟩
  · by_cases q : b = p
    · subst q; rw [upd_same] at e ⊢; exact e
    · rw [upd_ne q] at e ⊢; exact w.sub _ _ e
  · have q : c.1 ≠ p := fun q => w.freeL h (List.mem_map.mpr ⟨c, hc, q⟩)
    rw [upd_ne q]; exact w.has c hc
  · have q : c.1 ≠ p := fun q => w.freeL h (List.mem_map.mpr ⟨c, hc, q⟩)
    rw [upd_ne q]; exact w.out c hc
/-- a new thing that is owned -/
theorem newL (w : W B L H) (h : H p = none) (o : HO) : W B ((p, o) :: L) (upd H p o) := by
  refine ⟨fun b u e => ?_, fun c hc => ?_, ?_, fun c hc => ?_⟩
  · rw [upd_ne (ne_of_none e (w.freeB h))]; exact w.sub _ _ e
  · rcases List.mem_cons.mp hc with rfl | hc
    · exact upd_same
    · have q : c.1 ≠ p := fun q => w.freeL h (List.mem_map.mpr ⟨c, hc, q⟩)
      rw [upd_ne q]; exact w.has c hc
  · exact List.nodup_cons.mpr ⟨w.freeL h, w.nd⟩
  · rcases List.mem_cons.mp hc with rfl | hc
    · exact w.freeB h
    · exact w.out c hc
/-- an owned thing stays from now on -/
theorem give (w : W B ((p, o) :: L) H) : W (upd B p o) L H := by
  have n := List.nodup_cons.mp w.nd
  refine ⟨fun b u e => ?_, fun c hc => w.has c (List.mem_cons_of_mem _ hc), n.2, fun c hc => ?_⟩
  · by_cases q : b = p
    · subst q; rw [upd_same] at e; cases e; exact w.has _ (List.mem_cons_self ..)
    · rw [upd_ne q] at e; exact w.sub _ _ e
  · have q : c.1 ≠ p := fun q => n.1 (List.mem_map.mpr ⟨c, hc, q⟩)
    rw [upd_ne q]; exact w.out c (List.mem_cons_of_mem _ hc)
/-- owned things stay from now on -/
theorem giveAll : ∀ {A : List Cell} {B : Hp}, W B (A ++ L) H → ∃ B', Same B B' ∧ (∀ c ∈ A, B' c.1 = some c.2) ∧ W B' L H
  | [], B, w => ⟨B, same_refl B, fun c h => (nomatch h), w⟩
  | (p, o) :: A, B, w => by
    have h0 := w.out (p, o) (List.mem_cons_self ..)
    obtain ⟨B', s, h, w'⟩ := giveAll (A := A) w.give
    refine ⟨B', same_trans (same_new h0) s, fun c hc => ?_, w'⟩
    rcases List.mem_cons.mp hc with rfl | hc
    · exact s _ _ upd_same
    · exact h c hc
theorem drop (w : W B (L ++ R) H) : W B R H :=
  ⟨w.sub, fun c hc => w.has c (List.mem_append_right _ hc), by have n := w.nd; rw [List.map_append] at n; exact (List.nodup_append.mp n).2.1, fun c hc => w.out c (List.mem_append_right _ hc)⟩
theorem drop1 (w : W B ((p, o) :: L) H) : W B L H := W.drop (L := [(p, o)]) w
theorem outB (w : W B L H) (h : (a, o) ∈ L) : B a = none := w.out _ h
/-- an owned thing is written -/
theorem put (w : W B (L ++ (a, o) :: R) H) (o' : HO) : W B (L ++ (a, o') :: R) (upd H a o') := by
  have n := w.nd
  rw [List.map_append, List.map_cons] at n
  have n1 := List.nodup_append.mp n
  have n2 := List.nodup_cons.mp n1.2.1
  have ha : ∀ c ∈ L ++ R, c.1 ≠ a := fun c hc q => by
    rcases List.mem_append.mp hc with hc | hc
    · exact n1.2.2 _ (List.mem_map.mpr ⟨c, hc, rfl⟩) _ (List.mem_cons_self ..) q
    · exact n2.1 (List.mem_map.mpr ⟨c, hc, q⟩)
  have hm : ∀ c ∈ L ++ (a, o') :: R, c = (a, o') ∨ c ∈ L ++ R := fun c hc => by
    rcases List.mem_append.mp hc with hc | hc
    · exact .inr (List.mem_append_left _ hc)
    · rcases List.mem_cons.mp hc with hc | hc
      · exact .inl hc
      · exact .inr (List.mem_append_right _ hc)
  have hi : ∀ c ∈ L ++ R, c ∈ L ++ (a, o) :: R := fun c hc => by
    rcases List.mem_append.mp hc with hc | hc
    · exact List.mem_append_left _ hc
    · exact List.mem_append_right _ (List.mem_cons_of_mem _ hc)
  have h0 : B a = none := w.out (a, o) (List.mem_append_right _ (List.mem_cons_self ..))
  refine ⟨fun b u e => ?_, fun c hc => ?_, ?_, fun c hc => ?_⟩
  · rw [upd_ne (ne_of_none e h0)]; exact w.sub _ _ e
  · rcases hm c hc with rfl | hc
    · exact upd_same
    · rw [upd_ne (ha c hc)]; exact w.has c (hi c hc)
  · rw [List.map_append, List.map_cons]; exact n
  · rcases hm c hc with rfl | hc
    · exact h0
    · exact w.out c (hi c hc)
theorem put0 (w : W B ((a, o) :: R) H) (o' : HO) : W B ((a, o') :: R) (upd H a o') := put (L := []) w o'
theorem put1 {c1 : Cell} (w : W B (c1 :: (a, o) :: R) H) (o' : HO) : W B (c1 :: (a, o') :: R) (upd H a o') := put (L := [c1]) w o'
theorem put2 {c1 c2 : Cell} (w : W B (c1 :: c2 :: (a, o) :: R) H) (o' : HO) : W B (c1 :: c2 :: (a, o') :: R) (upd H a o') := put (L := [c1, c2]) w o'
theorem put3 {c1 c2 c3 : Cell} (w : W B (c1 :: c2 :: c3 :: (a, o) :: R) H) (o' : HO) : W B (c1 :: c2 :: c3 :: (a, o') :: R) (upd H a o') := put (L := [c1, c2, c3]) w o'
theorem seq {K : PySem.W.Frag} {xs : List V} (w : W B L H) (h : SqL K B a xs) : SqL K H a xs := Same.seq w.sub h
theorem rd (w : W B L H) (h : B a = some o) : H a = some o := w.sub _ _ h
theorem sq {K : PySem.W.Frag} {xs : List V} (w : W B L H) (h : SqL K B a xs) : SqL K H a xs := L2.Same.seq w.sub h
theorem tq {K : PySem.W.Frag} {xs : List V} (w : W B L H) (h : SqT K B a xs) : SqT K H a xs := Z.Same.tq w.sub h
theorem law {K : PySem.W.Frag} {a : Addr} {xs : List V} (h : SqL K H a xs) : ∃ B, SqL K B a xs ∧ W B [] H := ⟨H, h, ⟨same_refl H, by simp, by simp, by simp⟩⟩
theorem nil (H : Hp) : W H [] H := ⟨same_refl H, by simp, by simp, by simp⟩
end W
/-! ### readings, step by step -/
def Br (b : Bool) (A C : Prop) : Prop := if b = true then A else C
def rTst (x : V) (H : Hp) (Q : Bool → Hp → Prop) : Prop := ∃ k, x = .bl k ∧ Q k H
section
variable {K : PySem.W.Frag} {σ : L2.St} {H : Hp} {D : Ends} {t u tb : TS} {te ta tx tc : TE} {tt tu tw : TT} {Q : VK} {R : Bool → Hp → Prop} {v x y : V} {b : Bool} {A C : Prop} {i : Nat} {g : TG} {r r' : R2}
theorem g_seq (h : t { D with nx := u D } σ H) : tSeq t u D σ H := h
theorem g_next (h : D.nx σ H) : tNext D σ H := h
theorem g_brk (h : D.bk σ H) : tBreak D σ H := h
theorem g_cont (h : D.ct σ H) : tCont D σ H := h
theorem g_asg (h : te σ H fun x H1 => g x σ H1 D.nx) : tAsg te g D σ H := h
theorem g_name {Q : L2.St → Hp → Prop} (h : Q (σ.set i (some v)) H) : gName i v σ H Q := h
theorem g_dropE (h : te σ H fun _ H1 => D.nx σ H1) : tDrop te D σ H := h
theorem g_ret (h : te σ H D.rt) : tRet te D σ H := h
theorem g_retN (h : D.rt .non H) : tRetN D σ H := h
theorem g_ifS (h : tt σ H fun b H1 => Br b (t D σ H1) (u D σ H1)) : tIfS tt t u D σ H := h
theorem g_ifJ (J : L2.St → Hp → Prop) (hJ : ∀ σ' H', J σ' H' → D.nx σ' H') (h : ∀ N : L2.St → Hp → Prop, (∀ σ' H', J σ' H' → N σ' H') → tt σ H fun b H1 => Br b (t { D with nx := N } σ H1) (u { D with nx := N } σ H1)) : tIfS tt t u D σ H := h D.nx hJ
theorem g_test (h : te σ H fun x H1 => rTst x H1 R) : tTest te σ H R := h
theorem g_tB (h : te σ H fun x H1 => rTst x H1 R) : tB te σ H R := h
theorem g_tst (h : R b H) : rTst (.bl b) H R := ⟨b, rfl, h⟩
theorem g_and (h : tt σ H fun b H1 => Br b (tu σ H1 R) (R false H1)) : tAnd tt tu σ H R := h
theorem g_or (h : tt σ H fun b H1 => Br b (R true H1) (tu σ H1 R)) : tOr tt tu σ H R := h
theorem g_not (h : tt σ H fun b H1 => R (!b) H1) : tNot tt σ H R := h
theorem g_andV (h : te σ H fun x H1 => rTst x H1 fun b H1 => Br b (tx σ H1 Q) (Q (.bl false) H1)) : tAndV te tx σ H Q := h
theorem g_orV (h : te σ H fun x H1 => rTst x H1 fun b H1 => Br b (Q (.bl true) H1) (tx σ H1 Q)) : tOrV te tx σ H Q := h
theorem g_notV (h : te σ H fun x H1 => rTst x H1 fun b H1 => Q (.bl (!b)) H1) : tNotV te σ H Q := h
theorem g_if (h : tt σ H fun b H1 => Br b (te σ H1 Q) (tx σ H1 Q)) : tIf tt te tx σ H Q := h
theorem g_yes (h : R true H) : tYes σ H R := h
theorem g_var (e : σ[i]? = some (some v)) (h : Q v H) : tVar i σ H Q := ⟨v, e, h⟩
theorem g_c (h : Q v H) : tC v σ H Q := h
theorem g_op (h : ta σ H fun x H1 => tx σ H1 fun y H2 => r x y H2 Q) : tOp r ta tx σ H Q := h
theorem g_un {r : V → Hp → VK → Prop} (h : ta σ H fun x H1 => r x H1 Q) : tUn r ta σ H Q := h
theorem g_chain (h : ta σ H fun x H1 => tx σ H1 fun y H2 => r x y H2 fun z H3 => rTst z H3 fun k H4 => Br k (tc σ H4 fun w' H4 => r' y w' H4 Q) (Q (.bl false) H4)) : tChain r r' ta tx tc σ H Q := h
theorem g_cb {r : List V → Hp → VK → Prop} {t : TA} (h : t σ H fun vs H1 => r vs H1 Q) : tCB r t σ H Q := h
theorem g_nil {Q : List V → Hp → Prop} (h : Q [] H) : tNil σ H Q := h
theorem g_cons {tr : TA} {Q : List V → Hp → Prop} (h : te σ H fun x H1 => tr σ H1 fun xs H2 => Q (x :: xs) H2) : tCons te tr σ H Q := h
theorem g_call {sp : Sp} {dvs : List V} {E : XK} {t : TA} (h : t σ H fun vs H1 => sp (vs ++ dvs) H1 Q E) : tCall sp dvs E t σ H Q := h
theorem g_aug {ti : TIp} (e : σ[i]? = some (some v)) (h : te σ H fun y H1 => ti v y H1 fun z H2 => D.nx (σ.set i (some z)) H2) : tAug i te ti D σ H := ⟨v, e, h⟩
theorem g_ip {f : Int → Int → Int} {m n : Int} (h : Q (.int (f m n)) H) : ipI f (.int m) (.int n) H Q := ⟨m, n, rfl, rfl, h⟩
theorem r_I {Cc : Int → Int → Prop} {gg : Int → Int → V} {m n : Int} (c : Cc m n) (h : Q (gg m n) H) : rI Cc gg (.int m) (.int n) H Q := ⟨m, n, rfl, rfl, c, h⟩
theorem r_I0 {gg : Int → Int → V} {m n : Int} (h : Q (gg m n) H) : rI0 gg (.int m) (.int n) H Q := ⟨m, n, rfl, rfl, h⟩
theorem r_U {gg : Int → V} {m : Int} (h : Q (gg m) H) : rU gg (.int m) H Q := ⟨m, rfl, h⟩
theorem dec_ii {m n : Int} : decide (V.int m = V.int n) = decide (m = n) := by simp
theorem dec_bb {m n : Bool} : decide (V.bl m = V.bl n) = decide (m = n) := by simp
theorem dec_ss {m n : Str} : decide (V.str m = V.str n) = decide (m = n) := by simp
theorem r_eqI {m n : Int} (h : Q (.bl (decide (m = n))) H) : rEq (.int m) (.int n) H Q := ⟨rfl, by rw [dec_ii]; exact h⟩
theorem r_neI {m n : Int} (h : Q (.bl (!decide (m = n))) H) : rNe (.int m) (.int n) H Q := ⟨rfl, by rw [dec_ii]; exact h⟩
theorem r_eqB {m n : Bool} (h : Q (.bl (decide (m = n))) H) : rEq (.bl m) (.bl n) H Q := ⟨rfl, by rw [dec_bb]; exact h⟩
theorem r_neB {m n : Bool} (h : Q (.bl (!decide (m = n))) H) : rNe (.bl m) (.bl n) H Q := ⟨rfl, by rw [dec_bb]; exact h⟩
theorem r_eqS {m n : Str} (h : Q (.bl (decide (m = n))) H) : rEq (.str m) (.str n) H Q := ⟨rfl, by rw [dec_ss]; exact h⟩
theorem r_neS {m n : Str} (h : Q (.bl (!decide (m = n))) H) : rNe (.str m) (.str n) H Q := ⟨rfl, by rw [dec_ss]; exact h⟩
def rTupN (Q : VK) (xs : List V) (H1 : Hp) : Prop := xs.length ≤ sizeLine ∧ ∀ p, H1 p = none → Q (.ref p) (upd H1 p (.tup xs))
def rLstN (Q : VK) (xs : List V) (H1 : Hp) : Prop := xs.length ≤ sizeLine ∧ ∀ p, H1 p = none → Q (.ref p) (upd H1 p (.lst xs))
theorem r_isB {m n : Bool} (h : Q (.bl (decide (m = n))) H) : rIsB (.bl m) (.bl n) H Q := ⟨m, n, rfl, rfl, h⟩
theorem r_notB {m n : Bool} (h : Q (.bl (!decide (m = n))) H) : rNotB (.bl m) (.bl n) H Q := ⟨m, n, rfl, rfl, h⟩
theorem r_tup {ta : TA} (h : ta σ H (rTupN Q)) : tTup ta σ H Q := h
theorem r_lst {ta : TA} (h : ta σ H (rLstN Q)) : tLst ta σ H Q := h
/-! new things that stay -/
section
variable {B : Hp} {L : List Cell} {xs ys : List V}
theorem d_tup (w : W B L H) (hl : xs.length ≤ sizeLine) (q : ∀ p B' H', H p = none → Same B B' → B' p = some (.tup xs) → W B' L H' → Q (.ref p) H') : rTupN Q xs H :=
  ⟨hl, fun p hp => q p _ _ hp (same_new (w.freeB hp)) upd_same (w.newB hp _)⟩
theorem d_lst (w : W B L H) (hl : xs.length ≤ sizeLine) (q : ∀ p B' H', H p = none → Same B B' → B' p = some (.lst xs) → W B' L H' → Q (.ref p) H') : rLstN Q xs H :=
  ⟨hl, fun p hp => q p _ _ hp (same_new (w.freeB hp)) upd_same (w.newB hp _)⟩
theorem d_dnew (w : W B L H) (q : ∀ p B' H', H p = none → Same B B' → B' p = some (.dK []) → W B' L H' → Q (.ref p) H') : tDNewK σ H Q :=
  fun p hp => q p _ _ hp (same_new (w.freeB hp)) upd_same (w.newB hp _)
theorem d_cat {a b : Addr} (w : W B L H) (h1 : H a = some (.lst xs)) (h2 : H b = some (.lst ys)) (hl : xs.length + ys.length ≤ sizeLine)
    (q : ∀ p B' H', H p = none → Same B B' → B' p = some (.lst (xs ++ ys)) → W B' L H' → Q (.ref p) H') : rCat (.ref a) (.ref b) H Q :=
  ⟨a, b, xs, ys, rfl, rfl, h1, h2, hl, fun p hp => q p _ _ hp (same_new (w.freeB hp)) upd_same (w.newB hp _)⟩
theorem d_slL {a : Addr} {lo hi : Option Int} (w : W B L H) (h : SqL K H a xs) (q : ∀ p B' H', H p = none → Same B B' → B' p = some (.lst (cutV xs lo hi)) → W B' L H' → Q (.ref p) H') : rSlL K (.ref a) lo hi H Q :=
  ⟨a, xs, rfl, h, fun p hp => q p _ _ hp (same_new (w.freeB hp)) upd_same (w.newB hp _)⟩
/-! new things that are owned -/
theorem o_lst (w : W B L H) (hl : xs.length ≤ sizeLine) (q : ∀ p H', H p = none → W B ((p, .lst xs) :: L) H' → Q (.ref p) H') : rLstN Q xs H :=
  ⟨hl, fun p hp => q p _ hp (w.newL hp _)⟩
theorem o_dnew (w : W B L H) (q : ∀ p H', H p = none → W B ((p, .dK []) :: L) H' → Q (.ref p) H') : tDNewK σ H Q :=
  fun p hp => q p _ hp (w.newL hp _)
end
section
variable {r1 r2 r3 r4 : R2} {t1 t2 t3 t4 t5 : TE}
end
/-! branches -/
theorem br {p : Prop} [Decidable p] (h1 : p → A) (h2 : ¬ p → C) : Br (decide p) A C := by
  unfold Br
  by_cases h : p
  · rw [if_pos (decide_eq_true h)]; exact h1 h
  · rw [if_neg (by simp [h])]; exact h2 h
theorem brN {p : Prop} [Decidable p] (h1 : ¬ p → A) (h2 : p → C) : Br (!decide p) A C := by
  unfold Br
  by_cases h : p
  · rw [if_neg (by simp [h])]; exact h2 h
  · rw [if_pos (by simp [h])]; exact h1 h
theorem br_pt {p : Prop} [Decidable p] (c : p) (h : A) : Br (decide p) A C := br (fun _ => h) fun n => (n c).elim
theorem br_pf {p : Prop} [Decidable p] (c : ¬ p) (h : C) : Br (decide p) A C := br (fun n => (c n).elim) fun _ => h
theorem br_nt {p : Prop} [Decidable p] (c : ¬ p) (h : A) : Br (!decide p) A C := brN (fun _ => h) fun n => (c n).elim
theorem br_nf {p : Prop} [Decidable p] (c : p) (h : C) : Br (!decide p) A C := brN (fun n => (n c).elim) fun _ => h
theorem brB (h1 : b = true → A) (h2 : b = false → C) : Br b A C := by
  unfold Br
  cases b
  · rw [if_neg (by simp)]; exact h2 rfl
  · rw [if_pos rfl]; exact h1 rfl
theorem brBN (h1 : b = false → A) (h2 : b = true → C) : Br (!b) A C := by
  cases b
  · exact brB (fun _ => h1 rfl) (fun z => nomatch z)
  · exact brB (fun z => nomatch z) (fun _ => h2 rfl)
theorem brT (h : A) : Br true A C := by unfold Br; rw [if_pos rfl]; exact h
theorem brF (h : C) : Br false A C := by unfold Br; rw [if_neg (by simp)]; exact h
theorem br_rn {p : Addr} (h : C) : Br (decide (V.ref p = V.non)) A C := br_pf nofun h
theorem br_in {n : Int} (h : C) : Br (decide (V.int n = V.non)) A C := br_pf nofun h
theorem br_sn {n : Str} (h : C) : Br (decide (V.str n = V.non)) A C := br_pf nofun h
theorem br_nn (h : A) : Br (decide (V.non = V.non)) A C := br_pt rfl h
theorem brN_rn {p : Addr} (h : A) : Br (!decide (V.ref p = V.non)) A C := br_nt nofun h
theorem brN_in {n : Int} (h : A) : Br (!decide (V.int n = V.non)) A C := br_nt nofun h
theorem brN_sn {n : Str} (h : A) : Br (!decide (V.str n = V.non)) A C := br_nt nofun h
theorem brN_nn (h : C) : Br (!decide (V.non = V.non)) A C := br_nf rfl h
theorem brNT (h : C) : Br (!true) A C := brF h
theorem brNF (h : A) : Br (!false) A C := brT h
theorem br_t (e : b = true) (h : A) : Br b A C := by rw [e]; exact brT h
theorem br_f (e : b = false) (h : C) : Br b A C := by rw [e]; exact brF h
end
/-! ### loops, by the turn -/
def FOR (J : It) (g : TG) (tb : TS) (D : Ends) (σ : L2.St) (H1 : Hp) : Prop := ∃ W : Nat → Nat → L2.St → Hp → Prop, (∃ m, W 0 m σ H1) ∧ ∀ i m σ H, W i m σ H →
  (J.stop i H ∧ D.nx σ H) ∨ (J.go i H ∧ ∃ N : L2.St → Hp → Prop, (∀ σ' H', N σ' H' → ∃ m', m' < m ∧ W (i + 1) m' σ' H') ∧ ∀ x H', J.yld i H x H' → g x σ H' fun σ2 H2 => tb { D with nx := N, ct := N, bk := D.nx } σ2 H2)
section
variable {K : PySem.W.Frag} {σ : L2.St} {H : Hp} {D : Ends} {tb : TS} {g : TG} {wi : TI} {R : It → Hp → Prop}
theorem g_for (h : wi σ H fun J H1 => FOR J g tb D σ H1) : tFor wi g tb D σ H := h
def rRng1 (R : It → Hp → Prop) (vs : List V) (H1 : Hp) : Prop := ∃ j : Int, vs = [.int j] ∧ -(2 ^ 62) ≤ j ∧ j < 2 ^ 62 ∧ R (Itr 0 j.toNat) H1
def rRng2 (R : It → Hp → Prop) (vs : List V) (H1 : Hp) : Prop := ∃ i j : Int, vs = [.int i, .int j] ∧ (-(2 ^ 62) ≤ i ∧ i < 2 ^ 62 ∧ -(2 ^ 62) ≤ j ∧ j < 2 ^ 62) ∧ R (Itr i (j - i).toNat) H1
def rIl (K : PySem.W.Frag) (R : It → Hp → Prop) (x : V) (H1 : Hp) : Prop := ∃ a, x = .ref a ∧ (∃ xs, SqL K H1 a xs) ∧ R (Itl K a) H1
def rIt (K : PySem.W.Frag) (R : It → Hp → Prop) (x : V) (H1 : Hp) : Prop := ∃ a, x = .ref a ∧ (∃ xs, SqT K H1 a xs) ∧ R (Itt K a) H1
theorem g_rng1 {ta : TA} (h : ta σ H (rRng1 R)) : iRng1 ta σ H R := h
theorem g_rng2 {ta : TA} (h : ta σ H (rRng2 R)) : iRng2 ta σ H R := h
theorem g_ilist {tl : TE} (h : tl σ H (rIl K R)) : iList K tl σ H R := h
theorem g_itup {tl : TE} (h : tl σ H (rIt K R)) : iTup K tl σ H R := h
theorem r_rng1 {m : Int} (h : -(2 ^ 62) ≤ m ∧ m < 2 ^ 62) (q : R (Itr 0 m.toNat) H) : rRng1 R [.int m] H := ⟨m, rfl, h.1, h.2, q⟩
theorem r_rng2 {i j : Int} (h : -(2 ^ 62) ≤ i ∧ i < 2 ^ 62 ∧ -(2 ^ 62) ≤ j ∧ j < 2 ^ 62) (q : R (Itr i (j - i).toNat) H) : rRng2 R [.int i, .int j] H := ⟨i, j, rfl, h, q⟩
theorem r_il {a : Addr} {xs : List V} (h : SqL K H a xs) (q : R (Itl K a) H) : rIl K R (.ref a) H := ⟨a, rfl, ⟨xs, h⟩, q⟩
theorem r_it {a : Addr} {xs : List V} (h : SqT K H a xs) (q : R (Itt K a) H) : rIt K R (.ref a) H := ⟨a, rfl, ⟨xs, h⟩, q⟩
/-- a loop over lo, lo + 1, .. -/
theorem FOR.range {lo : Int} {n : Nat} (Pv : Nat → L2.St → Hp → Prop) (h0 : Pv 0 σ H)
    (hs : ∀ i σ H, i < n → Pv i σ H → g (.int (lo + i)) σ H fun σ2 H2 => tb { D with nx := Pv (i + 1), ct := Pv (i + 1), bk := D.nx } σ2 H2) (hd : ∀ σ H, Pv n σ H → D.nx σ H) : FOR (Itr lo n) g tb D σ H :=
  for_range Pv h0 hs hd
theorem FOR.list {a : Addr} {xs : List V} (Pv : Nat → L2.St → Hp → Prop) (h0 : Pv 0 σ H) (hl : ∀ i σ H, i ≤ xs.length → Pv i σ H → SqL K H a xs)
    (hs : ∀ i x σ H, xs[i]? = some x → Pv i σ H → g x σ H fun σ2 H2 => tb { D with nx := Pv (i + 1), ct := Pv (i + 1), bk := D.nx } σ2 H2) (hd : ∀ σ H, Pv xs.length σ H → D.nx σ H) : FOR (Itl K a) g tb D σ H :=
  for_list Pv h0 hl hs hd
/-- .. both ways out (the end, a break) by one word J -/
theorem FOR.listJ {a : Addr} {xs : List V} (J : L2.St → Hp → Prop) (hJ : ∀ σ H, J σ H → D.nx σ H) (Pv : Nat → L2.St → Hp → Prop) (h0 : Pv 0 σ H) (hl : ∀ i σ H, i ≤ xs.length → Pv i σ H → SqL K H a xs)
    (hs : ∀ N : L2.St → Hp → Prop, (∀ σ' H', J σ' H' → N σ' H') → ∀ i x σ H, xs[i]? = some x → Pv i σ H → g x σ H fun σ2 H2 => tb { D with nx := Pv (i + 1), ct := Pv (i + 1), bk := N } σ2 H2) (hd : ∀ σ H, Pv xs.length σ H → J σ H) : FOR (Itl K a) g tb D σ H :=
  FOR.list (K := K) Pv h0 hl (hs D.nx hJ) fun σ H p => hJ _ _ (hd σ H p)
theorem FOR.tup {a : Addr} {xs : List V} (Pv : Nat → L2.St → Hp → Prop) (h0 : Pv 0 σ H) (hl : ∀ i σ H, i ≤ xs.length → Pv i σ H → SqT K H a xs)
    (hs : ∀ i x σ H, xs[i]? = some x → Pv i σ H → g x σ H fun σ2 H2 => tb { D with nx := Pv (i + 1), ct := Pv (i + 1), bk := D.nx } σ2 H2) (hd : ∀ σ H, Pv xs.length σ H → D.nx σ H) : FOR (Itt K a) g tb D σ H :=
  for_tup Pv h0 hl hs hd
end
def LC (J : It) (D : Addr) (g : TG) (tt : TT) (te : TE) (vs : List Nat) (σ : L2.St) (H1 : Hp) (Q : VK) : Prop := ∃ W : Nat → Nat → Hp → Prop, (∃ m, W 0 m (upd H1 D (.lst []))) ∧ ∀ i m H, W i m H →
  (J.stop i H ∧ Q (.ref D) H) ∨ (J.go i H ∧ ∃ Nx : Hp → Prop, (∀ H', Nx H' → ∃ m', m' < m ∧ W (i + 1) m' H') ∧ ∀ x H', J.yld i H x H' → g x (wipe σ vs) H' fun σ2 H2 => wipe σ2 vs = wipe σ vs ∧ tt σ2 H2 fun b H3 =>
    if b = true then te σ2 H3 fun y H4 => ∃ acc, H4 D = some (.lst acc) ∧ acc.length < sizeLine ∧ Nx (upd H4 D (.lst (acc ++ [y]))) else Nx H3)
/-- what an element's making asks: the items so far stand at D, one more comes -/
def rAcc (D : Addr) (Nx : Hp → Prop) (y : V) (H4 : Hp) : Prop := ∃ acc, H4 D = some (.lst acc) ∧ acc.length < sizeLine ∧ Nx (upd H4 D (.lst (acc ++ [y])))
theorem g_lc {wi : TI} {g : TG} {tt : TT} {te : TE} {vs : List Nat} {σ : L2.St} {H : Hp} {Q : VK} (h : wi σ H fun J H1 => ∀ D, H1 D = none → LC J D g tt te vs σ H1 Q) : tLc wi g tt te vs σ H Q := h
section
variable {K : PySem.W.Frag} {B H H1 : Hp} {L : List Cell} {D : Addr} {Q : VK} {g : TG} {tt : TT} {te : TE} {vs : List Nat} {σ : L2.St} {acc : List V} {y : V} {Nx : Hp → Prop}
theorem r_acc (w : W B ((D, .lst acc) :: L) H) (hl : acc.length < sizeLine) (h : ∀ H', W B ((D, .lst (acc ++ [y])) :: L) H' → Nx H') : rAcc D Nx y H :=
  ⟨acc, w.has _ (List.mem_cons_self ..), hl, h _ (w.put0 _)⟩
/-- a comprehension over a list of what stays: Pv i B acc, what the first i items have given -/
theorem LC.list {a : Addr} {xs : List V} (w : W B L H1) (hD : H1 D = none) (hx : SqL K B a xs) (hlen : xs.length < sizeLine) (Pv : Nat → Hp → List V → Prop) (h0 : Pv 0 B [])
    (hs : ∀ i x B' acc H (Nx : Hp → Prop), xs[i]? = some x → Same B B' → W B' ((D, .lst acc) :: L) H → Pv i B' acc → acc.length ≤ i → acc.length < sizeLine →
      (∀ B'' acc' H', Same B' B'' → W B'' ((D, .lst acc') :: L) H' → Pv (i + 1) B'' acc' → acc'.length ≤ i + 1 → Nx H') →
      g x (wipe σ vs) H fun σ2 H2 => wipe σ2 vs = wipe σ vs ∧ tt σ2 H2 fun b H3 => Br b (te σ2 H3 (rAcc D Nx)) (Nx H3))
    (hd : ∀ B' B'' acc H, Same B B'' → Same' B' B'' → B'' D = some (.lst acc) → W B'' L H → Pv xs.length B' acc → acc.length ≤ xs.length → Q (.ref D) H) : LC (Itl K a) D g tt te vs σ H1 Q := by
  refine lc_list (K := K) (a := a) (xs := xs) (fun i H => ∃ B' acc, Same B B' ∧ W B' ((D, .lst acc) :: L) H ∧ Pv i B' acc ∧ acc.length ≤ i) ⟨B, [], same_refl B, w.newL hD _, h0, Nat.le_refl _⟩
    (fun i H _ ⟨B', acc, s, w', _⟩ => Same.seq (same_trans s w'.sub) hx) ?_ (fun H ⟨B', acc, s, w', p, l⟩ => hd B' _ acc H (same_trans s (same_new (w'.out _ (List.mem_cons_self ..)))) (same_new (w'.out _ (List.mem_cons_self ..))) upd_same w'.give p l)
  rintro i x H hi ⟨B', acc, s, w', p, l⟩
  have hil := (List.getElem?_eq_some_iff.mp hi).1
  exact hs i x B' acc H _ hi s w' p l (by omega) fun B'' acc' H' s' w'' p' l' => ⟨B'', acc', same_trans s s', w'', p', l'⟩
theorem LC.range {lo : Int} {n : Nat} (w : W B L H1) (hD : H1 D = none) (hlen : n < sizeLine) (Pv : Nat → Hp → List V → Prop) (h0 : Pv 0 B [])
    (hs : ∀ (i : Nat) B' acc H (Nx : Hp → Prop), i < n → Same B B' → W B' ((D, .lst acc) :: L) H → Pv i B' acc → acc.length ≤ i → acc.length < sizeLine →
      (∀ B'' acc' H', Same B' B'' → W B'' ((D, .lst acc') :: L) H' → Pv (i + 1) B'' acc' → acc'.length ≤ i + 1 → Nx H') →
      g (.int (lo + i)) (wipe σ vs) H fun σ2 H2 => wipe σ2 vs = wipe σ vs ∧ tt σ2 H2 fun b H3 => Br b (te σ2 H3 (rAcc D Nx)) (Nx H3))
    (hd : ∀ B' B'' acc H, Same B B'' → Same' B' B'' → B'' D = some (.lst acc) → W B'' L H → Pv n B' acc → acc.length ≤ n → Q (.ref D) H) : LC (Itr lo n) D g tt te vs σ H1 Q := by
  refine lc_range (lo := lo) (n := n) (fun i H => ∃ B' acc, Same B B' ∧ W B' ((D, .lst acc) :: L) H ∧ Pv i B' acc ∧ acc.length ≤ i) ⟨B, [], same_refl B, w.newL hD _, h0, Nat.le_refl _⟩
    ?_ (fun H ⟨B', acc, s, w', p, l⟩ => hd B' _ acc H (same_trans s (same_new (w'.out _ (List.mem_cons_self ..)))) (same_new (w'.out _ (List.mem_cons_self ..))) upd_same w'.give p l)
  rintro i H hi ⟨B', acc, s, w', p, l⟩
  exact hs i B' acc H _ hi s w' p l (by omega) fun B'' acc' H' s' w'' p' l' => ⟨B'', acc', same_trans s s', w'', p', l'⟩
end
section
variable {K : PySem.W.Frag} {B H H1 : Hp} {L : List Cell} {D : Addr} {Q : VK} {g : TG} {tt : TT} {te : TE} {vs : List Nat} {σ : L2.St} {acc : List V} {y : V} {Nx : Hp → Prop}
/-- a comprehension over a list, owned or not; what it makes may be owned, too (A) -/
theorem LC.listA {a : Addr} {xs : List V} (w : W B L H1) (hD : H1 D = none) (hx : ∀ B' A acc H, Same B B' → W B' ((D, .lst acc) :: (A ++ L)) H → SqL K H a xs) (hlen : xs.length < sizeLine) (Pv : Nat → Hp → List Cell → List V → Prop) (h0 : Pv 0 B [] [])
    (hs : ∀ i x B' A acc H (Nx : Hp → Prop), xs[i]? = some x → Same B B' → W B' ((D, .lst acc) :: (A ++ L)) H → Pv i B' A acc → acc.length ≤ i → acc.length < sizeLine →
      (∀ B'' A' acc' H', Same B' B'' → W B'' ((D, .lst acc') :: (A' ++ L)) H' → Pv (i + 1) B'' A' acc' → acc'.length ≤ i + 1 → Nx H') →
      g x (wipe σ vs) H fun σ2 H2 => wipe σ2 vs = wipe σ vs ∧ tt σ2 H2 fun b H3 => Br b (te σ2 H3 (rAcc D Nx)) (Nx H3))
    (hd : ∀ B' A acc H, Same B B' → W B' ((D, .lst acc) :: (A ++ L)) H → Pv xs.length B' A acc → acc.length ≤ xs.length → Q (.ref D) H) : LC (Itl K a) D g tt te vs σ H1 Q := by
  refine lc_list (K := K) (a := a) (xs := xs) (fun i H => ∃ B' A acc, Same B B' ∧ W B' ((D, .lst acc) :: (A ++ L)) H ∧ Pv i B' A acc ∧ acc.length ≤ i) ⟨B, [], [], same_refl B, w.newL hD _, h0, Nat.le_refl _⟩
    (fun i H _ ⟨B', A, acc, s, w', _⟩ => hx B' A acc H s w') ?_ (fun H ⟨B', A, acc, s, w', p, l⟩ => hd B' A acc H s w' p l)
  rintro i x H hi ⟨B', A, acc, s, w', p, l⟩
  have hil := (List.getElem?_eq_some_iff.mp hi).1
  exact hs i x B' A acc H _ hi s w' p l (by omega) fun B'' A' acc' H' s' w'' p' l' => ⟨B'', A', acc', same_trans s s', w'', p', l'⟩
end
/-! ### slices, subscripts -/
def rPart (Q : Option Int → Hp → Prop) (x : V) (H : Hp) : Prop := ∃ i, x = .int i ∧ Q (some i) H
section
variable {K : PySem.W.Frag} {σ : L2.St} {H : Hp} {Q : VK} {te : TE} {tl th : TO}
theorem g_sl {r : V → Option Int → Option Int → Hp → VK → Prop} (h : te σ H fun x H1 => tl σ H1 fun l H2 => th σ H2 fun u H3 => r x l u H3 Q) : tSl r te tl th σ H Q := h
theorem g_nopart {Q : Option Int → Hp → Prop} (h : Q none H) : tNoPart σ H Q := h
theorem g_part {Q : Option Int → Hp → Prop} (h : te σ H (rPart Q)) : tPart te σ H Q := h
theorem r_part {Q : Option Int → Hp → Prop} {i : Int} (h : Q (some i) H) : rPart Q (.int i) H := ⟨i, rfl, h⟩
theorem r_slL {a : Addr} {xs : List V} {lo hi : Option Int} (h : SqL K H a xs) (q : ∀ p, H p = none → Q (.ref p) (upd H p (.lst (cutV xs lo hi)))) : rSlL K (.ref a) lo hi H Q := ⟨a, xs, rfl, h, q⟩
def cutI (ns : List Int) (lo hi : Option Int) : List Int := (ns.drop (HT.sIx ns.length 0 lo)).take (HT.sIx ns.length ns.length hi - HT.sIx ns.length 0 lo)
theorem cutV_int (ns : List Int) (lo hi : Option Int) : cutV (ns.map V.int) lo hi = (cutI ns lo hi).map V.int := by
  unfold cutV cutI
  rw [List.length_map, List.map_take, List.map_drop]
theorem cutI_len (ns : List Int) (lo hi : Option Int) : (cutI ns lo hi).length ≤ ns.length := by
  unfold cutI
  rw [List.length_take, List.length_drop]
  omega
theorem cutI_take (ns : List Int) (k : Nat) : cutI ns none (some (k : Int)) = ns.take k := by
  unfold cutI
  simp only [HT.sIx]
  rw [if_neg (by omega)]
  simp
theorem cutI_drop (ns : List Int) (k : Nat) : cutI ns (some (k : Int)) none = ns.drop k := by
  unfold cutI
  simp only [HT.sIx]
  rw [if_neg (by omega), Int.toNat_natCast]
  by_cases h : k ≤ ns.length
  · rw [Nat.min_eq_left h]
    exact List.take_of_length_le (by simp)
  · rw [List.drop_eq_nil_of_le (show ns.length ≤ k by omega)]
    simp
    omega
theorem r_ixL {a : Addr} {xs : List V} {i : Int} {v : V} (h : SqL K H a xs) (e : atI xs i = some v) (q : Q v H) : rIxL K (.ref a) (.int i) H Q := ⟨a, xs, i, v, rfl, rfl, h, e, q⟩
theorem r_ixT {a : Addr} {xs : List V} {i : Int} {v : V} (h : SqT K H a xs) (e : atI xs i = some v) (q : Q v H) : rIxT K (.ref a) (.int i) H Q := ⟨a, xs, i, v, rfl, rfl, h, e, q⟩
theorem r_t0 {a : Addr} {xs : List V} {v : V} (h : SqT K H a (v :: xs)) (q : Q v H) : rIxT K (.ref a) (.int 0) H Q := by
  refine ⟨a, v :: xs, 0, v, rfl, rfl, h, ?_, q⟩
  unfold atI ixN
  rw [if_pos (by decide), if_pos (by simp only [List.length_cons]; omega)]
  rfl
theorem r_t1 {a : Addr} {xs : List V} {u v : V} (h : SqT K H a (u :: v :: xs)) (q : Q v H) : rIxT K (.ref a) (.int 1) H Q := by
  refine ⟨a, u :: v :: xs, 1, v, rfl, rfl, h, ?_, q⟩
  unfold atI ixN
  rw [if_pos (by decide), if_pos (by simp only [List.length_cons]; omega)]
  rfl
theorem r_t2 {a : Addr} {xs : List V} {u z v : V} (h : SqT K H a (u :: z :: v :: xs)) (q : Q v H) : rIxT K (.ref a) (.int 2) H Q := by
  refine ⟨a, u :: z :: v :: xs, 2, v, rfl, rfl, h, ?_, q⟩
  unfold atI ixN
  rw [if_pos (by decide), if_pos (by simp only [List.length_cons]; omega)]
  rfl
theorem getV {ns : List Int} {i : Nat} {x : V} (h : (ns.map V.int)[i]? = some x) : ∃ n, x = .int n ∧ ns[i]? = some n ∧ i < ns.length := by
  rw [List.getElem?_map] at h
  cases e : ns[i]? with
  | none => rw [e] at h; cases h
  | some n => rw [e] at h; exact ⟨n, (Option.some.inj h).symm, rfl, (List.getElem?_eq_some_iff.mp e).1⟩
end
/-! ### promises by the number of arguments -/
def Sp0 (φ : Hp → VK → XK → Prop) : Sp := fun vs H Q E => vs = [] ∧ φ H Q E
def Sp1 (φ : V → Hp → VK → XK → Prop) : Sp := fun vs H Q E => ∃ x, vs = [x] ∧ φ x H Q E
def Sp2 (φ : V → V → Hp → VK → XK → Prop) : Sp := fun vs H Q E => ∃ x y, vs = [x, y] ∧ φ x y H Q E
def Sp3 (φ : V → V → V → Hp → VK → XK → Prop) : Sp := fun vs H Q E => ∃ x y z, vs = [x, y, z] ∧ φ x y z H Q E
def Sp4 (φ : V → V → V → V → Hp → VK → XK → Prop) : Sp := fun vs H Q E => ∃ x y z u, vs = [x, y, z, u] ∧ φ x y z u H Q E
def Sp5 (φ : V → V → V → V → V → Hp → VK → XK → Prop) : Sp := fun vs H Q E => ∃ x y z u v, vs = [x, y, z, u, v] ∧ φ x y z u v H Q E
section
variable {vs : List V} {H : Hp} {Q : VK} {E : XK}
theorem sp0_len {φ} (h : Sp0 φ vs H Q E) : vs.length = 0 := by obtain ⟨rfl, _⟩ := h; rfl
theorem sp1_len {φ} (h : Sp1 φ vs H Q E) : vs.length = 1 := by obtain ⟨x, rfl, _⟩ := h; rfl
theorem sp2_len {φ} (h : Sp2 φ vs H Q E) : vs.length = 2 := by obtain ⟨x, y, rfl, _⟩ := h; rfl
theorem sp3_len {φ} (h : Sp3 φ vs H Q E) : vs.length = 3 := by obtain ⟨x, y, z, rfl, _⟩ := h; rfl
theorem sp4_len {φ} (h : Sp4 φ vs H Q E) : vs.length = 4 := by obtain ⟨x, y, z, u, rfl, _⟩ := h; rfl
theorem sp5_len {φ} (h : Sp5 φ vs H Q E) : vs.length = 5 := by obtain ⟨x, y, z, u, v, rfl, _⟩ := h; rfl
end
/-- a law's own promise -/
def spEnd (K : PySem.W.Frag) : Sp := Sp1 fun x H Q E => ∃ (a : Addr) (ns : List Int), x = .ref a ∧ SqL K H a (ns.map V.int) ∧ ns.length ≤ 63 ∧ ∀ H', Q (.bl true) H'
section
variable {P : Program} {w : World} {K : PySem.W.Frag} {mg : Str → Option Value} {base : Heap} {N : List Str} {qual : Str} {scope : Scope} {f : Addr} {cd : Value} {A : Around} {outer : List Env} {s : Shared} {H : Hp} {E : XK}
theorem pX : Passes (L2.CX P w) (cxOf (L2.CX P w) P w K mg base N qual scope f cd A outer s H E) E := passes_call (takes_of rfl rfl rfl rfl) fun _ _ _ _ h => h
theorem cx_false {l : List Env} {e : Value} {s' : Shared} (h : L2.CX P w l H s (fun _ _ _ => False) e s') : False := by
  obtain ⟨_, _, _, _, _, _, _, _, _, _, _, _, z⟩ := h
  exact z
theorem passF {X : Cx} : Passes (L2.CX P w) X (fun _ _ _ => False) := fun _ _ _ _ _ _ _ h => (cx_false h).elim
end
/-! ### union of two ways -/
theorem pe_either {X : Cx} {e : Expr} {t u : TE} (h1 : PE X e t) (h2 : PE X e u) : PE X e (fun σ H Q => t σ H Q ∨ u σ H Q) :=
  ⟨fun pins s σ H Q I h => h.elim (h1.run pins s σ H Q I) (h2.run pins s σ H Q I)⟩
/-! ### len, str, fields, methods, new instances, dicts: by names -/
def rLen (K : PySem.W.Frag) : List V → Hp → VK → Prop := fun xs H Q => ∃ p ys, xs = [.ref p] ∧ (SqL K H p ys ∨ SqT K H p ys) ∧ Q (.int ys.length) H
theorem call_lenZ {X : Cx} : CallR X (.builtin "len") (rLen X.K) := call_len_seq
def rLenStr : List V → Hp → VK → Prop := fun xs H Q => ∃ z, xs = [.str z] ∧ z.length ≤ sizeLine ∧ Q (.int z.length) H
theorem call_lenS {X : Cx} : CallR X (.builtin "len") rLenStr := call_len_str
def rLenDi : List V → Hp → VK → Prop := fun xs H Q => ∃ a kvs, xs = [V.ref a] ∧ H a = some (.dK kvs) ∧ Q (.int kvs.length) H
theorem call_lenDi {X : Cx} : CallR X (.builtin "len") rLenDi := call_lenD
def rStrI : List V → Hp → VK → Prop := fun xs H Q => ∃ i, xs = [.int i] ∧ i.natAbs.log2 < 1920 ∧ Q (.str (toString i)) H
theorem call_strI {X : Cx} : CallR X (.type "str") rStrI := call_str_int
def rIsNo : R2 := fun x y H Q => y = .non ∧ Q (.bl (decide (x = .non))) H
def rNotNo : R2 := fun x y H Q => y = .non ∧ Q (.bl (!decide (x = .non))) H
theorem op_isNo {X : Cx} : OpR X (compareOp .Is) rIsNo := op_isN
theorem op_notNo {X : Cx} : OpR X (compareOp .IsNot) rNotNo := op_notN
def rAddS : R2 := fun x y H Q => ∃ i j, x = .str i ∧ y = .str j ∧ i.length + j.length ≤ sizeLine ∧ Q (.str (i ++ j)) H
theorem op_addS {X : Cx} : OpR X (binaryOp .Add) rAddS := op_add_str
def rListOf (K : PySem.W.Frag) : List V → Hp → VK → Prop := fun xs H Q => ∃ p ys, xs = [.ref p] ∧ (SqL K H p ys ∨ SqT K H p ys) ∧ ∀ l, H l = none → Q (.ref l) (upd H l (.lst ys))
theorem call_listOf {X : Cx} : CallR X (.type "list") (rListOf X.K) := call_list_of
def rFldN (K : PySem.W.Frag) (f : Str) (Q : VK) (x : V) (H1 : Hp) : Prop := ∃ a C dx fs v, x = .ref a ∧ H1 a = some (.ins C dx fs) ∧ Cls K C ∧ NoAttr K C f ∧ fs.lookup f = some v ∧ Q v H1
def rStF (K : PySem.W.Frag) (f : Str) (P : Hp → Prop) (y x : V) (H2 : Hp) : Prop := ∃ a C dx fs, x = .ref a ∧ H2 a = some (.ins C dx fs) ∧ Cls K C ∧ NoAttr K C f ∧ fs.length < 1000 ∧ P (upd H2 a (.ins C dx (putF f y fs)))
def rMe (C : Addr) (m : Str) (P : Prop) (x : V) (H1 : Hp) : Prop := ∃ a dx fs, x = .ref a ∧ H1 a = some (.ins C dx fs) ∧ fs.lookup m = none ∧ P
def rMk (C : Addr) (sp : Sp) (dvs : List V) (E : XK) (Q : VK) (vs : List V) (H1 : Hp) : Prop := ∀ x dx, H1 x = none → H1 dx = none → dx ≠ x → sp (.ref x :: (vs ++ dvs)) (upd (upd H1 dx (.own x)) x (.ins C dx [])) (fun v H2 => v = .non ∧ Q (.ref x) H2) E
def rDIn (Q : VK) (y x : V) (H2 : Hp) : Prop := ∃ a o, x = .ref a ∧ DGet H2 a y o ∧ Q (.bl o.isSome) H2
def rDNi (Q : VK) (y x : V) (H2 : Hp) : Prop := ∃ a o, x = .ref a ∧ DGet H2 a y o ∧ Q (.bl (!o.isSome)) H2
def rDGe (Q : VK) (x y : V) (H2 : Hp) : Prop := ∃ a v, x = .ref a ∧ DGet H2 a y (some v) ∧ Q v H2
def rDPu (P : Hp → Prop) (v x y : V) (H3 : Hp) : Prop := ∃ a H4, x = .ref a ∧ DPut H3 a y v H4 ∧ P H4
def rDPo (Q : VK) (x y : V) (H2 : Hp) : Prop := ∃ kvs k v, ∃ a, x = .ref a ∧ H2 a = some (.dK kvs) ∧ y = kV k ∧ valV kvs k = some v ∧ Q v (upd H2 a (.dK (dropK kvs k)))
section
variable {K : PySem.W.Frag} {σ : L2.St} {H : Hp} {Q : VK} {ta tb tv td ty : TE} {t : TA} {D : Ends} {f m : Str} {a p C dx : Addr} {fs : List (Str × V)} {v x y : V} {xs : List V} {sp : Sp} {dvs : List V} {E : XK} {P : Hp → Prop} {R : Prop} {i : Int} {z u : Str} {kvs : List (Key × V)} {n : Int}
theorem r_lenL (h : SqL K H p xs) (q : Q (.int xs.length) H) : rLen K [.ref p] H Q := ⟨p, xs, rfl, .inl h, q⟩
theorem r_lenT (h : SqT K H p xs) (q : Q (.int xs.length) H) : rLen K [.ref p] H Q := ⟨p, xs, rfl, .inr h, q⟩
theorem r_lenS (h : z.length ≤ sizeLine) (q : Q (.int z.length) H) : rLenStr [.str z] H Q := ⟨z, rfl, h, q⟩
theorem r_lenD (h : H p = some (.dK kvs)) (q : Q (.int kvs.length) H) : rLenDi [.ref p] H Q := ⟨p, kvs, rfl, h, q⟩
theorem r_strI (h : i.natAbs.log2 < 1920) (q : Q (.str (toString i)) H) : rStrI [.int i] H Q := ⟨i, rfl, h, q⟩
theorem r_isNo (q : Q (.bl (decide (x = .non))) H) : rIsNo x .non H Q := ⟨rfl, q⟩
theorem r_notNo (q : Q (.bl (!decide (x = .non))) H) : rNotNo x .non H Q := ⟨rfl, q⟩
theorem r_addS (h : z.length + u.length ≤ sizeLine) (q : Q (.str (z ++ u)) H) : rAddS (.str z) (.str u) H Q := ⟨z, u, rfl, rfl, h, q⟩
theorem r_listOf {B : Hp} {L : List Cell} (h : SqL K H p xs) (w : W B L H) (q : ∀ l H', W B ((l, .lst xs) :: L) H' → Q (.ref l) H') : rListOf K [.ref p] H Q := ⟨p, xs, rfl, .inl h, fun l hl => q l _ (w.newL hl _)⟩
theorem g_fld (h : ta σ H (rFldN K f Q)) : tFld K ta f σ H Q := h
theorem r_fld (h : H a = some (.ins C dx fs)) (c : Cls K C) (no : NoAttr K C f) (l : fs.lookup f = some v) (q : Q v H) : rFldN K f Q (.ref a) H := ⟨a, C, dx, fs, v, rfl, h, c, no, l, q⟩
theorem g_sfld (h : tv σ H fun y H1 => ta σ H1 (rStF K f (D.nx σ) y)) : sFld K ta tv f D σ H := h
theorem r_sfld (h : H a = some (.ins C dx fs)) (c : Cls K C) (no : NoAttr K C f) (l : fs.length < 1000) (q : P (upd H a (.ins C dx (putF f y fs)))) : rStF K f P y (.ref a) H := ⟨a, C, dx, fs, rfl, h, c, no, l, q⟩
theorem g_meth (h : ta σ H fun x H1 => rMe C m (t σ H1 fun vs H2 => sp (x :: (vs ++ dvs)) H2 Q E) x H1) : tMeth C m sp dvs E ta t σ H Q := h
theorem r_meth (h : H a = some (.ins C dx fs)) (l : fs.lookup m = none) (q : R) : rMe C m R (.ref a) H := ⟨a, dx, fs, rfl, h, l, q⟩
theorem g_make (h : t σ H (rMk C sp dvs E Q)) : tMake C sp dvs E t σ H Q := h
theorem g_din (h : ty σ H fun y H1 => td σ H1 (rDIn Q y)) : tDIn ty td σ H Q := h
theorem g_dni (h : ty σ H fun y H1 => td σ H1 (rDNi Q y)) : tDNotIn ty td σ H Q := h
theorem g_dge (h : td σ H fun x H1 => ty σ H1 (rDGe Q x)) : tDGet td ty σ H Q := h
theorem g_dpu (h : tv σ H fun v H1 => td σ H1 fun x H2 => ty σ H2 (rDPu (D.nx σ) v x)) : sDPut td ty tv D σ H := h
theorem r_din (h : H a = some (.dK kvs)) (q : Q (.bl (valV kvs (Sum.inl n)).isSome) H) : rDIn Q (.int n) (.ref a) H := ⟨a, _, rfl, DGet.k (k := Sum.inl n) h, q⟩
theorem r_dni (h : H a = some (.dK kvs)) (q : Q (.bl (!(valV kvs (Sum.inl n)).isSome)) H) : rDNi Q (.int n) (.ref a) H := ⟨a, _, rfl, DGet.k (k := Sum.inl n) h, q⟩
theorem r_dge (h : H a = some (.dK kvs)) (e : valV kvs (Sum.inl n) = some v) (q : Q v H) : rDGe Q (.ref a) (.int n) H := ⟨a, v, rfl, by have := DGet.k (k := Sum.inl n) h; rw [e] at this; exact this, q⟩
theorem r_dpu (h : H a = some (.dK kvs)) (l : kvs.length < sizeLine) (q : P (upd H a (.dK (putK kvs (Sum.inl n) v)))) : rDPu P v (.ref a) (.int n) H := ⟨a, _, rfl, DPut.k (k := Sum.inl n) h l, q⟩
end
/-! ### a list of numbers, by its place -/
theorem atI_nat' {xs : List V} {i : Int} (h0 : 0 ≤ i) (h1 : i < xs.length) : atI xs i = xs[i.toNat]? := by
  unfold atI ixN
  rw [if_pos h0, if_pos h1]
  rfl
theorem atI_ex {ns : List Int} {i : Int} (h0 : 0 ≤ i) (h1 : i < ns.length) : ∃ v, v ∈ ns ∧ atI (ns.map V.int) i = some (.int v) := by
  have hl : i.toNat < ns.length := by omega
  refine ⟨ns[i.toNat], List.getElem_mem _, ?_⟩
  rw [atI_nat' h0 (by rw [List.length_map]; exact h1), List.getElem?_map, List.getElem?_eq_getElem hl]
  rfl
section
variable {K : PySem.W.Frag} {H : Hp} {σ : L2.St} {a : Addr} {u v x : V} {n : Nat} {t1 t2 t3 : TG} {Q : L2.St → Hp → Prop}
theorem g_tup2 (h : SqT K H a [u, v]) (hn : n = 2) (q : t1 u σ H fun σ' H' => t2 v σ' H' Q) : gTup K n (gCons t1 (gCons t2 gNil)) (.ref a) σ H Q :=
  ⟨a, _, rfl, h, hn.symm, u, _, rfl, (show t1 u σ H fun σ' H' => gCons t2 gNil [v] σ' H' Q from by
    have e : (fun σ' H' => gCons t2 gNil [v] σ' H' Q) = fun σ' H' => t2 v σ' H' Q := by
      funext σ' H'
      refine propext ⟨fun ⟨v', r, e, h⟩ => ?_, fun h => ⟨v, [], rfl, ?_⟩⟩
      · cases e
        have e2 : (fun σ' H' => gNil [] σ' H' Q) = Q := by funext a b; exact propext ⟨fun h => h.2, fun h => ⟨rfl, h⟩⟩
        rwa [e2] at h
      · have e2 : (fun σ' H' => gNil [] σ' H' Q) = Q := by funext a b; exact propext ⟨fun h => h.2, fun h => ⟨rfl, h⟩⟩
        rwa [e2]
    rw [e]
    exact q)⟩
end
section
variable {c : TT} {tb : TS} {D : Ends} {σ : L2.St} {H : Hp} {m : Nat}
def WhB (Pv : Nat → L2.St → Hp → Prop) (m : Nat) (tb : TS) (D : Ends) (σ : L2.St) (H1 : Hp) : Prop := ∃ N : L2.St → Hp → Prop, (∀ σ' H', N σ' H' → ∃ m', m' < m ∧ Pv m' σ' H') ∧ tb { D with nx := N, ct := N, bk := D.nx } σ H1
theorem g_while (m : Nat) (Pv : Nat → L2.St → Hp → Prop) (h0 : Pv m σ H) (hs : ∀ m σ H, Pv m σ H → c σ H fun b H1 => Br b (WhB Pv m tb D σ H1) (D.nx σ H1)) : tWhile c tb D σ H := ⟨Pv, ⟨m, h0⟩, hs⟩
theorem g_whb {Pv : Nat → L2.St → Hp → Prop} (h : tb { D with nx := fun σ' H' => ∃ m', m' < m ∧ Pv m' σ' H', ct := fun σ' H' => ∃ m', m' < m ∧ Pv m' σ' H', bk := D.nx } σ H) : WhB Pv m tb D σ H := ⟨_, fun _ _ h => h, h⟩
end
/-! ### == of data -/
theorem eqvAll_ints : ∀ ns ms : List Int, PyData.eqvAll (ns.map PyData.int) (ms.map PyData.int) = decide (ns = ms)
  | [], [] => by simp [PyData.eqvAll]
  | [], _ :: _ => by simp [PyData.eqvAll]
  | _ :: _, [] => by simp [PyData.eqvAll]
  | a :: r, b :: t => by
    simp only [List.map_cons, PyData.eqvAll, PyData.eqv, eqvAll_ints r t]
    by_cases h : a = b <;> by_cases h' : r = t <;> simp [h, h']
theorem canAll_ints : ∀ ns : List Int, PyData.canLayAll0 (ns.map PyData.int) = true
  | [] => by simp [PyData.canLayAll0]
  | _ :: r => by simp [PyData.canLayAll0, PyData.canLay0, canAll_ints r]
theorem depAll_ints : ∀ ns : List Int, PyData.depthAll (ns.map PyData.int) = 0
  | [] => by simp [PyData.depthAll]
  | _ :: r => by simp [PyData.depthAll, PyData.depth, depAll_ints r]
theorem sh_lints (ns : List Int) : SeqAt.shaped (.list (ns.map PyData.int)) = true := by simp [SeqAt.shaped, PyData.canLay0, PyData.depth, canAll_ints, depAll_ints]
theorem sh_tints (ns : List Int) : SeqAt.shaped (.tuple (ns.map PyData.int)) = true := by simp [SeqAt.shaped, PyData.canLay0, PyData.depth, canAll_ints, depAll_ints]
section
variable {K : PySem.W.Frag} {H : Hp} {Q : VK} {a b : Addr} {ns ms : List Int} {x y : V} {d : PyData}
theorem dp_ints : ∀ ns : List Int, DpAll K H (ns.map V.int) (ns.map PyData.int)
  | [] => .nil
  | _ :: r => .cons (.int _) (dp_ints r)
theorem eqv_self (h : SeqAt.shaped d = true) : PyData.eqv d d = true := SeqAt.eqv_refl d (SeqAt.canLay_of_shaped h)
theorem r_eqD (h1 : Dp K H x d) (h2 : Dp K H y d) (sh : SeqAt.shaped d = true) (q : Q (.bl true) H) : rEqD K x y H Q := ⟨d, d, h1, h2, sh, sh, by rw [eqv_self sh]; exact q⟩
theorem r_neD (h1 : Dp K H x d) (h2 : Dp K H y d) (sh : SeqAt.shaped d = true) (q : Q (.bl false) H) : rNeD K x y H Q := ⟨d, d, h1, h2, sh, sh, by rw [eqv_self sh]; exact q⟩
theorem r_eqLI (h1 : SqL K H a (ns.map V.int)) (h2 : SqL K H b (ms.map V.int)) (q : Q (.bl (decide (ns = ms))) H) : rEqD K (.ref a) (.ref b) H Q :=
  ⟨_, _, .lst h1 (dp_ints ns), .lst h2 (dp_ints ms), sh_lints ns, sh_lints ms, by rw [PyData.eqv, eqvAll_ints]; exact q⟩
theorem r_neLI (h1 : SqL K H a (ns.map V.int)) (h2 : SqL K H b (ms.map V.int)) (q : Q (.bl (!decide (ns = ms))) H) : rNeD K (.ref a) (.ref b) H Q :=
  ⟨_, _, .lst h1 (dp_ints ns), .lst h2 (dp_ints ms), sh_lints ns, sh_lints ms, by rw [PyData.eqv, eqvAll_ints]; exact q⟩
theorem r_eqTI (h1 : SqT K H a (ns.map V.int)) (h2 : SqT K H b (ms.map V.int)) (q : Q (.bl (decide (ns = ms))) H) : rEqD K (.ref a) (.ref b) H Q :=
  ⟨_, _, .tup h1 (dp_ints ns), .tup h2 (dp_ints ms), sh_tints ns, sh_tints ms, by rw [PyData.eqv, eqvAll_ints]; exact q⟩
theorem r_neTI (h1 : SqT K H a (ns.map V.int)) (h2 : SqT K H b (ms.map V.int)) (q : Q (.bl (!decide (ns = ms))) H) : rNeD K (.ref a) (.ref b) H Q :=
  ⟨_, _, .tup h1 (dp_ints ns), .tup h2 (dp_ints ms), sh_tints ns, sh_tints ms, by rw [PyData.eqv, eqvAll_ints]; exact q⟩
theorem r_eqDI (h1 : Dp K H x d) (sh : SeqAt.shaped d = true) (n : Int) (q : Q (.bl (PyData.eqv d (.int n))) H) : rEqD K x (.int n) H Q := ⟨d, _, h1, .int n, sh, rfl, q⟩
end
/-! ### isinstance -/
theorem kb_int_int : kitB "int" "int" = some true := by decide +kernel
theorem kb_int_bool : kitB "int" "bool" = some false := by decide +kernel
theorem kb_int_str : kitB "int" "str" = some false := by decide +kernel
theorem kb_int_tuple : kitB "int" "tuple" = some false := by decide +kernel
theorem kb_int_list : kitB "int" "list" = some false := by decide +kernel
theorem kb_bool_int : kitB "bool" "int" = some true := by decide +kernel
theorem kb_bool_bool : kitB "bool" "bool" = some true := by decide +kernel
theorem kb_bool_str : kitB "bool" "str" = some false := by decide +kernel
theorem kb_non_int : kitB "NoneType" "int" = some false := by decide +kernel
theorem kb_non_bool : kitB "NoneType" "bool" = some false := by decide +kernel
theorem kb_non_str : kitB "NoneType" "str" = some false := by decide +kernel
theorem kb_str_int : kitB "str" "int" = some false := by decide +kernel
theorem kb_str_bool : kitB "str" "bool" = some false := by decide +kernel
theorem kb_str_str : kitB "str" "str" = some true := by decide +kernel
theorem kb_tup_int : kitB "tuple" "int" = some false := by decide +kernel
theorem kb_tup_bool : kitB "tuple" "bool" = some false := by decide +kernel
theorem kb_tup_str : kitB "tuple" "str" = some false := by decide +kernel
theorem kb_tup_tup : kitB "tuple" "tuple" = some true := by decide +kernel
theorem kb_tup_list : kitB "tuple" "list" = some false := by decide +kernel
theorem kb_list_int : kitB "list" "int" = some false := by decide +kernel
theorem kb_list_bool : kitB "list" "bool" = some false := by decide +kernel
theorem kb_list_str : kitB "list" "str" = some false := by decide +kernel
theorem kb_list_list : kitB "list" "list" = some true := by decide +kernel
theorem kb_list_tup : kitB "list" "tuple" = some false := by decide +kernel
theorem kb_dict_int : kitB "dict" "int" = some false := by decide +kernel
theorem kb_dict_bool : kitB "dict" "bool" = some false := by decide +kernel
section
variable {K : PySem.W.Frag} {H : Hp} {Q : VK} {x : V} {t n : String} {b : Bool} {i : Int} {z : Str}
theorem r_isi (ty : TyX K H x (.type t)) (h : kitB t n = some b) (q : Q (.bl b) H) : rIsi K [x, .ty n] H Q := ⟨x, .ty n, .type t, .type n, b, rfl, .ty n, ty, kit_ty h, q⟩
theorem isi_ii (q : Q (.bl true) H) : rIsi K [.int i, .ty "int"] H Q := r_isi (.base (.int i)) kb_int_int q
theorem isi_ib (q : Q (.bl false) H) : rIsi K [.int i, .ty "bool"] H Q := r_isi (.base (.int i)) kb_int_bool q
theorem isi_bi (q : Q (.bl true) H) : rIsi K [.bl b, .ty "int"] H Q := r_isi (.base (.bl b)) kb_bool_int q
theorem isi_bb (q : Q (.bl true) H) : rIsi K [.bl b, .ty "bool"] H Q := r_isi (.base (.bl b)) kb_bool_bool q
theorem isi_ni (q : Q (.bl false) H) : rIsi K [.non, .ty "int"] H Q := r_isi (.base .non) kb_non_int q
theorem isi_si (q : Q (.bl false) H) : rIsi K [.str z, .ty "int"] H Q := r_isi (.base (.str z)) kb_str_int q
end
/-! ### names of built-ins -/
theorem bt_len : bootBuiltins "len" = some (.builtin "len") := by decide +kernel
theorem bt_isinstance : bootBuiltins "isinstance" = some (.builtin "isinstance") := by decide +kernel
theorem bt_int : bootBuiltins "int" = some (.type "int") := by decide +kernel
theorem bt_bool : bootBuiltins "bool" = some (.type "bool") := by decide +kernel
theorem bt_str : bootBuiltins "str" = some (.type "str") := by decide +kernel
theorem bt_list : bootBuiltins "list" = some (.type "list") := by decide +kernel
theorem bt_tuple : bootBuiltins "tuple" = some (.type "tuple") := by decide +kernel
theorem bt_dict : bootBuiltins "dict" = some (.type "dict") := by decide +kernel
theorem bt_min : bootBuiltins "min" = some (.builtin "min") := by decide +kernel
theorem bt_max : bootBuiltins "max" = some (.builtin "max") := by decide +kernel
theorem bt_sum : bootBuiltins "sum" = some (.builtin "sum") := by decide +kernel
theorem bt_all : bootBuiltins "all" = some (.builtin "all") := by decide +kernel
theorem bt_any : bootBuiltins "any" = some (.builtin "any") := by decide +kernel
theorem bt_sorted : bootBuiltins "sorted" = some (.builtin "sorted") := by decide +kernel
theorem bt_ValueError : bootBuiltins "ValueError" = some (.type "ValueError") := by decide +kernel
/-- a number, or None -/
def oV : Option Int → V
  | none => .non
  | some n => .int n
end Z

/-! Mbits: the bits of a number the other way round, in plain Lean. -/
namespace Z
open PySem PySem.W PyProof.Rows
/-- the k lowest bits of n, turned about -/
def rv : Nat → Nat → Nat
  | 0, _ => 0
  | k + 1, n => 2 * rv k n + n / 2 ^ k % 2
theorem rv_lt (k n : Nat) : rv k n < 2 ^ k := by
  induction k with
  | zero => simp [rv]
  | succ k ih => simp only [rv, Nat.pow_succ]; omega
theorem pow_pos2 (k : Nat) : 0 < 2 ^ k := Nat.pow_pos (by decide)
theorem rv_add (j k n : Nat) : rv (j + k) n = rv j n * 2 ^ k + rv k (n / 2 ^ j) := by
  induction k with
  | zero => simp [rv]
  | succ k ih =>
    have e : n / 2 ^ (j + k) = n / 2 ^ j / 2 ^ k := by rw [Nat.div_div_eq_div_mul, ← Nat.pow_add]
    show 2 * rv (j + k) n + n / 2 ^ (j + k) % 2 = _
    rw [ih, e, Nat.pow_succ]
    show _ = rv j n * (2 ^ k * 2) + (2 * rv k (n / 2 ^ j) + n / 2 ^ j / 2 ^ k % 2)
    rw [Nat.mul_add, ← Nat.mul_assoc (rv j n), Nat.mul_comm (rv j n * 2 ^ k) 2, Nat.mul_comm 2 (rv j n * 2 ^ k)]
    omega
theorem rv_one (n : Nat) : rv 1 n = n % 2 := by simp [rv]
theorem rv_succ (k n : Nat) : rv (k + 1) n = (n % 2) * 2 ^ k + rv k (n / 2) := by
  rw [Nat.add_comm k 1, rv_add, rv_one, Nat.pow_one]
theorem rv_zero (k : Nat) : rv k 0 = 0 := by
  induction k with
  | zero => rfl
  | succ k ih => simp [rv, ih]
theorem rv_congr {k a b : Nat} (h : a % 2 ^ k = b % 2 ^ k) : rv k a = rv k b := by
  induction k generalizing a b with
  | zero => rfl
  | succ k ih =>
    rw [rv_succ, rv_succ]
    have h2 : a % 2 = b % 2 := by
      have := congrArg (· % 2) h
      simp only [Nat.pow_succ, Nat.mod_mul_left_mod] at this
      exact this
    have h3 : a / 2 % 2 ^ k = b / 2 % 2 ^ k := by
      have q : ∀ x : Nat, x % 2 ^ (k + 1) / 2 = x / 2 % 2 ^ k := fun x => by
        rw [Nat.pow_succ, Nat.mul_comm, Nat.mod_mul_right_div_self]
      rw [← q a, ← q b, h]
    rw [h2, ih h3]
theorem rv_mod (k n : Nat) : rv k (n % 2 ^ k) = rv k n := rv_congr (Nat.mod_mod _ _)
theorem rv_rv (k n : Nat) : rv k (rv k n) = n % 2 ^ k := by
  induction k generalizing n with
  | zero => simp [rv, Nat.mod_one]
  | succ k ih =>
    have e : rv (k + 1) n = 2 * rv k n + n / 2 ^ k % 2 := rfl
    rw [rv_succ, e]
    have e1 : (2 * rv k n + n / 2 ^ k % 2) % 2 = n / 2 ^ k % 2 := by omega
    have e2 : (2 * rv k n + n / 2 ^ k % 2) / 2 = rv k n := by omega
    rw [e1, e2, ih, Nat.pow_succ, Nat.mod_mul]
    rw [Nat.mul_comm, Nat.add_comm]
theorem rv_bit {k d : Nat} (n : Nat) (h : d < k) : rv k n / 2 ^ (k - 1 - d) % 2 = n / 2 ^ d % 2 := by
  have e : k = (d + 1) + (k - 1 - d) := by omega
  have q : rv k n = rv (d + 1) n * 2 ^ (k - 1 - d) + rv (k - 1 - d) (n / 2 ^ (d + 1)) := by
    conv => lhs; rw [e]
    exact rv_add _ _ _
  have l := rv_lt (k - 1 - d) (n / 2 ^ (d + 1))
  rw [q, Nat.mul_comm, Nat.mul_add_div (pow_pos2 _), Nat.div_eq_of_lt l, Nat.add_zero]
  show (2 * rv d n + n / 2 ^ d % 2) % 2 = _
  omega
theorem rv_inj {k a b : Nat} (h : rv k a = rv k b) : a % 2 ^ k = b % 2 ^ k := by rw [← rv_rv, ← rv_rv, h]
/-- sixteen bits turned about -/
@[irreducible] def r16 (n : Nat) : Nat := rv 16 n
theorem r16_eq (n : Nat) : r16 n = rv 16 n := by unfold r16; rfl
theorem r16_lt (n : Nat) : r16 n < 65536 := by rw [r16_eq]; exact rv_lt 16 n
theorem r16_r16 (n : Nat) : r16 (r16 n) = n % 65536 := by rw [r16_eq, r16_eq]; exact rv_rv 16 n
/-! by the program's own operators -/
theorem bor_even (a : Int) {b : Int} (h0 : 0 ≤ b) (h1 : b ≤ 1) : Builtin.bitOr (a * 2) b = a * 2 + b := by
  have e : Builtin.bitAnd (a * 2) b = 0 := by
    rw [kbt_halves]
    have e1 : a * 2 % 2 = 0 := by omega
    have e2 : b / 2 = 0 := by omega
    rw [e1, e2]
    have e3 : Builtin.bitAnd (a * 2 / 2) 0 = 0 := by
      have := kbt_mask (a * 2 / 2) 0
      simpa using this
    rw [e3]
    simp
  have x := bitXor_and (a * 2) b
  unfold Builtin.bitXor at x
  rw [e] at x
  omega
def tnI (n : Int) : Nat → Int
  | 0 => 0
  | k + 1 => Builtin.bitOr (tnI n k * 2 ^ (1 : Int).toNat) (Builtin.bitAnd (n / 2 ^ ((0 : Int) + (k : Nat)).toNat) 1)
theorem tnI_eq (n k : Nat) : tnI (n : Int) k = (rv k n : Nat) := by
  induction k with
  | zero => rfl
  | succ k ih =>
    show Builtin.bitOr (tnI n k * 2 ^ (1 : Int).toNat) (Builtin.bitAnd ((n : Int) / 2 ^ ((0 : Int) + (k : Nat)).toNat) 1) = ((2 * rv k n + n / 2 ^ k % 2 : Nat) : Int)
    have e1 : ((0 : Int) + (k : Nat)).toNat = k := by omega
    have e2 : (1 : Int).toNat = 1 := rfl
    rw [bitAnd_m1, e1, e2, ih, Int.pow_succ, Int.pow_zero, Int.one_mul, bor_even _ (by omega) (by omega)]
    have e3 : (n : Int) / 2 ^ k = ((n / 2 ^ k : Nat) : Int) := by simp
    rw [e3]
    omega
theorem tnI_small (n : Nat) {k : Nat} (h : k ≤ 16) : (tnI (n : Int) k).natAbs < 2 ^ 64 := by
  rw [tnI_eq, Int.natAbs_natCast]
  exact Nat.lt_of_lt_of_le (rv_lt k n) (Nat.pow_le_pow_right (by decide) (by omega))
end Z
namespace Z
open PySem PySem.W PyProof.Rows
theorem r16_mod (k : Nat) : r16 (k % 65536) = r16 k := by
  rw [r16_eq, r16_eq]
  exact rv_mod 16 k
theorem and_pow (k s : Nat) : Builtin.bitAnd (k : Int) (((2 ^ s : Nat) : Int) - 1) = ((k % 2 ^ s : Nat) : Int) := by
  have h := kbt_mask (k : Int) s
  have e : ((2 ^ s : Nat) : Int) = (2 : Int) ^ s := by simp
  rw [e, h, ← e]
  simp
theorem and_mark (k : Nat) : Builtin.bitAnd (k : Int) (65536 - 1) = ((k % 65536 : Nat) : Int) := and_pow k 16
theorem pow_dvd16 {s : Nat} (h : s ≤ 16) : 2 ^ s ∣ 65536 := (Nat.pow_dvd_pow_iff_le_right (by decide : 1 < 2)).mpr h
theorem pow_mul16 {s : Nat} (h : s ≤ 16) : 2 ^ s * 2 ^ (16 - s) = 65536 := by
  rw [← Nat.pow_add, Nat.add_sub_cancel' h]
theorem mod16 {s : Nat} (k : Nat) (h : s ≤ 16) : k % 65536 % 2 ^ s = k % 2 ^ s := Nat.mod_mod_of_dvd k (pow_dvd16 h)
theorem div16 {s : Nat} (h : s ≤ 16) : 65536 / 2 ^ s = 2 ^ (16 - s) := by
  rw [← pow_mul16 h]
  exact Nat.mul_div_cancel_left _ (pow_pos2 s)
theorem pow_le16 {s : Nat} (h : s ≤ 16) : 2 ^ s ≤ 65536 := Nat.le_of_dvd (by decide) (pow_dvd16 h)
/-- a place: its block, and where in it -/
theorem r16_split {s : Nat} (k : Nat) (h : s ≤ 16) : r16 k = rv s k * 2 ^ (16 - s) + rv (16 - s) (k / 2 ^ s) := by
  rw [r16_eq]
  have := rv_add s (16 - s) k
  rwa [Nat.add_sub_cancel' h] at this
theorem r16_slot {s n : Nat} (h : s ≤ 16) (hn : n < 2 ^ s) : r16 n = rv s n * 2 ^ (16 - s) := by
  rw [r16_split n h, Nat.div_eq_of_lt hn, rv_zero, Nat.add_zero]
theorem r16_div {s : Nat} (k : Nat) (h : s ≤ 16) : r16 k / 2 ^ (16 - s) = rv s k := by
  rw [r16_split k h, Nat.mul_comm, Nat.mul_add_div (pow_pos2 _), Nat.div_eq_of_lt (rv_lt _ _), Nat.add_zero]
theorem slotAt_eq {s : Nat} (p : Nat) (h : s ≤ 16) : r16 p % 2 ^ s = rv s (p / 2 ^ (16 - s)) := by
  have e := rv_add (16 - s) s p
  rw [Nat.sub_add_cancel h] at e
  rw [r16_eq, e, Nat.mul_comm, Nat.mul_add_mod, Nat.mod_eq_of_lt (rv_lt _ _)]
/-- the place lies in the stretch of just that slot -/
theorem in_stretch {s n : Nat} (k : Nat) (h : s ≤ 16) (hn : n < 2 ^ s) : (r16 n ≤ r16 k ∧ r16 k < r16 n + 2 ^ (16 - s)) ↔ k % 2 ^ s = n := by
  have e1 := r16_split k h
  have e2 := r16_slot h hn
  have l := rv_lt (16 - s) (k / 2 ^ s)
  constructor
  · rintro ⟨h1, h2⟩
    have q : rv s k = rv s n := by
      have d := r16_div k h
      rw [← d]
      apply Nat.div_eq_of_lt_le
      · rw [← e2]; exact h1
      · rw [Nat.succ_mul, ← e2]; exact h2
    have := rv_inj q
    rwa [Nat.mod_eq_of_lt hn] at this
  · intro e
    have q : rv s k = rv s n := by rw [← e, rv_mod]
    rw [e1, e2, q]
    omega
theorem at_stretch {s n p : Nat} (h : s ≤ 16) (hn : n < 2 ^ s) (h1 : r16 n ≤ p) (h2 : p < r16 n + 2 ^ (16 - s)) : r16 p % 2 ^ s = n := by
  have e2 := r16_slot h hn
  have q : p / 2 ^ (16 - s) = rv s n := by
    apply Nat.div_eq_of_lt_le
    · rw [← e2]; exact h1
    · rw [Nat.succ_mul, ← e2]; exact h2
  rw [slotAt_eq p h, q, rv_rv, Nat.mod_eq_of_lt hn]
theorem stretch_end {s n : Nat} (h : s ≤ 16) (hn : n < 2 ^ s) : r16 n + 2 ^ (16 - s) ≤ 65536 := by
  rw [r16_slot h hn, ← pow_mul16 h]
  have := rv_lt s n
  calc rv s n * 2 ^ (16 - s) + 2 ^ (16 - s) = (rv s n + 1) * 2 ^ (16 - s) := by rw [Nat.succ_mul]
    _ ≤ 2 ^ s * 2 ^ (16 - s) := Nat.mul_le_mul_right _ this
theorem r16_inj {a b : Nat} (h : r16 a = r16 b) : a % 65536 = b % 65536 := by
  rw [r16_eq, r16_eq] at h
  exact rv_inj h
end Z
namespace Z
open PySem PySem.W PyProof.Rows
theorem and_half (b : Nat) : ∀ a : Int, 0 < b → (b : Int) ≠ 2 * Builtin.bitAnd a b := by
  induction b using Nat.strongRecOn with
  | _ b ih =>
    intro a hb e
    have hh := kbt_halves a b
    by_cases o : b % 2 = 1
    · omega
    · have e2 : ((b : Int) / 2) = ((b / 2 : Nat) : Int) := by omega
      rw [if_neg (by omega), e2] at hh
      exact ih (b / 2) (by omega) (a / 2) (by omega) (by omega)
theorem xor_other {a b : Nat} (h0 : 0 < b) (h1 : b < 65536) : ∃ m : Nat, Builtin.bitXor (a : Int) (b : Int) = (m : Int) ∧ m % 65536 ≠ a % 65536 := by
  have x := bitXor_and (a : Int) (b : Int)
  have r1 := bitAnd_range (a : Int) (y := (b : Int)) (by omega)
  have r2 := bitAnd_range (b : Int) (y := (a : Int)) (by omega)
  rw [bitAnd_comm] at r2
  have n := and_half b (a : Int) h0
  refine ⟨(Builtin.bitXor (a : Int) (b : Int)).toNat, by omega, fun h => ?_⟩
  omega
end Z
namespace Z
open PySem PySem.W PyProof.Rows
theorem pow4 (d : Nat) : (4 : Int) * 2 ^ d = ((2 ^ (d + 2) : Nat) : Int) := by
  rw [Nat.pow_add, Nat.mul_comm]; simp
theorem st_e {n s : Nat} (hs : s ≤ 16) : ((r16 n : Nat) : Int) + 65536 / ((2 ^ s : Nat) : Int) = ((r16 n + 2 ^ (16 - s) : Nat) : Int) := by
  rw [← div16 hs, Int.natCast_add, Int.natCast_ediv]; simp
theorem rv_one1 (k : Nat) : rv (k + 1) 1 = 2 ^ k := by
  rw [rv_succ]
  show 1 % 2 * 2 ^ k + rv k 0 = _
  rw [rv_zero]
  omega
theorem half_second {s n : Nat} (hs : s ≤ 15) (hn : n < 2 ^ s) : r16 (n + 2 ^ s) = r16 n + 2 ^ (16 - (s + 1)) := by
  have h : s ≤ 16 := by omega
  have e1 := r16_split (n + 2 ^ s) h
  have e2 := r16_slot h hn
  have e3 : rv s (n + 2 ^ s) = rv s n := rv_congr (Nat.add_mod_right _ _)
  have e4 : (n + 2 ^ s) / 2 ^ s = 1 := by rw [Nat.add_div_right _ (pow_pos2 s), Nat.div_eq_of_lt hn]
  have e5 : 16 - s = 16 - (s + 1) + 1 := by omega
  rw [e1, e2, e3, e4]
  congr 1
  rw [e5]
  exact rv_one1 _
theorem half_pow {s : Nat} (hs : s ≤ 15) : 2 ^ (16 - s) = 2 ^ (16 - (s + 1)) + 2 ^ (16 - (s + 1)) := by
  have e5 : 16 - s = 16 - (s + 1) + 1 := by omega
  rw [e5, Nat.pow_succ]
  omega
theorem pow_two2 (s : Nat) : (2 : Int) * ((2 ^ s : Nat) : Int) = ((2 ^ (s + 1) : Nat) : Int) := by
  rw [Nat.pow_succ]; omega
theorem rv_perm (s : Nat) : ((List.range (2 ^ s)).map (rv s)).Perm (List.range (2 ^ s)) := by
  have n1 : ((List.range (2 ^ s)).map (rv s)).Nodup := by
    refine List.pairwise_map.mpr (List.Pairwise.imp_of_mem ?_ List.nodup_range)
    intro a b ha hb hne h
    have := rv_inj h
    rw [Nat.mod_eq_of_lt (List.mem_range.mp ha), Nat.mod_eq_of_lt (List.mem_range.mp hb)] at this
    exact hne this
  refine (List.perm_ext_iff_of_nodup n1 List.nodup_range).mpr fun x => ?_
  rw [List.mem_range, List.mem_map]
  constructor
  · rintro ⟨y, _, rfl⟩
    exact rv_lt s y
  · intro h
    exact ⟨rv s x, List.mem_range.mpr (rv_lt s x), by rw [rv_rv, Nat.mod_eq_of_lt h]⟩
theorem sorted_places {s : Nat} (hs : s ≤ 16) {l : List Int} (hp : l.Perm ((List.range (2 ^ s)).map fun i => ((r16 i : Nat) : Int))) (ho : l.Pairwise (· ≤ ·)) :
    l = (List.range (2 ^ s)).map fun i => ((i * 2 ^ (16 - s) : Nat) : Int) := by
  have e : ((List.range (2 ^ s)).map fun i => ((r16 i : Nat) : Int)) = ((List.range (2 ^ s)).map (rv s)).map fun i => ((i * 2 ^ (16 - s) : Nat) : Int) := by
    rw [List.map_map]
    refine List.map_congr_left fun i hi => ?_
    show ((r16 i : Nat) : Int) = ((rv s i * 2 ^ (16 - s) : Nat) : Int)
    rw [r16_slot hs (List.mem_range.mp hi)]
  rw [e] at hp
  have hp2 := hp.trans ((rv_perm s).map _)
  refine List.Perm.eq_of_pairwise (le := (· ≤ ·)) (fun a b _ _ h1 h2 => Int.le_antisymm h1 h2) ho ?_ hp2
  refine List.pairwise_map.mpr ((List.pairwise_lt_range).imp fun {a b} h => ?_)
  have : a * 2 ^ (16 - s) ≤ b * 2 ^ (16 - s) := Nat.mul_le_mul_right _ (Nat.le_of_lt h)
  omega
theorem r16_at {s p : Nat} (hs : s ≤ 16) (hp : p < 65536) : r16 (r16 p % 2 ^ s) = p / 2 ^ (16 - s) * 2 ^ (16 - s) := by
  have l : p / 2 ^ (16 - s) < 2 ^ s := (Nat.div_lt_iff_lt_mul (pow_pos2 _)).mpr (by rw [pow_mul16 hs]; exact hp)
  rw [r16_slot hs (Nat.mod_lt _ (pow_pos2 s)), slotAt_eq p hs, rv_rv, Nat.mod_eq_of_lt l]
theorem next_slot {s n : Nat} (hs : s ≤ 16) (hn : n < 2 ^ s) (h : r16 n + 2 ^ (16 - s) < 65536) : r16 (r16 (r16 n + 2 ^ (16 - s)) % 2 ^ s) = r16 n + 2 ^ (16 - s) := by
  rw [r16_at hs h, r16_slot hs hn]
  have e : rv s n * 2 ^ (16 - s) + 2 ^ (16 - s) = (rv s n + 1) * 2 ^ (16 - s) := by rw [Nat.succ_mul]
  rw [e, Nat.mul_div_cancel _ (pow_pos2 _)]
theorem prev_slot {s n : Nat} (hs : s ≤ 16) (hn : n < 2 ^ s) (h : 0 < r16 n) : r16 (r16 (r16 n - 1) % 2 ^ s) + 2 ^ (16 - s) = r16 n := by
  have l := r16_lt n
  rw [r16_at hs (by omega)]
  rw [r16_slot hs hn] at h ⊢
  have hw := pow_pos2 (16 - s)
  generalize 2 ^ (16 - s) = w at h hw ⊢
  cases e : rv s n with
  | zero => rw [e] at h; simp at h
  | succ q =>
    have e2 : (q + 1) * w - 1 = q * w + (w - 1) := by rw [Nat.succ_mul]; omega
    rw [e2, Nat.mul_comm q w, Nat.mul_add_div hw, Nat.div_eq_of_lt (by omega), Nat.add_zero, Nat.succ_mul]
theorem pow_split {s g : Nat} (hs : s ≤ g) (hg : g ≤ 16) : 2 ^ (16 - s) = 2 ^ (g - s) * 2 ^ (16 - g) := by
  rw [← Nat.pow_add]
  congr 1
  omega
theorem sub_stretch {s g n m : Nat} (hs : s ≤ g) (hg : g ≤ 16) (hm : m < 2 ^ g) (hn : n < 2 ^ s) (hmn : m % 2 ^ s = n) : r16 n ≤ r16 m ∧ r16 m + 2 ^ (16 - g) ≤ r16 n + 2 ^ (16 - s) := by
  have h := (in_stretch m (show s ≤ 16 by omega) hn).mpr hmn
  refine ⟨h.1, ?_⟩
  have h2 := h.2
  rw [r16_slot hg hm, r16_slot (show s ≤ 16 by omega) hn, pow_split hs hg] at h2 ⊢
  have hv := pow_pos2 (16 - g)
  generalize 2 ^ (16 - g) = v at h2 hv ⊢
  rw [← Nat.mul_assoc, ← Nat.add_mul] at h2 ⊢
  have h3 := Nat.lt_of_mul_lt_mul_right h2
  have h4 : (rv g m + 1) * v ≤ (rv s n * 2 ^ (g - s) + 2 ^ (g - s)) * v := Nat.mul_le_mul_right v h3
  rwa [Nat.succ_mul] at h4
theorem slot_mono {s a b : Nat} (hs : s ≤ 16) (h : r16 a ≤ r16 b) : r16 (a % 2 ^ s) ≤ r16 (b % 2 ^ s) := by
  rw [r16_slot hs (Nat.mod_lt _ (pow_pos2 s)), r16_slot hs (Nat.mod_lt _ (pow_pos2 s)), rv_mod, rv_mod, ← r16_div a hs, ← r16_div b hs]
  exact Nat.mul_le_mul_right _ (Nat.div_le_div_right h)
theorem mod_mod_pow {s g : Nat} (k : Nat) (hs : s ≤ g) : k % 2 ^ g % 2 ^ s = k % 2 ^ s := Nat.mod_mod_of_dvd k ((Nat.pow_dvd_pow_iff_le_right (by decide : 1 < 2)).mpr hs)
/-- the j-th slot of the greater row in a stretch -/
theorem inner_slot {s g n j : Nat} (hs : s ≤ g) (hg : g ≤ 16) (hn : n < 2 ^ s) (hj : j < 2 ^ (g - s)) :
    r16 (r16 n + j * 2 ^ (16 - g)) % 2 ^ g % 2 ^ s = n ∧ r16 (r16 (r16 n + j * 2 ^ (16 - g)) % 2 ^ g) = r16 n + j * 2 ^ (16 - g) := by
  have e := pow_split hs hg
  have hv := pow_pos2 (16 - g)
  have l : (j + 1) * 2 ^ (16 - g) ≤ 2 ^ (g - s) * 2 ^ (16 - g) := Nat.mul_le_mul_right _ hj
  rw [Nat.succ_mul] at l
  have se := stretch_end (show s ≤ 16 by omega) hn
  rw [e] at se
  constructor
  · rw [mod_mod_pow _ hs]
    exact at_stretch (by omega) hn (by omega) (by rw [e]; omega)
  · rw [r16_at hg (by omega), r16_slot (show s ≤ 16 by omega) hn, e, ← Nat.mul_assoc, ← Nat.add_mul, Nat.mul_div_cancel _ hv]
end Z

/-! Z2: rules of my own: chains of three and four, d.update(e). -/
namespace Z
open PySem PySem.Spec PyProof.Rows L2
section
variable {X : Cx} {a b c d f : Expr} {ta tb tc td tf : TE} {pos : Pos} {pins : List (Addr × Obj)} {σ : L2.St} {H : Hp}
def tLink (r : R2) (y : V) (tc : TE) (nxt : V → L2.St → Hp → VK → Prop) : V → L2.St → Hp → VK → Prop := fun x σ H Q => r x y H fun z H3 => rTst z H3 fun k H4 => Br k (tc σ H4 fun w H5 => nxt w σ H5 Q) (Q (.bl false) H4)
def tChain3 (r r' r'' : R2) (ta tb tc td : TE) : TE := fun σ H Q => ta σ H fun x H1 => tb σ H1 fun y H2 => r x y H2 fun z H3 => rTst z H3 fun k H4 => Br k (tc σ H4 fun z' H5 => r' y z' H5 fun u H6 => rTst u H6 fun k' H7 => Br k' (td σ H7 fun w' H8 => r'' z' w' H8 Q) (Q (.bl false) H7)) (Q (.bl false) H4)
theorem pe_chain3 {op op' op'' : CmpOp} {r r' r'' : R2} (ho : OpR X (compareOp op) r) (ho' : OpR X (compareOp op') r') (ho'' : OpR X (compareOp op'') r'') (ha : PE X a ta) (hb : PE X b tb) (hc : PE X c tc) (hd : PE X d td)
    (hm : lastMarks [op, op', op''] [b, c, d] = false := by with_unfolding_all rfl) : PE X (.Compare a [op, op', op''] [b, c, d] pos) (tChain3 r r' r'' ta tb tc td) := by
  refine ⟨fun pins s σ H Q I h => ?_⟩
  refine Compare_chain (thn (ha.run pins s σ H _ I h) fun v s1 ⟨x, H1, I1, r1, q1⟩ => chain_link (thn (hb.run pins s1 σ H1 _ I1 q1) fun u s2 ⟨y, H2, I2, r2, q2⟩ =>
    thn (ho pins s2 σ H2 x y v u _ I2 r1 r2 q2) fun d s3 ⟨z, H3, I3, r3, k, e, q3⟩ => ?_)) hm
  subst e
  cases r3
  refine wpAny_truthy_bool ?_
  unfold Br at q3
  cases k with
  | false => exact ite_ff ⟨.bl false, H3, I3, rfl, q3⟩
  | true =>
    refine ite_tt (chain_link (thn (hc.run pins s3 σ H3 _ I3 q3) fun w' s4 ⟨z', H4, I4, r4, q4⟩ => thn (ho' pins s4 σ H4 y z' u w' _ I4 r2 r4 q4) fun d' s5 ⟨u2, H5, I5, r5, k2, e2, q5⟩ => ?_))
    subst e2
    cases r5
    refine wpAny_truthy_bool ?_
    cases k2 with
    | false => exact ite_ff ⟨.bl false, H5, I5, rfl, q5⟩
    | true => exact ite_tt (chain_last (thn (hd.run pins s5 σ H5 _ I5 q5) fun w2 s6 ⟨z2, H6, I6, r6, q6⟩ => ho'' pins s6 σ H6 z' z2 w' w2 Q I6 r4 r6 q6))
def tChain4 (r1 r2 r3 r4 : R2) (ta tb tc td tf : TE) : TE := fun σ H Q => ta σ H fun x H1 => tb σ H1 fun y H2 => r1 x y H2 fun z H3 => rTst z H3 fun k H4 => Br k (tc σ H4 fun z' H5 => r2 y z' H5 fun u H6 => rTst u H6 fun k' H7 => Br k' (td σ H7 fun w' H8 => r3 z' w' H8 fun u H6 => rTst u H6 fun k' H7 => Br k' (tf σ H7 fun w2 H8 => r4 w' w2 H8 Q) (Q (.bl false) H7)) (Q (.bl false) H7)) (Q (.bl false) H4)
theorem pe_chain4 {o1 o2 o3 o4 : CmpOp} {q1 q2 q3 q4 : R2} (h1 : OpR X (compareOp o1) q1) (h2 : OpR X (compareOp o2) q2) (h3 : OpR X (compareOp o3) q3) (h4 : OpR X (compareOp o4) q4) (ha : PE X a ta) (hb : PE X b tb) (hc : PE X c tc) (hd : PE X d td) (hf : PE X f tf)
    (hm : lastMarks [o1, o2, o3, o4] [b, c, d, f] = false := by with_unfolding_all rfl) : PE X (.Compare a [o1, o2, o3, o4] [b, c, d, f] pos) (tChain4 q1 q2 q3 q4 ta tb tc td tf) := by
  refine ⟨fun pins s σ H Q I h => ?_⟩
  refine Compare_chain (thn (ha.run pins s σ H _ I h) fun v s1 ⟨x, H1, I1, r1, q1⟩ => chain_link (thn (hb.run pins s1 σ H1 _ I1 q1) fun u s2 ⟨y, H2, I2, r2, q2⟩ =>
    thn (h1 pins s2 σ H2 x y v u _ I2 r1 r2 q2) fun d s3 ⟨z, H3, I3, r3, k, e, q3⟩ => ?_)) hm
  subst e
  cases r3
  refine wpAny_truthy_bool ?_
  unfold Br at q3
  cases k with
  | false => exact ite_ff ⟨.bl false, H3, I3, rfl, q3⟩
  | true =>
    refine ite_tt (chain_link (thn (hc.run pins s3 σ H3 _ I3 q3) fun w' s4 ⟨z', H4, I4, r4, q4⟩ => thn (h2 pins s4 σ H4 y z' u w' _ I4 r2 r4 q4) fun d' s5 ⟨u2, H5, I5, r5, k2, e2, q5⟩ => ?_))
    subst e2
    cases r5
    refine wpAny_truthy_bool ?_
    cases k2 with
    | false => exact ite_ff ⟨.bl false, H5, I5, rfl, q5⟩
    | true =>
      refine ite_tt (chain_link (thn (hd.run pins s5 σ H5 _ I5 q5) fun w2 s6 ⟨z2, H6, I6, r6, q6⟩ => thn (h3 pins s6 σ H6 z' z2 w' w2 _ I6 r4 r6 q6) fun d' s7 ⟨u2, H7, I7, r7, k2, e2, q7⟩ => ?_))
      subst e2
      cases r7
      refine wpAny_truthy_bool ?_
      cases k2 with
      | false => exact ite_ff ⟨.bl false, H7, I7, rfl, q7⟩
      | true => exact ite_tt (chain_last (thn (hf.run pins s7 σ H7 _ I7 q7) fun w3 s8 ⟨z3, H8, I8, r8, q8⟩ => h4 pins s8 σ H8 z2 z3 w2 w3 Q I8 r6 r8 q8))
end
section
variable {σ : L2.St} {H : Hp} {Q : VK} {r1 r2 r3 r4 : R2} {ta tb tc td tf : TE}
theorem g_chain3 (h : ta σ H fun x H1 => tb σ H1 fun y H2 => r1 x y H2 fun z H3 => rTst z H3 fun k H4 => Br k (tc σ H4 fun z' H5 => r2 y z' H5 fun u H6 => rTst u H6 fun k' H7 => Br k' (td σ H7 fun w' H8 => r3 z' w' H8 Q) (Q (.bl false) H7)) (Q (.bl false) H4)) : tChain3 r1 r2 r3 ta tb tc td σ H Q := h
theorem g_chain4 (h : ta σ H fun x H1 => tb σ H1 fun y H2 => r1 x y H2 fun z H3 => rTst z H3 fun k H4 => Br k (tc σ H4 fun z' H5 => r2 y z' H5 fun u H6 => rTst u H6 fun k' H7 => Br k' (td σ H7 fun w' H8 => r3 z' w' H8 fun u H6 => rTst u H6 fun k' H7 => Br k' (tf σ H7 fun w2 H8 => r4 w' w2 H8 Q) (Q (.bl false) H7)) (Q (.bl false) H7)) (Q (.bl false) H4)) : tChain4 r1 r2 r3 r4 ta tb tc td tf σ H Q := h
end
section
variable {X : Cx}
def rUpd : V → List V → Hp → VK → Prop := fun x vs H Q => ∃ a b kvs more, x = .ref a ∧ vs = [.ref b] ∧ b ≠ a ∧ H a = some (.dK kvs) ∧ H b = some (.dK more) ∧ kvs.length + more.length ≤ sizeLine ∧ Q .non (upd H a (.dK (mergeK kvs more)))
theorem mt_update : MtR X "dict.update" rUpd := by
  intro pins s σ H x vs v us Q I rx rv h
  obtain ⟨a, b, kvs, more, rfl, rfl, hab, hA, hB, hz, q⟩ := h
  cases rx
  obtain ⟨u, rfl, ru⟩ := vals1 rv
  cases ru
  obtain ⟨z, hd, vs, rel, dd⟩ := dk_of I.hok hA
  obtain ⟨z2, hd2, vs2, rel2, dd2⟩ := dk_of I.hok hB
  refine call_meetsIn PySem.F.slot_dict_update dd.typeIs PySem.F.entry_dict_update (PySem.F.args_dict_update_2 _ _) (meets_dict_update (mixKind X.prog X.w) a b (Ne.symm hab) hd2)
    ⟨vs, vs2, dd, dd2, by rw [← rel.length, ← rel2.length]; exact hz, fun h' dd' _ hs => ?_⟩
  have he : ∃ q, h'.get? a = some q := let ⟨q, _, _, hq, _⟩ := dd'; ⟨q, hq⟩
  refine ⟨.non, _, d_write (t' := s.toks) I (by rw [hA]; exact True.intro) hs he (dk_new (Nat.le_trans (length_mergeK more kvs) hz) hd (rel2.merge rel) dd'), rfl, q⟩
end
end Z

/-! Z3: sorted of pairs of ints. -/
namespace Z
open PySem PySem.Spec PyProof.Rows L2
def pairOf (B : Hp) (p : Addr) : Int × Int := match B p with | some (.tup [.int i, .int j]) => (i, j) | _ => (0, 0)
theorem pairOf_eq {B : Hp} {p : Addr} {i j : Int} (h : B p = some (.tup [.int i, .int j])) : pairOf B p = (i, j) := by unfold pairOf; rw [h]
def vAd : V → Addr | .ref a => a | _ => 0
def rSortP (K : PySem.W.Frag) : List V → Hp → VK → Prop := rSortedPO K
theorem call_sortP {X : Cx} : CallR X (.builtin "sorted") (rSortP X.K) := cr_sortedPO
theorem refs_of : ∀ {ys : List V}, (∀ y ∈ ys, ∃ p, y = V.ref p) → ∃ qs : List Addr, ys = qs.map V.ref
  | [], _ => ⟨[], rfl⟩
  | y :: ys, h => by
    obtain ⟨p, rfl⟩ := h y (List.mem_cons_self ..)
    obtain ⟨qs, rfl⟩ := refs_of fun z hz => h z (List.mem_cons_of_mem _ hz)
    exact ⟨p :: qs, rfl⟩
theorem map_ref_perm {ps qs : List Addr} (h : (ps.map V.ref).Perm (qs.map V.ref)) : ps.Perm qs := by
  have := h.map vAd
  rwa [List.map_map, List.map_map, show (vAd ∘ V.ref) = id from rfl, List.map_id, List.map_id] at this
theorem r_sortP {K : PySem.W.Frag} {B H : Hp} {L : List Cell} {a : Addr} {ps : List Addr} {Q : VK} (w : W B L H) (h : SqL K B a (ps.map V.ref)) (hp : ∀ p ∈ ps, ∃ i j, B p = some (.tup [.int i, .int j]))
    (q : ∀ (p : Addr) (B' H' : Hp) (qs : List Addr), Same B B' → qs.Perm ps → (qs.map fun p => (pairOf B p).1).Pairwise (· ≤ ·) → qs.Pairwise (fun x y => ¬ ((pairOf B y).1 < (pairOf B x).1 ∨ ((pairOf B y).1 = (pairOf B x).1 ∧ (pairOf B y).2 < (pairOf B x).2))) → B' p = some (.lst (qs.map V.ref)) → W B' L H' → Q (.ref p) H') : rSortP K [.ref a] H Q := by
  refine ⟨a, ps.map V.ref, fun v => pairOf B (vAd v), rfl, w.sq h, fun x hx => ?_, fun ys p hs hb hn => ?_⟩
  · obtain ⟨t, ht, rfl⟩ := List.mem_map.mp hx
    obtain ⟨i, j, e⟩ := hp t ht
    refine ⟨t, rfl, ?_⟩
    show H t = some (.tup [.int (pairOf B t).1, .int (pairOf B t).2])
    rw [pairOf_eq e]
    exact w.rd e
  · obtain ⟨qs, rfl⟩ := refs_of (ys := ys) fun y hy => by
      obtain ⟨t, _, e⟩ := List.mem_map.mp (hb.perm.mem_iff.mp hy)
      exact ⟨t, e.symm⟩
    have pm := map_ref_perm hb.perm
    have pw : qs.Pairwise (fun x y => ¬ ((pairOf B y).1 < (pairOf B x).1 ∨ ((pairOf B y).1 = (pairOf B x).1 ∧ (pairOf B y).2 < (pairOf B x).2))) := by
      have := List.pairwise_map.mp hs
      exact this.imp fun {x y} hxy => SrtO.lexB_no.mp hxy
    refine q p _ _ qs (same_new (w.freeB hn)) pm (List.pairwise_map.mpr (pw.imp fun {x y} hxy => by omega)) pw upd_same (w.newB hn _)
end Z

/-! Z5: C.__init__(self, ..) of an own class C, by its name; what is never reached. -/
namespace Z
open PySem PySem.Spec PyProof.Rows L2
section
variable {X : Cx} {CX : CXT} {k : Nat} {x m : Str} {C0 fI : Addr} {mc : Value} {fd : FuncData} {ps : List Str} {sp : Sp} {ds : List Value} {dvs : List V} {E : XK} {e : Expr} {es : List Expr} {ta t : TA} {p1 p2 pos : Pos} {st : Stmt} {pl : Sem Bool}
theorem ps_dead : PS X st (fun _ _ _ => False) := ⟨fun _ _ _ _ _ _ h => h.elim⟩
/-- WalkError.__init__(self, ..): nothing of it is told -/
theorem pe_weinit (hg : Gl X x) (hm : X.mg x = some (.ref C0)) (r : ClX.CRead X.K C0 mc) (vV : PySem.W.findCls X.K (.ref C0) mc "__init__" = some (.val (.builtin "ValueError.__init__"))) (ha : PA X (e :: es) ta)
    (hdb : (x == ("__debug__" : Str)) = false := by decide)
    (hc : eval (.Call (.Attribute (.Name x p1) "__init__" p2) (e :: es) [] pos) X.env = (do
      let ov ← eval (.Name x p1) X.env
      standAt p2.atName
      let (f, first) ← holding [ov] (getMethod ov "__init__" pl)
      callWith pos f first (backTo pos (starEach (e :: es) X.env)) (backToKw pos (keywordEach [] X.env))) := by rfl)
    (he : starEach (e :: es) X.env = (false, eval e X.env) :: starEach es X.env := by rfl) (hpl : (backTo pos (starEach es X.env)).any (·.1) = false := by rfl) :
    PE X (.Call (.Attribute (.Name x p1) "__init__" p2) (e :: es) [] pos) (tVeI X.K ta) := by
  refine ⟨fun pins s σ H Q I h => ?_⟩
  refine PySem.W.methodCall_KW (ld_glob I hg hm ?_ hdb) hc
  refine PySem.W.method_cls I.kIn r.ga (PySem.W.cls_value I.kIn r.rd vV (by decide +kernel) ?_)
  show wpAny _ _ (callWith pos (Value.builtin "ValueError.__init__") [] (backTo pos (starEach (e :: es) X.env)) []) _ _ _
  refine PyProof.Rows.callWith_method1 (thn (ha.run pos pins _ σ H _ (I.tok _) h) fun us s1 ⟨vs, H1, I1, r1, a, C, ws, ev, hl, T, ea, q⟩ => ?_) he hpl
  subst ev
  cases r1 with
  | @cons _ u0 _ ur ra rw' =>
    obtain rfl : u0 = Value.ref a := ra
    have hlen : ur.length ≤ sizeLine := by
      rw [← Paired.length rw', sizeLine_eq]
      omega
    exact oinit_ok T I1 ea hlen fun s' J => ⟨.non, H1, J, rfl, q⟩
/-- C.m(a, ..), m a def of the class at C0 -/
theorem pe_cinit (hg : Gl X x) (hm : X.mg x = some (.ref C0)) (r : ClX.CRead X.K C0 mc) (vV : PySem.W.findCls X.K (.ref C0) mc m = some (.val (.ref fI))) (hh : PySem.W.handedIn (.ref fI) = true)
    (F : FnOk X.prog X.w X.K X.mg X.base CX k fI fd ps sp) (hr : Room k X.A) (hk : PySem.W.keepIn X.K (.ref fI) = true) (hb : Binds X.K fd ps ds) (hd : Vals dvs ds) (hx : Passes CX X E) (ha : PA X (e :: es) t)
    (hdb : (x == ("__debug__" : Str)) = false := by decide)
    (hc : eval (.Call (.Attribute (.Name x p1) m p2) (e :: es) [] pos) X.env = (do
      let ov ← eval (.Name x p1) X.env
      standAt p2.atName
      let (f, first) ← holding [ov] (getMethod ov m pl)
      callWith pos f first (backTo pos (starEach (e :: es) X.env)) (backToKw pos (keywordEach [] X.env))) := by rfl)
    (he : starEach (e :: es) X.env = (false, eval e X.env) :: starEach es X.env := by rfl) (hpl : (backTo pos (starEach es X.env)).any (·.1) = false := by rfl) :
    PE X (.Call (.Attribute (.Name x p1) m p2) (e :: es) [] pos) (tCall sp dvs E t) := by
  refine ⟨fun pins s σ H Q I h => ?_⟩
  refine PySem.W.methodCall_KW (ld_glob I hg hm ?_ hdb) hc
  refine PySem.W.method_cls I.kIn r.ga (PySem.W.cls_value I.kIn r.rd vV hh ?_)
  show wpAny _ _ (callWith pos (Value.ref fI) [] (backTo pos (starEach (e :: es) X.env)) []) _ _ _
  refine PySem.W.callWith_K (h₀ := X.base) I.ok.mod.kin hk (thn (ha.run pos pins _ σ H _ (I.tok _) h) fun us s1 ⟨vs, H1, I1, r, q⟩ => ⟨I1.kIn, ?_⟩) he hpl
  exact run_fn F hr hb hd hx I1 r q
end
end Z

/-! Z6: readings of lists: methods, stores, in, sum, sorted. -/
namespace Z
open PySem PySem.Spec PyProof.Rows L2
def rBm (K : PySem.W.Frag) (T : String) (r : V → List V → Hp → VK → Prop) (t : TA) (σ : L2.St) (x : V) (H1 : Hp) (Q : VK) : Prop := tyV K T x H1 ∧ t σ H1 fun xs H2 => r x xs H2 Q
section
variable {K : PySem.W.Frag} {T : String} {r : V → List V → Hp → VK → Prop} {t : TA} {to ti : TE} {σ : L2.St} {H : Hp} {Q : VK} {x y v : V} {l p : Addr} {xs : List V} {ns : List Int} {n : Int} {k : Nat} {ts : TSet} {QS : L2.St → Hp → Prop} {P : Hp → Prop}
theorem g_bm (h : to σ H fun x H1 => rBm K T r t σ x H1 Q) : tBM K T r to t σ H Q := h
theorem g_bm0 (h : to σ H fun x H1 => tyV K T x H1 ∧ r x [] H1 Q) : tBM0 K T r to σ H Q := h
theorem r_bmL (h : SqL K H l xs) (q : t σ H fun xs H2 => r (.ref l) xs H2 Q) : rBm K "list" r t σ (.ref l) H Q := ⟨.inl ⟨rfl, _, h⟩, q⟩
theorem r_append (h : H l = some (.lst xs)) (z : xs.length < sizeLine) (q : Q .non (upd H l (.lst (xs ++ [y])))) : rAppend (.ref l) [y] H Q := ⟨l, xs, y, rfl, rfl, h, z, q⟩
theorem r_extend {zs : List V} (h : H l = some (.lst xs)) (h2 : H p = some (.lst zs)) (z : xs.length + zs.length ≤ sizeLine) (q : Q .non (upd H l (.lst (xs ++ zs)))) : rExtend (.ref l) [.ref p] H Q := ⟨l, p, xs, zs, rfl, rfl, h, h2, z, q⟩
theorem seqIx (h : k < xs.length) : seqIndex? (k : Int) xs.length = some k := by
  unfold seqIndex?
  have e : (if (k : Int) < 0 then (k : Int) + (xs.length : Nat) else (k : Int)) = (k : Int) := if_neg (by omega)
  simp only [e]
  rw [if_pos (by simp; omega)]
  simp
theorem r_popAt (h : H l = some (.lst xs)) (z : xs.length < 2 ^ 62) (e : xs[k]? = some y) (q : Q y (upd H l (.lst (xs.eraseIdx k)))) : rPopAt (.ref l) [.int (k : Nat)] H Q := by
  have hk := (List.getElem?_eq_some_iff.mp e).1
  exact ⟨l, xs, k, k, y, rfl, rfl, h, by omega, by omega, seqIx hk, e, q⟩
def rInsert : V → List V → Hp → VK → Prop := fun x vs H Q => ∃ (l : Addr) (xs : List V) (i : Int) (y : V), x = .ref l ∧ vs = [.int i, y] ∧ H l = some (.lst xs) ∧ xs.length < sizeLine ∧ 0 ≤ i ∧ i < 2 ^ 63 ∧ Q .non (upd H l (.lst (xs.take i.toNat ++ [y] ++ xs.drop i.toNat)))
theorem mt_insertZ {X : Cx} : MtR X "list.insert" rInsert := mt_insert
theorem r_insert (h : H l = some (.lst xs)) (z : xs.length < sizeLine) (hk : k < 2 ^ 62) (q : Q .non (upd H l (.lst (xs.take k ++ [y] ++ xs.drop k)))) : rInsert (.ref l) [.int (k : Nat), y] H Q :=
  ⟨l, xs, k, y, rfl, rfl, h, z, by omega, by omega, q⟩
def rSubS (ts : TSet) (v : V) (QS : Hp → Prop) (o i : V) (H2 : Hp) : Prop := ts o i v H2 QS
theorem g_sub (h : to σ H fun o H1 => ti σ H1 fun i H2 => rSubS ts v (QS σ) o i H2) : gSub to ti ts v σ H QS := h
theorem r_setL (h : H l = some (.lst xs)) (hk : k < xs.length) (q : P (upd H l (.lst (xs.set k v)))) : rSubS rSetL v P (.ref l) (.int (k : Nat)) H := by
  refine ⟨l, xs, k, k, rfl, rfl, h, ?_, q⟩
  unfold ixN
  rw [if_pos (by omega), if_pos (by omega)]
  simp
theorem flat_ints : ∀ ns : List Int, (ns.map V.int).all flatV = true
  | [] => rfl
  | _ :: r => by rw [List.map_cons, List.all_cons, flat_ints r]; rfl
theorem in_ints (n : Int) : ∀ ns : List Int, inV (.int n) (ns.map V.int) = decide (n ∈ ns)
  | [] => by simp [inV]
  | m :: r => by
    have h := in_ints n r
    unfold inV at h ⊢
    rw [List.map_cons, List.any_cons, h]
    show (m == n || decide (n ∈ r)) = decide (n ∈ m :: r)
    by_cases e : n = m
    · subst e; simp
    · have e2 : (m == n) = false := by simpa using fun h : m = n => e h.symm
      rw [e2]
      simp [e]
theorem r_inL (h : SqL K H p (ns.map V.int)) (q : Q (.bl (decide (n ∈ ns))) H) : rIn K false (.int n) (.ref p) H Q := ⟨p, _, rfl, .inl h, rfl, flat_ints ns, by rw [in_ints]; exact q⟩
theorem r_ninL (h : SqL K H p (ns.map V.int)) (q : Q (.bl (!decide (n ∈ ns))) H) : rIn K true (.int n) (.ref p) H Q := ⟨p, _, rfl, .inl h, rfl, flat_ints ns, by rw [in_ints]; exact q⟩
theorem r_sum (h : SqL K H p (ns.map V.int)) (q : Q (.int ns.sum) H) : rSum K [.ref p] H Q := ⟨p, ns, rfl, h, q⟩
theorem r_sortI {B : Hp} {L : List Cell} (w : W B L H) (h : SqL K H p (ns.map V.int)) (q : ∀ (p' : Addr) (B' H' : Hp) (ms : List Int), ms.Perm ns → ms.Pairwise (· ≤ ·) → Same B B' → B' p' = some (.lst (ms.map V.int)) → W B' L H' → Q (.ref p') H') : rSortedI K [.ref p] H Q :=
  ⟨p, ns, rfl, h, fun ms p' h1 h2 hn => q p' _ _ ms h1 h2 (same_new (w.freeB hn)) upd_same (w.newB hn _)⟩
end
end Z

/-! Z12: exceptions of the program's own classes: made, raised, caught, asked. -/
namespace Z
open PySem PySem.Spec PyProof.Rows L2
/-- what the written part says of an exception's class -/
structure XC (K : PySem.W.Frag) (C : Addr) : Prop where
  ox : OexC K C
  ex : ExcC K C
  sl : PySem.W.subIn K (.ref C) (.ref C) = some true
section
variable {K : PySem.W.Frag} {A B C : Addr} {b : Bool}
theorem XC.xf (h : XC K C) : XfC K C := ⟨h.ex.hg, h.ex.hk, h.ex.hs, h.ex.hd⟩
theorem XC.exm (h : XC K C) (s : PySem.W.subIn K (.ref A) (.ref C) = some b) : PySem.W.exmOne K (.ref A) (.ref C) = some b := PySem.W.exm_ref h.ex.hs h.ex.hd h.ox.tyC s
theorem XC.kit (hA : XC K A) (h : XC K C) (s : PySem.W.subIn K (.ref A) (.ref C) = some b) : PySem.W.kitOne K (.ref A) (.ref C) = some b := by
  obtain ⟨cd, hc, _⟩ := PySem.W.any_some h.ex.hd
  unfold PySem.W.kitOne
  by_cases e : A = C
  · subst e
    rw [hA.sl] at s
    cases s
    simp
  · have e2 : (Value.ref A == Value.ref C) = false := by
      refine Bool.eq_false_iff.mpr fun q => e (Value.ref.inj (beq_iff_eq.mp q))
    rw [e2, if_neg Bool.false_ne_true]
    show (if ((PySem.W.clsIn K C).isSome && PySem.W.typeIn K (.ref C) == some (.type "type")) = true then PySem.W.subIn K (.ref A) (.ref C) else none) = some b
    have e3 : ((PySem.W.clsIn K C).isSome && PySem.W.typeIn K (.ref C) == some (.type "type")) = true := by rw [hc, h.ox.tyC] <;> rfl
    rw [if_pos e3, s]
theorem kitVE (s : PySem.W.subIn K (.ref A) (.type "ValueError") = some b) : PySem.W.kitOne K (.ref A) (.type "ValueError") = some b := by
  unfold PySem.W.kitOne
  have e2 : (Value.ref A == Value.type "ValueError") = false := Bool.eq_false_iff.mpr fun q => nomatch (beq_iff_eq.mp q)
  rw [e2, if_neg Bool.false_ne_true]
  have e3 : PySem.W.kitMeta "ValueError" = true := by decide +kernel
  show (if PySem.W.kitMeta "ValueError" = true then PySem.W.subIn K (.ref A) (.type "ValueError") else none) = some b
  rw [if_pos e3, s]
end
/-! ### isinstance(e, c), e.f in a suite -/
def rIsX (K : PySem.W.Frag) (a : Addr) (cls : Value) (d : Option Addr) : List V → Hp → VK → Prop := fun xs H Q => ∃ (D : Addr) (c : V) (cv : Value) (b : Bool), xs = [.ref a, c] ∧ cls = .ref D ∧ XC K D ∧ (d = none ∨ ∃ dd fs, d = some dd ∧ H dd = some (.xd fs)) ∧ (∀ u, RelV c u → u = cv) ∧ PySem.W.kitOne K (.ref D) cv = some b ∧ Q (.bl b) H
theorem call_isX {X : Cx} {a : Addr} {oe : Obj} {cls : Value} {d : Option Addr} {pn : List (Addr × Obj)} (hz : Zc cls d oe) (hf : ∃ vs, oe.data = .fields vs) : CallR (X.suite a ((a, oe) :: pn)) (.builtin "isinstance") (rIsX X.K a cls d) := by
  intro pins s σ H xs us Q I r h
  obtain ⟨D, c, cv, b, rfl, rfl, C, hd, hcv, e, q⟩ := h
  cases r with
  | cons rx rr =>
    cases rr with
    | cons rt rr =>
      cases rr
      cases rx
      have ec := hcv _ rt
      subst ec
      obtain ⟨hget, _⟩ := I.pin (a, oe) (List.mem_append.mpr (.inl List.mem_cons_self))
      obtain ⟨vs, hv⟩ := hf
      have hcl : (PySem.W.clsIn X.K D).isSome = true := by
        obtain ⟨cd, hc, _⟩ := PySem.W.any_some C.ex.hd
        rw [hc]
        rfl
      obtain ⟨od, J⟩ : ∃ od : Option Obj, PySem.W.InstAt s.heap a oe D od := by
        rcases hd with rfl | ⟨dd, fs, rfl, ed⟩
        · refine ⟨none, ?_⟩
          obtain ⟨oc, od, oda, osl⟩ := oe
          obtain ⟨h1, h2⟩ := hz
          dsimp only at h1 h2 hv
          subst h1 h2 hv
          exact ⟨hget, rfl, rfl, trivial⟩
        · have hx : ObjOk X.prog X.w H s.heap dd (.xd fs) := I.hok dd _ ed
          obtain ⟨mA, hns, hr⟩ := hx
          obtain ⟨od, ho, hl⟩ := lookIn_ns hns
          exact ⟨some od, hget, hz.1, by unfold PySem.W.notCls; rw [hv] <;> rfl, by rw [hz.2]; exact ho⟩
      exact PySem.W.kia_one (PySem.W.kitx_exc hcl C.ex.hg C.ex.hk C.ex.hs C.ex.ha C.ex.hn C.ex.ht C.ex.hm) I.kIn J e (fun z => nomatch z) fun tk => ⟨.bl b, H, I.kept (t' := tk) fun _ _ z => z, rfl, q⟩
def rXf (K : PySem.W.Frag) (a : Addr) (cls : Value) (d : Option Addr) (f : Str) (Q : VK) (x : V) (H1 : Hp) : Prop := x = .ref a ∧ ∃ (C dd : Addr) (fs : List (Str × V)) (v : V), cls = .ref C ∧ XC K C ∧ PySem.W.findIn K (.ref C) f = some none ∧ d = some dd ∧ H1 dd = some (.xd fs) ∧ fs.lookup f = some v ∧ Q v H1
def tXfA (K : PySem.W.Frag) (a : Addr) (cls : Value) (d : Option Addr) (f : Str) (te : TE) : TE := fun σ H Q => te σ H (rXf K a cls d f Q)
theorem pe_xfA {X : Cx} {a : Addr} {oe : Obj} {cls : Value} {d : Option Addr} {pn : List (Addr × Obj)} {e : Expr} {te : TE} {pos : Pos} {n : Str}
    (hz : Zc cls d oe) (hf : ∃ vs, oe.data = .fields vs) (he : PE (X.suite a ((a, oe) :: pn)) e te) (hb : attributeBase e n X.env (eval e X.env) = eval e X.env := by rfl) :
    PE (X.suite a ((a, oe) :: pn)) (.Attribute e n pos) (tXfA X.K a cls d n te) := by
  refine ⟨fun pins s σ H Q I h => ?_⟩
  refine attr_of hb (thn (he.run pins s σ H _ I h) fun u s1 hh => ?_)
  obtain ⟨x, H1, I1, rx, ex, C, dd, fs, v, ec, T, hno, ed, ea, l, q⟩ := hh
  subst ex
  obtain rfl : u = Value.ref a := rx
  subst ec
  subst ed
  obtain ⟨ha, _⟩ := I1.pin (a, oe) (List.mem_append_left _ List.mem_cons_self)
  obtain ⟨vs, hd⟩ := hf
  have hx : ObjOk X.prog X.w H1 s1.heap dd (.xd fs) := I1.hok dd _ ea
  obtain ⟨mA, hns, hr⟩ := hx
  obtain ⟨od, ho, hl⟩ := lookIn_ns hns
  obtain ⟨u, hu, ru⟩ := RelO.some_of (v := v) (o := mA n) (by rw [← l]; exact hr n)
  have J : PySem.W.InstAt s1.heap a oe C (some od) := ⟨ha, hz.1, by unfold PySem.W.notCls; rw [hd] <;> rfl, by rw [hz.2]; exact ho⟩
  exact HandSPX.exc_get I1.kIn J T.ex.hg T.ex.hk T.ex.hs (PySem.W.findObj_own T.ex.hd hno rfl (by rw [hl, hu])) (handed_of ru) ⟨v, H1, I1.tok _, ru, q⟩
/-! ### calls in a try's body -/
section
variable {X : Cx} {CX : CXT} {k : Nat} {f C : Addr} {fd : FuncData} {ps : List Str} {sp : Sp} {E : L2.St → XK} {x m : Str} {p pos apos : Pos} {e o : Expr} {es : List Expr} {ta : TE} {t : TA} {ds : List Value} {dvs : List V}
theorem run_fnW {pins : List (Addr × Obj)} {σ : L2.St} {H : Hp} {s : Shared} {Q : VK} {us : List Value} {vs : List V} (F : FnOk X.prog X.w X.K X.mg X.base CX k f fd ps sp) (hr : Room k X.A) (hb : Binds X.K fd ps ds) (hd : Vals dvs ds) (hx : PassesAt CX X σ (E σ))
    (I : Inv X pins σ H s) (r : Vals vs us) (h : sp (vs ++ dvs) H Q (E σ)) : wpAny (model X.prog X.w) X.A (call (.ref f) us) (EP X pins σ Q) X.xe s := by
  have r2 : Vals (vs ++ dvs) (us ++ ds) := r.append hd
  have hl : (us ++ ds).length = ps.length := by rw [← r2.length]; exact F.len _ _ _ _ h
  refine wpAny_call (codeAny_mono (F.run X.A X.stack s H ⟨us, []⟩ (us ++ ds) (vs ++ dvs) Q (E σ) hr I.env0 (hb s us I.kIn hl) r2 h) fun r s' hq => ?_)
  cases r with
  | error e => exact hx pins H s e s' I hq
  | ok fl =>
    cases fl with
    | ret u => exact I.after hq
    | next => exact False.elim hq
    | brk => exact False.elim hq
    | cont => exact False.elim hq
def tCallW (sp : Sp) (dvs : List V) (E : L2.St → XK) (t : TA) : TE := fun σ H Q => t σ H fun vs H1 => sp (vs ++ dvs) H1 Q (E σ)
def tMethW (C : Addr) (m : Str) (sp : Sp) (dvs : List V) (E : L2.St → XK) (ta : TE) (t : TA) : TE := fun σ H Q => ta σ H fun x H1 => rMe C m (t σ H1 fun vs H2 => sp (x :: (vs ++ dvs)) H2 Q (E σ)) x H1
theorem pe_callW (F : FnOk X.prog X.w X.K X.mg X.base CX k f fd ps sp) (hr : Room k X.A) (hg : Gl X x) (hm : X.mg x = some (.ref f)) (hk : PySem.W.keepIn X.K (.ref f) = true) (hb : Binds X.K fd ps ds) (hd : Vals dvs ds) (hx : ∀ σ, PassesAt CX X σ (E σ))
    (ha : PA X (e :: es) t) (hdb : (x == ("__debug__" : Str)) = false := by decide) (he : starEach (e :: es) X.env = (false, eval e X.env) :: starEach es X.env := by rfl) (hpl : (backTo pos (starEach es X.env)).any (·.1) = false := by rfl) :
    PE X (.Call (.Name x p) (e :: es) [] pos) (tCallW sp dvs E t) := by
  refine ⟨fun pins s σ H Q I h => ?_⟩
  refine wpAny_Call_Name_kw (ld_glob I hg hm ?_ hdb)
  refine PySem.W.callWith_K (h₀ := X.base) I.ok.mod.kin hk (thn (ha.run pos pins s σ H _ I h) fun us s1 ⟨vs, H1, I1, r, q⟩ => ⟨I1.kIn, ?_⟩) he hpl
  exact run_fnW F hr hb hd (hx σ) I1 r q
theorem pe_methW {pl : Sem Bool} (he : PE X o ta) (c : Cls X.K C) (hm : Meth X.K C m f) (F : FnOk X.prog X.w X.K X.mg X.base CX k f fd ps sp) (hr : Room k X.A) (hb : Binds X.K fd ps ds) (hd : Vals dvs ds) (hx : ∀ σ, PassesAt CX X σ (E σ)) (ha : PA X (e :: es) t)
    (hst : starEach (e :: es) X.env = (false, eval e X.env) :: starEach es X.env := by rfl) (hpl : (backTo pos (starEach es X.env)).any (·.1) = false := by rfl)
    (ht : eval (.Call (.Attribute o m apos) (e :: es) [] pos) X.env = (do
      let ov ← eval o X.env
      standAt apos.atName
      let (f, first) ← holding [ov] (getMethod ov m pl)
      callWith pos f first (backTo pos (starEach (e :: es) X.env)) (backToKw pos (keywordEach [] X.env))) := by rfl) :
    PE X (.Call (.Attribute o m apos) (e :: es) [] pos) (tMethW C m sp dvs E ta t) := by
  refine ⟨fun pins s σ H Q I h => ?_⟩
  refine PySem.W.methodCall_KW (pl := pl) (thn (he.run pins s σ H _ I h) fun u s1 ⟨x, H1, I1, rx, a, dx, fs, ex, ea, l, q⟩ => ?_) ht
  subst ex
  obtain rfl : u = Value.ref a := rx
  refine getmeth_ok I1 ea c hm l ?_
  refine PySem.W.callWith_K (first := [.ref a]) (h₀ := X.base) I.ok.mod.kin hm.kp (thn (ha.run pos pins s1 σ H1 _ I1 q) fun us s2 ⟨vs, H2, I2, r, q2⟩ => ⟨I2.kIn, ?_⟩) hst hpl
  exact run_fnW (us := .ref a :: us) (vs := .ref a :: vs) F hr hb hd (hx σ) I2 (.cons rfl r) q2
theorem pe_meth0W {pl : Sem Bool} (he : PE X o ta) (c : Cls X.K C) (hm : Meth X.K C m f) (F : FnOk X.prog X.w X.K X.mg X.base CX k f fd ps sp) (hr : Room k X.A) (hb : Binds X.K fd ps ds) (hd : Vals dvs ds) (hx : ∀ σ, PassesAt CX X σ (E σ))
    (ht : eval (.Call (.Attribute o m apos) [] [] pos) X.env = (do
      let ov ← eval o X.env
      standAt apos.atName
      let (f, first) ← holding [ov] (getMethod ov m pl)
      callWith pos f first (backTo pos (starEach [] X.env)) (backToKw pos (keywordEach [] X.env))) := by rfl) :
    PE X (.Call (.Attribute o m apos) [] [] pos) (tMethW C m sp dvs E ta tNil) := by
  refine ⟨fun pins s σ H Q I h => ?_⟩
  refine PySem.W.methodCall_KW (pl := pl) (thn (he.run pins s σ H _ I h) fun u s1 ⟨x, H1, I1, rx, a, dx, fs, ex, ea, l, q⟩ => ?_) ht
  subst ex
  obtain rfl : u = Value.ref a := rx
  refine getmeth_ok I1 ea c hm l ?_
  exact PySem.W.callWith_K0 (first := [.ref a]) I1.kIn hm.kp (run_fnW (us := [.ref a]) (vs := [.ref a]) F hr hb hd (hx σ) I1 (.cons rfl .nil) q)
end
/-! ### raise C(e), C's __init__ keeping one field -/
def rMkO (C : Addr) (sp : Sp) (dvs : List V) (Q : XK) (vs : List V) (H1 : Hp) : Prop := vs.length ≤ 1000 ∧ ∀ a, H1 a = none → sp (.ref a :: (vs ++ dvs)) (upd H1 a (exo a C none))
  (fun v H2 => v = .non ∧ ∃ (d : Addr) (fs : List (Str × V)), H2 a = some (exo a C (some d)) ∧ H2 d = some (exd d fs) ∧ H1 d = none ∧ Q (.ref C) (some d) (upd (del H2 a) d (.xd fs))) (fun _ _ _ => False)
def tRaiseO (C : Addr) (sp : Sp) (dvs : List V) (WW : WX) (ta : TA) : TS := fun _ σ H => ta σ H (rMkO C sp dvs fun cls d H' => WW cls d σ H')
section
variable {X : Cx} {WW : WX} {x : Str} {C fI : Addr} {k : Nat} {fd : FuncData} {ps : List Str} {sp : Sp} {ds : List Value} {dvs : List V} {CX : CXT} {e : Expr} {es : List Expr} {ta : TA} {p pos pos2 : Pos}
theorem ps_raiseO (hc : X.calm = true) (tk : Takes X WW) (T : XC X.K C) (iC : PySem.W.findIn X.K (.ref C) "__init__" = some (some (.ref fI))) (tI : PySem.W.typeIn X.K (.ref fI) = some (.type "function"))
    (F1 : FnOk X.prog X.w X.K X.mg X.base CX k fI fd ps sp) (hr : Room (k + 1) X.A) (hb : Binds X.K fd ps ds) (hd : Vals dvs ds) (hx : Passes CX X (fun _ _ _ => False)) (hg : Gl X x) (hm : X.mg x = some (.ref C)) (ha : PA X (e :: es) ta)
    (hdb : (x == ("__debug__" : Str)) = false := by decide) (he : starEach (e :: es) X.env = (false, eval e X.env) :: starEach es X.env := by rfl) (hpl : (backTo pos (starEach es X.env)).any (·.1) = false := by rfl) :
    PS X (.Raise (some (.Call (.Name x p) (e :: es) [] pos)) none pos2) (tRaiseO C sp dvs WW ta) :=
  ps_raise hc tk (pmk_oex T.ox iC tI F1 hr hb hd hx hg hm ha hdb he hpl)
end
section
variable {K : PySem.W.Frag} {σ : L2.St} {B H : Hp} {L : List Cell} {C a : Addr} {sp : Sp} {dvs : List V} {WW Wout : WX} {ta : TA} {te to : TE} {D : Ends} {Q : VK} {QX : XK} {f : Str} {v y : V} {cls c : Value} {d : Option Addr} {i : Nat} {ts : Addr → Value → Option Addr → TS} {tb : WX → TS} {P : Hp → Prop}
theorem g_raiseO (h : ta σ H (rMkO C sp dvs fun cls d H' => WW cls d σ H')) : tRaiseO C sp dvs WW ta D σ H := h
/-- the promise of an __init__ that keeps one field -/
def spX1 (C : Addr) (f : Str) : Sp := Sp2 fun x y H Q _ => ∃ a, x = .ref a ∧ H a = some (exo a C none) ∧ ∀ d, H d = none → d ≠ a → Q .non (upd (upd H d (exd d [(f, y)])) a (exo a C (some d)))
theorem r_raiseX1 (w : W B L H) (q : ∀ d B' H', Same B B' → B' d = some (.xd [(f, v)]) → W B' L H' → QX (.ref C) (some d) H') : rMkO C (spX1 C f) [] QX [v] H := by
  refine ⟨by simp, fun a ha => ⟨_, _, rfl, a, rfl, upd_same, fun d hd hda => ⟨rfl, d, [(f, v)], upd_same, by rw [upd_ne hda, upd_same], ?_, ?_⟩⟩⟩
  · rw [upd_ne hda] at hd; exact hd
  · have hd0 : H d = none := by rw [upd_ne hda] at hd; exact hd
    have e : upd (del (upd (upd (upd H a (exo a C none)) d (exd d [(f, v)])) a (exo a C (some d))) a) d (.xd [(f, v)]) = upd H d (.xd [(f, v)]) := by
      funext b
      by_cases hb : b = d
      · subst hb; rw [upd_same, upd_same]
      · rw [upd_ne hb, upd_ne hb]
        by_cases hb2 : b = a
        · subst hb2; rw [del_same, ha]
        · rw [del_ne hb2, upd_ne hb2, upd_ne hb, upd_ne hb2]
    rw [e]
    exact q d _ _ (same_new (w.freeB hd0)) upd_same (w.newB hd0 _)
def rOst (K : PySem.W.Frag) (f : Str) (P : Hp → Prop) (y x : V) (H2 : Hp) : Prop := ∃ a C : Addr, x = .ref a ∧ OexC K C ∧ PySem.W.findIn K (.ref C) f = some none ∧
  ((H2 a = some (exo a C none) ∧ ∀ dx, H2 dx = none → dx ≠ a → P (upd (upd H2 dx (exd dx [(f, y)])) a (exo a C (some dx)))) ∨
    ∃ (dx : Addr) (fs : List (Str × V)), H2 a = some (exo a C (some dx)) ∧ H2 dx = some (exd dx fs) ∧ fs.length ≤ 900 ∧ P (upd H2 dx (exd dx ((f, y) :: fs))))
theorem g_ost (h : te σ H fun y H1 => to σ H1 (rOst K f (D.nx σ) y)) : tOst K f to te D σ H := h
theorem r_ost (T : OexC K C) (hno : PySem.W.findIn K (.ref C) f = some none) (h : H a = some (exo a C none)) (q : ∀ dx, H dx = none → dx ≠ a → P (upd (upd H dx (exd dx [(f, y)])) a (exo a C (some dx)))) : rOst K f P y (.ref a) H :=
  ⟨a, C, rfl, T, hno, .inl ⟨h, q⟩⟩
def rVei (K : PySem.W.Frag) (Q : VK) (vs : List V) (H1 : Hp) : Prop := ∃ (a C : Addr) (ws : List V), vs = .ref a :: ws ∧ ws.length ≤ 1000 ∧ OexC K C ∧ H1 a = some (exo a C none) ∧ Q .non H1
theorem g_vei (h : ta σ H (rVei K Q)) : tVeI K ta σ H Q := h
theorem r_vei {ws : List V} (T : OexC K C) (hl : ws.length ≤ 1000) (h : H a = some (exo a C none)) (q : Q .non H) : rVei K Q (.ref a :: ws) H := ⟨a, C, ws, rfl, hl, T, h, q⟩
/-! ### try: .. except C as e: .. -/
def tTryAs (K : PySem.W.Frag) (c : Value) (i : Nat) (tb : WX → TS) (ts : Addr → Value → Option Addr → TS) (Wout : WX) : TS := fun D σ H => tb (wAs K c i ts Wout D) D σ H
theorem g_tryAs (h : tb (wAs K c i ts Wout D) D σ H) : tTryAs K c i tb ts Wout D σ H := h
theorem r_caught (hx : PySem.W.exmOne K cls c = some true) (h : ∀ a, H a = none → ts a cls d { nx := fun σ' H' => D.nx (σ'.set i none) H', rt := D.rt, bk := fun σ' H' => D.bk (σ'.set i none) H', ct := fun σ' H' => D.ct (σ'.set i none) H' } (σ.set i (some (.ref a))) H) : wAs K c i ts Wout D cls d σ H :=
  ⟨true, hx, fun _ => h, nofun⟩
theorem r_passed (hx : PySem.W.exmOne K cls c = some false) (h : Wout cls d σ H) : wAs K c i ts Wout D cls d σ H := ⟨false, hx, nofun, fun _ => h⟩
theorem g_xfA (h : te σ H (rXf K a cls d f Q)) : tXfA K a cls d f te σ H Q := h
theorem r_xf {fs : List (Str × V)} {dd : Addr} (T : XC K C) (hno : PySem.W.findIn K (.ref C) f = some none) (h : H dd = some (.xd fs)) (l : fs.lookup f = some v) (q : Q v H) : rXf K a (.ref C) (some dd) f Q (.ref a) H :=
  ⟨rfl, C, dd, fs, v, rfl, T, hno, rfl, h, l, q⟩
theorem r_isXC {fs : List (Str × V)} {dd A : Addr} {b : Bool} (TA : XC K A) (TC : XC K C) (s : PySem.W.subIn K (.ref A) (.ref C) = some b) (h : H dd = some (.xd fs)) (q : Q (.bl b) H) : rIsX K a (.ref A) (some dd) [.ref a, .ref C] H Q :=
  ⟨A, .ref C, .ref C, b, rfl, rfl, TA, .inr ⟨dd, fs, rfl, h⟩, fun u r => r, TA.kit TC s, q⟩
theorem r_isXV {fs : List (Str × V)} {dd A : Addr} {b : Bool} (TA : XC K A) (s : PySem.W.subIn K (.ref A) (.type "ValueError") = some b) (h : H dd = some (.xd fs)) (q : Q (.bl b) H) : rIsX K a (.ref A) (some dd) [.ref a, .ty "ValueError"] H Q :=
  ⟨A, .ty "ValueError", .type "ValueError", b, rfl, rfl, TA, .inr ⟨dd, fs, rfl, h⟩, fun u r => r, kitVE s, q⟩
theorem g_callW {E : L2.St → XK} {t : TA} (h : t σ H fun vs H1 => sp (vs ++ dvs) H1 Q (E σ)) : tCallW sp dvs E t σ H Q := h
theorem g_methW {E : L2.St → XK} {t : TA} {ta0 : TE} {m : Str} (h : ta0 σ H fun x H1 => rMe C m (t σ H1 fun vs H2 => sp (x :: (vs ++ dvs)) H2 Q (E σ)) x H1) : tMethW C m sp dvs E ta0 t σ H Q := h
end
end Z
namespace Z
open PySem PySem.Spec PyProof.Rows L2
section
variable {X : Cx} {x n : Str} {c : Value} {i : Nat} {body suite : List Stmt} {b₀ : Stmt} {np pos pos' : Pos} {tb : WX → TS} {ts : Addr → Value → Option Addr → TS} {Wout : WX}
theorem ps_tryAs (hs : X.stack = X.env :: X.outer) (hf : X.env.frame = some X.env.locals) (hN : X.N.Nodup) (hi : X.N[i]? = some n) (hln : X.env.kindOf n = some .local) (hc : Names X x c) (tk : Takes X Wout)
    (hb : ∀ (W : WX) (pn : List (Addr × Obj)) (xe : Value → Shared → Prop), Takes (X.tr pn xe) W → PassesOwn (model X.prog X.w) X.A X.env xe → PSs (X.tr pn xe) body (tb W))
    (hsu : ∀ (a : Addr) (oe : Obj) (cls : Value) (d : Option Addr) (pn : List (Addr × Obj)), Zc cls d oe → (∃ vs, oe.data = .fields vs) → PSs (X.suite a ((a, oe) :: pn)) (b₀ :: suite) (ts a cls d)) :
    PS X (.Try body [.ExceptHandler (some (.Name x np)) (some n) (b₀ :: suite) pos'] [] [] pos) (tTryAs X.K c i tb ts Wout) := ps_try_as hs hf hN hi hln hc tk hb hsu
end
end Z

/-! Z13: isinstance of an instance of an own class; texts. -/
namespace Z
open PySem PySem.Spec PyProof.Rows L2
structure IC (K : PySem.W.Frag) (C : Addr) : Prop where
  cl : Cls K C
  hd : PySem.W.hasDictIn K C = true
  ty : PySem.W.typeIn K (.ref C) = some (.type "type")
  ha : PySem.W.findIn K (.ref C) "__class__" = some (some (.builtin "object.__class__"))
  hn : PySem.W.specialIn K (.builtin "object.__class__") "__get__" = some (some (.builtin "getset_descriptor.__get__"))
  ht : PySem.W.takesIn K (.builtin "object.__class__") = some true
  hm : PySem.W.mroIn K C (.type "object") = some true
  sl : PySem.W.subIn K (.ref C) (.ref C) = some true
section
variable {K : PySem.W.Frag} {A C a dx : Addr} {b : Bool} {H : Hp} {Q : VK} {fs : List (Str × V)}
theorem kit_own (hA : IC K A) (h : IC K C) (s : PySem.W.subIn K (.ref A) (.ref C) = some b) : PySem.W.kitOne K (.ref A) (.ref C) = some b := by
  obtain ⟨cd, hc, _⟩ := PySem.W.any_some h.hd
  unfold PySem.W.kitOne
  by_cases e : A = C
  · subst e
    rw [hA.sl] at s
    cases s
    simp
  · have e2 : (Value.ref A == Value.ref C) = false := by
      refine Bool.eq_false_iff.mpr fun q => e (Value.ref.inj (beq_iff_eq.mp q))
    rw [e2, if_neg Bool.false_ne_true]
    show (if ((PySem.W.clsIn K C).isSome && PySem.W.typeIn K (.ref C) == some (.type "type")) = true then PySem.W.subIn K (.ref A) (.ref C) else none) = some b
    have e3 : ((PySem.W.clsIn K C).isSome && PySem.W.typeIn K (.ref C) == some (.type "type")) = true := by rw [hc, h.ty] <;> rfl
    rw [if_pos e3, s]
theorem r_isiO (h : H a = some (.ins A dx fs)) (hA : IC K A) (hC : IC K C) (s : PySem.W.subIn K (.ref A) (.ref C) = some b) (q : Q (.bl b) H) : rIsi K [.ref a, .ref C] H Q :=
  ⟨.ref a, .ref C, .ref A, .ref C, b, rfl, .own C, .base (.ins h hA.cl hA.ha hA.hn hA.ht hA.hm), kit_own hA hC s, q⟩
end
section
variable {X : Cx} {WW : WX} {x m : Str} {C : Addr} {j : Nat} {p p2 pos pos2 : Pos}
/-- raise C('..'), C without an __init__ of its own -/
def tRaise0 (C : Addr) (WW : WX) : TS := fun _ σ H => WW (.ref C) none σ H
theorem ps_raise0 (hc : X.calm = true) (tk : Takes X WW) (q : PySem.W.excIn X.K C PySem.HandSPX.veTail "ValueError.__new__" = true) (T : XC X.K C) (gC : X.mg x = some (.ref C)) (hg : Gl X x) (hdb : (x == ("__debug__" : Str)) = false := by decide) :
    PS X (.Raise (some (.Call (.Name x p) [.Constant (.str m) j p2] [] pos)) none pos2) (tRaise0 C WW) :=
  ps_raise hc tk (pmk_own PySem.F.excBase_ValueError q gC T.ox.kC (raises_own T.ox.exC T.ox.tyC) hg hdb)
end
section
variable {K : PySem.W.Frag} {σ : L2.St} {H : Hp} {C A a : Addr} {WW : WX} {D : Ends} {Q : VK} {b : Bool}
theorem g_raise0 (h : WW (.ref C) none σ H) : tRaise0 C WW D σ H := h
theorem r_isXC0 (TA : XC K A) (TC : XC K C) (s : PySem.W.subIn K (.ref A) (.ref C) = some b) (q : Q (.bl b) H) : rIsX K a (.ref A) none [.ref a, .ref C] H Q :=
  ⟨A, .ref C, .ref C, b, rfl, rfl, TA, .inl rfl, fun u r => r, TA.kit TC s, q⟩
theorem r_isXV0 (TA : XC K A) (s : PySem.W.subIn K (.ref A) (.type "ValueError") = some b) (q : Q (.bl b) H) : rIsX K a (.ref A) none [.ref a, .ty "ValueError"] H Q :=
  ⟨A, .ty "ValueError", .type "ValueError", b, rfl, rfl, TA, .inl rfl, fun u r => r, kitVE s, q⟩
end
/-! texts -/
theorem str_ext {a b : Str} (h : a.cps = b.cps) : a = b := by cases a; cases b; cases h; rfl
theorem str_assoc (a b c : Str) : a ++ b ++ c = a ++ (b ++ c) := str_ext (Array.append_assoc ..)
theorem str_len (i : Int) (h : i.natAbs.log2 < 1920) : ((toString i : String) : Str).length ≤ 1921 := PyProof.Rows.int_text_len_1921 h
theorem app_len (a b : Str) : (a ++ b).length = a.length + b.length := Array.size_append ..
section
variable {K : PySem.W.Frag} {H : Hp} {σ : L2.St} {a : Addr} {u v x : V} {n : Nat} {t1 t2 t3 : TG} {Q : L2.St → Hp → Prop}
theorem g_tup3 (h : SqT K H a [u, v, x]) (hn : n = 3) (q : t1 u σ H fun σ' H' => t2 v σ' H' fun σ' H' => t3 x σ' H' Q) : gTup K n (gCons t1 (gCons t2 (gCons t3 gNil))) (.ref a) σ H Q :=
  ⟨a, _, rfl, h, hn.symm, u, _, rfl, (show t1 u σ H fun σ' H' => gCons t2 (gCons t3 gNil) [v, x] σ' H' Q from by
    have e2 : (fun σ' H' => gNil [] σ' H' Q) = Q := by funext a b; exact propext ⟨fun h => h.2, fun h => ⟨rfl, h⟩⟩
    have e3 : (fun σ' H' => gCons t3 gNil [x] σ' H' Q) = fun σ' H' => t3 x σ' H' Q := by
      funext σ' H'
      refine propext ⟨fun ⟨v', r, e, h⟩ => ?_, fun h => ⟨x, [], rfl, ?_⟩⟩
      · cases e
        rwa [e2] at h
      · rwa [e2]
    have e4 : (fun σ' H' => gCons t2 (gCons t3 gNil) [v, x] σ' H' Q) = fun σ' H' => t2 v σ' H' fun σ' H' => t3 x σ' H' Q := by
      funext σ' H'
      refine propext ⟨fun ⟨v', r, e, h⟩ => ?_, fun h => ⟨v, [x], rfl, ?_⟩⟩
      · cases e
        rwa [e3] at h
      · rwa [e3]
    rw [e4]
    exact q)⟩
end
section
variable {K : PySem.W.Frag} {H : Hp} {σ : L2.St} {to te : TE} {Q : VK} {r : V → List V → Hp → VK → Prop} {z : Str} {p : Addr} {ys : List Str}
def rM1 (r : V → List V → Hp → VK → Prop) (te : TE) (σ : L2.St) (Q : VK) (x : V) (H1 : Hp) : Prop := (∃ a, x = .str a) ∧ te σ H1 fun y H2 => r x [y] H2 Q
theorem g_m1 (h : to σ H (rM1 r te σ Q)) : tM1 r to te σ H Q := h
theorem r_m1 (q : te σ H fun y H2 => r (.str z) [y] H2 Q) : rM1 r te σ Q (.str z) H := ⟨⟨z, rfl⟩, q⟩
theorem join3 (s a b c : Str) : Txt.join s [a, b, c] = a ++ s ++ b ++ s ++ c := by
  first | rfl | (unfold Txt.join glued; simp [str_assoc])
end
section
variable {X : Cx} {K : PySem.W.Frag} {e : Expr} {ta : TE} {f : Str} {pos : Pos}
/-- a field, read in a comprehension: the frame's K is told -/
theorem pe_fldK (he : PE X e ta) (hb : attributeBase e f X.env (eval e X.env) = eval e X.env) (hK : X.K = K) : PE X (.Attribute e f pos) (tFld K ta f) := by
  subst hK
  exact pe_fld he hb
end
end Z

/-! Z14: texts sign by sign. -/
namespace Z
open PySem PySem.Spec PyProof.Rows L2
/-- the signs of a text -/
abbrev sg (z : Str) : List Nat := z.cps.toList
theorem sg_len (z : Str) : (sg z).length = z.length := Array.length_toList
theorem sg_ext {a b : Str} (h : sg a = sg b) : a = b := str_ext (Array.toList_inj.mp h)
theorem sg_app (a b : Str) : sg (a ++ b) = sg a ++ sg b := Array.toList_append
theorem cut_from (z : Str) (k : Nat) : sg (cutS z (some (k : Int)) none) = (sg z).drop k := by
  unfold cutS sg
  simp only [HT.sIx]
  rw [if_neg (by omega), Int.toNat_natCast]
  have hl : z.cps.toList.length = z.length := Array.length_toList
  by_cases h : k ≤ z.length
  · rw [Nat.min_eq_left h]
    show List.take _ _ = _
    exact List.take_of_length_le (by rw [List.length_drop, hl]; omega)
  · rw [List.drop_eq_nil_of_le (show z.cps.toList.length ≤ k by omega)]
    show List.take _ _ = _
    rw [List.drop_eq_nil_of_le (by rw [hl]; omega)]
    simp
theorem cut_to (z : Str) (k : Nat) : sg (cutS z none (some (k : Int))) = (sg z).take k := by
  unfold cutS sg
  simp only [HT.sIx]
  rw [if_neg (by omega), Int.toNat_natCast]
  have hl : z.cps.toList.length = z.length := Array.length_toList
  show List.take _ (List.drop 0 _) = _
  rw [List.drop_zero]
  by_cases h : k ≤ z.length
  · rw [Nat.min_eq_left h, Nat.sub_zero]
  · rw [Nat.min_eq_right (by omega), Nat.sub_zero, List.take_of_length_le (by rw [hl]; omega), List.take_of_length_le (by rw [hl]; omega)]
theorem starts_dash (z : Str) : Txt.startswith z "-" = decide ((sg z).head? = some 45) := by
  have e1 : ("-" : Str) = ⟨#[45]⟩ := by decide
  rw [e1]
  obtain ⟨⟨l⟩⟩ := z
  cases l with
  | nil => rfl
  | cons c r =>
    have e2 : Builtin.Str.subAt ⟨⟨c :: r⟩⟩ ⟨#[45]⟩ 0 = decide (c = 45) := by
      unfold Builtin.Str.subAt
      show (Array.extract (List.toArray (c :: r)) 0 (0 + 1) == #[45]) = _
      rw [List.extract_toArray]
      by_cases h : c = 45
      · subst h; simp [List.extract]
      · simp [List.extract, h]
    have e3 : (0 + (⟨#[45]⟩ : Str).length ≤ (⟨⟨c :: r⟩⟩ : Str).length) := by
      show 0 + 1 ≤ (c :: r).length
      simp
    show (decide _ && Builtin.Str.subAt _ _ 0) = _
    rw [decide_eq_true e3, e2, Bool.true_and]
    show _ = decide (some c = some 45)
    simp
section
variable {σ : L2.St} {H : Hp} {D : Ends} {tb : TS} {g : TG} {R : It → Hp → Prop} {te : TE} {z : Str}
def rStrIt (R : It → Hp → Prop) (v : V) (H1 : Hp) : Prop := ∃ x, v = .str x ∧ R (Its x) H1
theorem g_istr (h : te σ H (rStrIt R)) : iStr te σ H R := h
theorem r_istr (q : R (Its z) H) : rStrIt R (.str z) H := ⟨z, rfl, q⟩
/-- a loop over the signs of a text; both ways out by one word J -/
theorem FOR.strJ (J : L2.St → Hp → Prop) (hJ : ∀ σ H, J σ H → D.nx σ H) (Pv : Nat → L2.St → Hp → Prop) (h0 : Pv 0 σ H)
    (hs : ∀ N : L2.St → Hp → Prop, (∀ σ' H', J σ' H' → N σ' H') → ∀ i c σ H, (sg z)[i]? = some c → Pv i σ H → g (.str ⟨#[c]⟩) σ H fun σ2 H2 => tb { D with nx := Pv (i + 1), ct := Pv (i + 1), bk := N } σ2 H2) (hd : ∀ σ H, Pv (sg z).length σ H → J σ H) : FOR (Its z) g tb D σ H := by
  refine ⟨fun i m σ H => m + i = (sg z).length ∧ Pv i σ H, ⟨(sg z).length, by omega, h0⟩, fun i m σ H ⟨hm, p⟩ => ?_⟩
  have hz : (sg z).length = z.cps.size := Array.length_toList
  by_cases c : i = (sg z).length
  · subst c
    exact .inl ⟨by show z.cps.size ≤ _; omega, hJ _ _ (hd _ _ p)⟩
  · refine .inr ⟨by show i < z.cps.size; omega, Pv (i + 1), fun σ' H' h' => ⟨m - 1, by omega, by omega, h'⟩, fun x H' hy => ?_⟩
    obtain ⟨rfl, c, hc, rfl⟩ := hy
    exact hs D.nx hJ i c σ _ (by rw [Array.getElem?_toList]; exact hc) p
end
section
variable {K : PySem.W.Frag} {B H H1 : Hp} {L : List Cell} {D : Addr} {Q : VK} {g : TG} {tt : TT} {te : TE} {vs : List Nat} {σ : L2.St} {z : Str}
/-- a comprehension over the signs of a text -/
theorem LC.str (w : W B L H1) (hD : H1 D = none) (hlen : z.length < sizeLine) (Pv : Nat → Hp → List V → Prop) (h0 : Pv 0 B [])
    (hs : ∀ i c B' acc H (Nx : Hp → Prop), (sg z)[i]? = some c → Same B B' → W B' ((D, .lst acc) :: L) H → Pv i B' acc → acc.length ≤ i → acc.length < sizeLine →
      (∀ B'' acc' H', Same B' B'' → W B'' ((D, .lst acc') :: L) H' → Pv (i + 1) B'' acc' → acc'.length ≤ i + 1 → Nx H') →
      g (.str ⟨#[c]⟩) (wipe σ vs) H fun σ2 H2 => wipe σ2 vs = wipe σ vs ∧ tt σ2 H2 fun b H3 => Br b (te σ2 H3 (rAcc D Nx)) (Nx H3))
    (hd : ∀ B' B'' acc H, Same B B'' → Same' B' B'' → B'' D = some (.lst acc) → W B'' L H → Pv (sg z).length B' acc → acc.length ≤ (sg z).length → Q (.ref D) H) : LC (Its z) D g tt te vs σ H1 Q := by
  have hz : (sg z).length = z.cps.size := Array.length_toList
  refine ⟨fun i m H => m + i = (sg z).length ∧ ∃ B' acc, Same B B' ∧ W B' ((D, .lst acc) :: L) H ∧ Pv i B' acc ∧ acc.length ≤ i, ⟨(sg z).length, by omega, B, [], same_refl B, w.newL hD _, h0, Nat.le_refl _⟩, ?_⟩
  rintro i m H ⟨hm, B', acc, s, w', p, l⟩
  have hzl : (sg z).length = z.length := Array.length_toList
  by_cases c : i = (sg z).length
  · subst c
    exact .inl ⟨by show z.cps.size ≤ _; omega, hd B' _ acc H (same_trans s (same_new (w'.out _ (List.mem_cons_self ..)))) (same_new (w'.out _ (List.mem_cons_self ..))) upd_same w'.give p l⟩
  · refine .inr ⟨by show i < z.cps.size; omega, fun H' => ∃ B'' acc', Same B B'' ∧ W B'' ((D, .lst acc') :: L) H' ∧ Pv (i + 1) B'' acc' ∧ acc'.length ≤ i + 1, fun H' p' => ⟨m - 1, by omega, by omega, p'⟩, fun v H' hy => ?_⟩
    obtain ⟨rfl, c, hc, rfl⟩ := hy
    exact hs i c B' acc _ _ (by rw [Array.getElem?_toList]; exact hc) s w' p l (by omega) fun B'' acc' H' s' w'' p' l' => ⟨B'', acc', same_trans s s', w'', p', l'⟩
end
theorem atI_nat0 {cs : List Nat} (h : 0 < cs.length) : atI cs 0 = cs[0]? := by
  unfold atI ixN
  rw [if_pos (by decide), if_pos (by omega)]
  rfl
/-! what a number's text looks like -/
def digs (cs : List Nat) : Bool := cs.all fun c => decide (48 ≤ c ∧ c ≤ 57)
def figs (z : Str) : List Nat := if (sg z).head? = some 45 then (sg z).drop 1 else sg z
def isNum (z : Str) : Bool := decide (1 ≤ (figs z).length) && decide ((figs z).length ≤ 60) && digs (figs z) && (decide ((figs z).head? ≠ some 48) || decide (sg z = [48]))
theorem digs_all {cs : List Nat} (h : digs cs = true) : NumText.AllDigits cs := fun c hc => by
  have := List.all_eq_true.mp h c hc
  exact of_decide_eq_true this
theorem num_text {z : Str} (h1 : 1 ≤ (figs z).length) (h2 : digs (figs z) = true) (h3 : z.length ≤ 640) : ∃ n, intText? z = some n := by
  unfold figs at h1 h2
  by_cases c : (sg z).head? = some 45
  · rw [if_pos c] at h1 h2
    have e : sg z = 45 :: (sg z).drop 1 := by
      cases hz : sg z with
      | nil => rw [hz] at c; cases c
      | cons a r => rw [hz] at c; cases c; rfl
    exact ⟨_, PySem.intText_neg e (digs_all h2) (List.length_pos_iff.mp h1) (by omega)⟩
  · rw [if_neg c] at h1 h2
    exact ⟨_, PySem.intText_digits (digs_all h2) (List.length_pos_iff.mp h1) (by omega)⟩
end Z
namespace Z
open PySem PySem.Spec PyProof.Rows L2
theorem cutS_len (z : Str) (lo hi : Option Int) : (cutS z lo hi).length ≤ z.length := by
  have h := congrArg List.length (show sg (cutS z lo hi) = (z.cps.toList.drop (HT.sIx z.length 0 lo)).take (HT.sIx z.length z.length hi - HT.sIx z.length 0 lo) from rfl)
  rw [sg_len, List.length_take, List.length_drop, Array.length_toList] at h
  have e : z.cps.size = z.length := rfl
  omega
theorem atS_ex {ns : List Str} {i : Int} (h0 : 0 ≤ i) (h1 : i < ns.length) : ∃ v, v ∈ ns ∧ atI (ns.map V.str) i = some (.str v) := by
  have hl : i.toNat < ns.length := by omega
  refine ⟨ns[i.toNat], List.getElem_mem _, ?_⟩
  rw [atI_nat' h0 (by rw [List.length_map]; exact h1), List.getElem?_map, List.getElem?_eq_getElem hl]
  rfl
section
variable {H : Hp} {Q : VK} {z : Str} {lo hi : Option Int}
theorem r_slS (h : z.length ≤ sizeLine) (q : Q (.str (cutS z lo hi)) H) : rSlS (.str z) lo hi H Q := ⟨z, rfl, h, q⟩
end
end Z
namespace Z
open PySem PySem.Spec PyProof.Rows L2
theorem fold_size (a : Array Nat) : ∀ (k : Nat) (acc : Array Nat), ((List.replicate k a).foldl (· ++ ·) acc).size = acc.size + k * a.size
  | 0, acc => by simp
  | k + 1, acc => by
    rw [List.replicate_succ, List.foldl_cons, fold_size a k, Array.size_append, Nat.succ_mul]
    omega
def repS (z : Str) (k : Nat) : Str := ⟨(List.replicate k z.cps).foldl (· ++ ·) #[]⟩
theorem repS_len (z : Str) (k : Nat) : (repS z k).length = k * z.length := by
  have := fold_size z.cps k #[]
  show ((List.replicate k z.cps).foldl (· ++ ·) #[]).size = _
  rw [this]
  simp
  rfl
/-- a sign, so many times -/
def rRepS : R2 := fun x y H Q => ∃ (z : Str) (k : Int), x = .str z ∧ y = .int k ∧ 2 ≤ k ∧ k ≤ 1000 ∧ z.length = 1 ∧ Q (.str (repS z k.toNat)) H
theorem op_rep_str {X : Cx} : OpR X (binaryOp .Mult) rRepS := by
  intro pins s σ H x y v u Q I rx ry h
  obtain ⟨z, k, rfl, rfl, h1, h2, hz, q⟩ := h
  obtain ⟨t, rfl⟩ := rx
  obtain ⟨t', rfl⟩ := ry
  have hk : (k == 1) = false := by simpa using (by omega : ¬ k = 1)
  have hl : (z.length == 0) = false := by rw [hz]; rfl
  have hlen := repS_len z k.toNat
  refine PySem.P.mul_str (by rw [decide_eq_false (by omega), decide_eq_false (by omega)]; rfl) (fun _ _ => ?_) (fun _ _ => ?_) ?_
  · rw [hz]
    have : (1000 : Int) ≤ (2 ^ 63 - 1) / k := by
      apply Int.le_ediv_of_mul_le (by omega)
      omega
    omega
  · rw [hz]
    exact decide_eq_false (by
      have : (1000 : Nat) ≤ sizeLine := by decide
      omega)
  · rw [if_neg (by omega), hk, hl]
    refine ⟨?_, ?_⟩
    · show (repS z k.toNat).length ≤ sizeLine
      rw [hlen, hz]
      have : (1000 : Nat) ≤ sizeLine := by decide
      omega
    · exact ⟨.str (repS z k.toNat), H, I.tok _, ⟨_, rfl⟩, q⟩
end Z

/-! Z15: the text of a number. -/
namespace Z
open PySem PySem.Spec PyProof.Rows L2 PySem.NumText PySem.W.KIN
abbrev nt (n : Int) : Str := Str.ofString (toString n)
theorem nt_len {n : Int} {k : Nat} (hk : 0 < k) (h : n.natAbs < 10 ^ k) : (nt n).length ≤ k + 1 := by
  rw [show (nt n).length = (toString n).length from PyProof.Rows.ofString_len _]
  exact PySem.int_text_length_le10 hk h
theorem sg_nat (m : Nat) : sg (nt (m : Int)) = (Nat.toDigits 10 m).map Char.toNat := signs_num m
theorem sg_neg (m : Nat) : sg (nt (Int.negSucc m)) = 45 :: (Nat.toDigits 10 (m + 1)).map Char.toNat := by
  show sg (Str.ofString ("-" ++ Nat.repr (m + 1))) = _
  show (Str.ofString ("-" ++ Nat.repr (m + 1))).cps.toList = _
  rw [signs_ofString, String.toList_append, List.map_append]
  rw [Nat.toList_repr]
  rfl
theorem digs_to (m : Nat) : AllDigits ((Nat.toDigits 10 m).map Char.toNat) := by
  intro c hc
  obtain ⟨ch, hch, e⟩ := List.mem_map.mp hc
  have r := digit_range (Nat.isDigit_of_mem_toDigits (by decide) (by decide) hch)
  rw [← e]
  exact r
theorem to_ne (m : Nat) : (Nat.toDigits 10 m).map Char.toNat ≠ [] := by
  intro e
  have h := toDigits_len_ge 10 m
  rw [List.map_eq_nil_iff.mp e] at h
  exact absurd h (by decide)
theorem nt_pos (n : Int) : 1 ≤ (nt n).length := by
  rw [← sg_len]
  cases n with
  | ofNat m =>
    show 1 ≤ (sg (nt (m : Int))).length
    rw [sg_nat]
    exact List.length_pos_iff.mpr (to_ne m)
  | negSucc m => rw [sg_neg]; simp
/-- the number a text tells is the number -/
theorem nt_reads {n : Int} (h : (nt n).length ≤ 4300) : intText? (nt n) = some n := by
  cases n with
  | ofNat m =>
    have hd : AllDigits (nt (m : Int)).cps.toList := by
      show AllDigits (sg (nt (m : Int)))
      rw [sg_nat]; exact digs_to m
    have hne : (nt (m : Int)).cps.toList ≠ [] := by
      show sg (nt (m : Int)) ≠ []
      rw [sg_nat]; exact to_ne m
    have e := intText_digits hd hne h
    rw [show (nt (m : Int)).cps.toList = _ from sg_nat m, val_back] at e
    exact e
  | negSucc m =>
    have e := PySem.intText_neg (x := nt (Int.negSucc m)) (sg_neg m) (digs_to _) (to_ne _) h
    rw [val_back] at e
    exact e
theorem to_head : ∀ m : Nat, 0 < m → ((Nat.toDigits 10 m).map Char.toNat).head? ≠ some 48 := by
  intro m
  induction m using Nat.strongRecOn with
  | _ m ih =>
    intro hp
    by_cases h : m < 10
    · rw [Nat.toDigits_of_lt_base h]
      have : ∀ d : Nat, d < 10 → 0 < d → ([Nat.digitChar d].map Char.toNat).head? ≠ some 48 := by decide
      exact this m h hp
    · have hm : m % 10 < 10 := Nat.mod_lt m (by decide)
      have t : Nat.toDigits 10 (m / 10) ++ Nat.toDigits 10 (m % 10) = Nat.toDigits 10 (10 * (m / 10) + m % 10) := Nat.toDigits_append_toDigits (by decide) (by omega) hm
      rw [Nat.div_add_mod] at t
      rw [← t, List.map_append]
      have := ih (m / 10) (by omega) (by omega)
      cases hh : (Nat.toDigits 10 (m / 10)).map Char.toNat with
      | nil => exact absurd hh (to_ne _)
      | cons a r => rw [hh] at this; exact this
theorem digs_of {cs : List Nat} (h : AllDigits cs) : digs cs = true := List.all_eq_true.mpr fun c hc => decide_eq_true (h c hc)
theorem to_45 (m : Nat) : ((Nat.toDigits 10 m).map Char.toNat).head? ≠ some 45 := by
  have h := digs_to m
  cases hh : (Nat.toDigits 10 m).map Char.toNat with
  | nil => exact absurd hh (to_ne _)
  | cons a r => rw [hh] at h; intro e; cases e; have := h.head; omega
theorem nt_figs {n : Int} (h0 : 0 ≤ n) : figs (nt n) = sg (nt n) := by
  obtain ⟨m, rfl⟩ := Int.eq_ofNat_of_zero_le h0
  unfold figs
  rw [sg_nat, if_neg (to_45 m)]
theorem nt_num {n : Int} (h : n.natAbs < 10 ^ 60) : isNum (nt n) = true := by
  cases n with
  | ofNat m =>
    have e : figs (nt (m : Int)) = (Nat.toDigits 10 m).map Char.toNat := by rw [nt_figs (by omega), sg_nat]
    have hl : (nt (m : Int)).length ≤ 60 := by
      rw [show (nt (m : Int)).length = (toString (m : Int)).length from PyProof.Rows.ofString_len _]
      show (Nat.repr m).length ≤ 60
      exact (Nat.length_repr_le_iff (by decide)).mpr h
    rw [← sg_len, sg_nat] at hl
    show isNum (nt (m : Int)) = true
    unfold isNum
    rw [e, digs_of (digs_to m), decide_eq_true hl, decide_eq_true (show 1 ≤ _ from List.length_pos_iff.mpr (to_ne m)), sg_nat]
    by_cases c : m = 0
    · subst c; decide
    · rw [decide_eq_true (to_head m (by omega))]; rfl
  | negSucc m =>
    have e : figs (nt (Int.negSucc m)) = (Nat.toDigits 10 (m + 1)).map Char.toNat := by
      unfold figs
      rw [sg_neg]
      rfl
    have hl : ((Nat.toDigits 10 (m + 1)).map Char.toNat).length ≤ 60 := by
      have : (Nat.repr (m + 1)).length ≤ 60 := (Nat.length_repr_le_iff (by decide)).mpr h
      rw [← String.length_toList, Nat.toList_repr] at this
      rw [List.length_map]; exact this
    unfold isNum
    rw [e, digs_of (digs_to _), decide_eq_true hl, decide_eq_true (show 1 ≤ _ from List.length_pos_iff.mpr (to_ne _)), decide_eq_true (to_head _ (by omega))]
    rfl
theorem log_lt {n : Int} {k b : Nat} (hb : 10 ^ k ≤ 2 ^ b) (h : n.natAbs < 10 ^ k) (hp : 0 < b) : n.natAbs.log2 < b := by
  by_cases c : n.natAbs = 0
  · rw [c]; simpa using hp
  · exact (Nat.log2_lt c).mpr (Nat.lt_of_lt_of_le h hb)
end Z
namespace Z
open PySem PySem.Spec PyProof.Rows L2
theorem atC_ex {z : Str} {i : Int} (h0 : 0 ≤ i) (h1 : i < z.length) : ∃ c, atI z.cps.toList i = some c := by
  have hz : z.cps.toList.length = z.length := Array.length_toList
  have hl : i.toNat < z.cps.toList.length := by omega
  exact ⟨z.cps.toList[i.toNat], by unfold atI ixN; rw [if_pos h0, if_pos (by omega), Option.bind_some, List.getElem?_eq_getElem hl]⟩
theorem ten_nat {m k : Nat} (h : (m : Int) < 10 ^ k) : m < 10 ^ k := by exact_mod_cast h
end Z

/-! Z16: a try whose body refuses nothing; texts cut at blanks. -/
namespace Z
open PySem PySem.Spec PyProof.Rows L2
section
variable {X : Cx} {x : Str} {c : Value} {body suite : List Stmt} {b₀ : Stmt} {np pos pos' : Pos} {tb : TS}
theorem ps_tryDead (hs : X.stack = X.env :: X.outer) (hf : X.env.frame = some X.env.locals) (hc : Names X x c) (hpa : ∀ hd : Option Value, PassesOwnAt (model X.prog X.w) (X.A.mark hd) X.A X.env X.xe)
    (hb : ∀ (pn : List (Addr × Obj)) (xe : Value → Shared → Prop), PassesOwn (model X.prog X.w) X.A X.env xe → PSs (X.tr pn xe) body tb) :
    PS X (.Try body [.ExceptHandler (some (.Name x np)) none (b₀ :: suite) pos'] [] [] pos) tb :=
  L2H.ps_try_onlyX (tb := fun _ => tb) (ts := fun _ _ _ _ _ _ => False) (Wout := fun _ _ _ _ => False) hs hf hc hpa (fun u s' x => by obtain ⟨a, B, sI, pins, σ, H, cls, d, e, I, nb, up, sky, na, os, ag, w⟩ := x; exact w.elim)
    (fun W pn xe _ _ po => hb pn xe po) (fun a oe cls d pn hz hf tk hot => ⟨fun pins s σ H D I h => h.elim⟩)
end
theorem split3 {a b c : Str} (ha : 32 ∉ sg a) (hb : 32 ∉ sg b) (hc : 32 ∉ sg c) : Txt.split (a ++ " " ++ b ++ " " ++ c) " " = [a, b, c] := by
  rw [← join3]
  refine TL.split_join (y := " ") (s := 32) (S := []) (by decide) (by decide +kernel) (by simp) ?_
  intro p hp
  simp only [List.mem_cons, List.not_mem_nil, or_false] at hp
  rcases hp with rfl | rfl | rfl
  · exact ha
  · exact hb
  · exact hc
theorem nt_blank (n : Int) : 32 ∉ sg (nt n) := by
  have h : ∀ m : Nat, 32 ∉ (Nat.toDigits 10 m).map Char.toNat := fun m hm => by
    have := digs_to m 32 hm
    omega
  cases n with
  | ofNat m => show 32 ∉ sg (nt (m : Int)); rw [sg_nat]; exact h m
  | negSucc m =>
    rw [sg_neg]
    intro hm
    rcases List.mem_cons.mp hm with e | e
    · cases e
    · exact h _ e
end Z
namespace Z
open PySem PySem.Spec PyProof.Rows L2
section
variable {K : PySem.W.Frag} {H : Hp} {Q : VK} {a b : Addr}
theorem dp_3b {x y z : Bool} (h : SqL K H a [.bl x, .bl y, .bl z]) : Dp K H (.ref a) (.list [.bool x, .bool y, .bool z]) := .lst h (.cons (.bl _) (.cons (.bl _) (.cons (.bl _) .nil)))
theorem r_ne3B {x y z : Bool} (h1 : SqL K H a [.bl x, .bl y, .bl z]) (h2 : SqL K H b [.bl x, .bl y, .bl z]) (q : Q (.bl false) H) : rNeD K (.ref a) (.ref b) H Q :=
  r_neD (dp_3b h1) (dp_3b h2) (by cases x <;> cases y <;> cases z <;> decide) q
theorem r_neO {o : Option Int} (q : Q (.bl false) H) : rNe (oV o) (oV o) H Q := ⟨by cases o <;> rfl, by rw [decide_eq_true rfl]; exact q⟩
theorem r_neBs {b : Bool} (q : Q (.bl false) H) : rNe (.bl b) (.bl b) H Q := ⟨rfl, by rw [decide_eq_true rfl]; exact q⟩
end
end Z

open PySem L2 Z
local macro_rules | `(tactic| wtm_at "side") => `(tactic| first | with_reducible assumption | omega | (show _ ∨ _; omega) | (show _ ∧ _; omega) | decide | with_reducible rfl | exact ⟨by decide, by decide, by decide⟩ | (refine ⟨?_, ?_, ?_⟩ <;> first | decide | omega | with_reducible assumption) | (refine ⟨?_, ?_⟩ <;> first | decide | omega | with_reducible assumption))
local macro_rules | `(tactic| wtm_at "mem") => `(tactic| first | with_reducible exact List.mem_cons_self .. | (with_reducible refine List.mem_cons_of_mem _ ?_; wtm_at "mem") | (with_reducible refine List.mem_append_left _ ?_; wtm_at "mem") | (with_reducible refine List.mem_append_right _ ?_; wtm_at "mem") | with_reducible assumption)
local macro_rules | `(tactic| wtm_at "rd") => `(tactic| first | with_reducible assumption | (with_reducible refine' W.get ?wtW ?wtQ; (case wtW => with_reducible assumption); (case wtQ => wtm_at "mem")) | (with_reducible refine' W.rd ?wtW ?wtQ; (case wtW => with_reducible assumption); (case wtQ => wtm_at "rd")) | (with_reducible refine' Z.Same.rd ?wtW ?wtQ; (case wtW => with_reducible assumption); (case wtQ => wtm_at "rd")))
local macro_rules | `(tactic| wtm_at "sq") => `(tactic| first | with_reducible assumption | (with_reducible refine SqL.of ?_; wtm_at "rd") | (with_reducible refine SqT.of ?_; wtm_at "rd") | (with_reducible refine' W.sq ?wtW ?wtQ; (case wtW => with_reducible assumption); (case wtQ => wtm_at "sq")) | (with_reducible refine' Z.Same.sq ?wtW ?wtQ; (case wtW => with_reducible assumption); (case wtQ => wtm_at "sq")) | (with_reducible refine' W.tq ?wtW ?wtQ; (case wtW => with_reducible assumption); (case wtQ => wtm_at "sq")) | (with_reducible refine' Z.Same.tq ?wtW ?wtQ; (case wtW => with_reducible assumption); (case wtQ => wtm_at "sq")))
local macro_rules | `(tactic| wtm_at "s0") => `(tactic| first
  | with_reducible refine g_seq ?_
  | with_reducible refine g_asg ?_
  | with_reducible refine g_name ?_
  | ((with_reducible refine' g_var ?gvE ?gvH); (case gvE => exact rfl))
  | with_reducible refine g_c ?_
  | with_reducible refine g_op ?_
  | with_reducible refine r_I0 ?_
  | ((with_reducible refine r_I ?gvE ?gvH); (case gvE => wtm_at "side"))
  | with_reducible refine g_test ?_
  | with_reducible refine g_tst ?_
  | with_reducible refine g_tB ?_
  | with_reducible refine r_eqI ?_
  | with_reducible refine r_neI ?_
  | with_reducible refine g_cons ?_
  | with_reducible refine g_nil ?_
  | with_reducible refine g_cb ?_
  | with_reducible refine g_call ?_
  | with_reducible refine g_ret ?_
  | with_reducible refine g_retN ?_
  | with_reducible refine g_next ?_
  | with_reducible refine g_un ?_
  | with_reducible refine r_U ?_
  | with_reducible refine g_chain ?_
  | with_reducible refine g_and ?_
  | with_reducible refine g_or ?_
  | with_reducible refine g_not ?_
  | with_reducible refine g_andV ?_
  | with_reducible refine g_orV ?_
  | with_reducible refine g_notV ?_
  | with_reducible refine g_if ?_
  | with_reducible refine brT ?_
  | with_reducible refine brF ?_
  | with_reducible refine brNT ?_
  | with_reducible refine brNF ?_
  | with_reducible refine br_rn ?_
  | with_reducible refine br_in ?_
  | with_reducible refine br_sn ?_
  | with_reducible refine br_nn ?_
  | with_reducible refine brN_rn ?_
  | with_reducible refine brN_in ?_
  | with_reducible refine brN_sn ?_
  | with_reducible refine brN_nn ?_
  | ((with_reducible refine br_pt ?gvE ?gvH); (case gvE => first | with_reducible assumption | omega | with_reducible rfl | (simp only [List.length_cons, List.length_nil]; done) | (simp only [List.length_cons, List.length_nil]; omega) | decide))
  | ((with_reducible refine br_pf ?gvE ?gvH); (case gvE => first | with_reducible assumption | omega | (simp only [List.length_cons, List.length_nil]; done) | (simp only [List.length_cons, List.length_nil]; omega) | decide))
  | ((with_reducible refine br_nt ?gvE ?gvH); (case gvE => first | with_reducible assumption | omega | (simp only [List.length_cons, List.length_nil]; done) | (simp only [List.length_cons, List.length_nil]; omega) | decide))
  | ((with_reducible refine br_nf ?gvE ?gvH); (case gvE => first | with_reducible assumption | omega | with_reducible rfl | (simp only [List.length_cons, List.length_nil]; done) | (simp only [List.length_cons, List.length_nil]; omega) | decide))
  | with_reducible refine isi_ii ?_
  | with_reducible refine isi_ib ?_
  | with_reducible refine isi_bi ?_
  | with_reducible refine isi_bb ?_
  | with_reducible refine isi_ni ?_
  | with_reducible refine isi_si ?_
  | with_reducible refine r_tup ?_
  | with_reducible refine r_lst ?_
  | with_reducible refine g_lc ?_
  | with_reducible refine g_for ?_
  | with_reducible refine g_rng1 ?_
  | with_reducible refine g_rng2 ?_
  | with_reducible refine g_ilist ?_
  | with_reducible refine g_itup ?_
  | ((with_reducible refine r_rng1 ?gvE ?gvH); (case gvE => wtm_at "side"))
  | ((with_reducible refine r_rng2 ?gvE ?gvH); (case gvE => wtm_at "side"))
  | with_reducible refine g_sl ?_
  | with_reducible refine g_nopart ?_
  | with_reducible refine g_part ?_
  | with_reducible refine r_part ?_
  | with_reducible refine g_fld ?_
  | with_reducible refine g_sfld ?_
  | with_reducible refine g_meth ?_
  | with_reducible refine g_make ?_
  | with_reducible refine g_din ?_
  | with_reducible refine g_dni ?_
  | with_reducible refine g_dge ?_
  | with_reducible refine g_dpu ?_
  | with_reducible refine r_isNo ?_
  | with_reducible refine r_notNo ?_
  | ((with_reducible refine' r_t0 ?gvE ?gvH); (case gvE => wtm_at "sq"))
  | ((with_reducible refine' r_t1 ?gvE ?gvH); (case gvE => wtm_at "sq"))
  | ((with_reducible refine' r_t2 ?gvE ?gvH); (case gvE => wtm_at "sq"))
  | ((with_reducible refine' g_tup2 ?gvE ?gvN ?gvH); (case gvE => wtm_at "sq"); (case gvN => rfl))
  | with_reducible refine g_dropE ?_
  | ((with_reducible refine' g_aug ?gvE ?gvH); (case gvE => exact rfl))
  | with_reducible refine g_ip ?_
  | with_reducible refine g_whb ?_
  | with_reducible refine g_yes ?_
  | with_reducible refine g_brk ?_
  | with_reducible refine g_cont ?_
  | with_reducible refine r_isB ?_
  | with_reducible refine r_notB ?_
  | with_reducible refine r_eqB ?_
  | with_reducible refine r_neB ?_
  | with_reducible refine r_eqS ?_
  | with_reducible refine r_neS ?_)
local macro_rules | `(tactic| wtm_at "s") => `(tactic| first | wtm_at "s0" | with_reducible refine g_ifS ?_)
/-! as far as it goes by itself; g0: up to the next if; br: either way -/
local macro_rules | `(tactic| wtm_at "g0") => `(tactic| repeat (wtm_at "s0"))
local macro_rules | `(tactic| wtm_at "br") => `(tactic| with_reducible first | refine br ?_ ?_ | refine brN ?_ ?_ | refine brB ?_ ?_ | refine brBN ?_ ?_)
local macro_rules | `(tactic| wtm_at "go") => `(tactic| repeat (wtm_at "s"))

namespace Toy
open PySem L2 Z
def top (i : Nat) : Stmt := PySem.Challenge.pw_staywalk_k62_tokens_read_again.main.body.getD i (.Pass ⟨0, 0, 0, 0⟩)
abbrev s_BySlots_kind_word : Stmt := inClass (top 18) 2
abbrev n_BySlots_kind_word : List Str := ["self"]
theorem sc_BySlots_kind_word : FnScope n_BySlots_kind_word ["self"] (defScope s_BySlots_kind_word) := ⟨rfl, rfl, rfl, by decide +kernel, rfl, by decide +kernel, by decide +kernel⟩
abbrev s_Down_kind_word : Stmt := inClass (top 20) 2
abbrev n_Down_kind_word : List Str := ["self"]
theorem sc_Down_kind_word : FnScope n_Down_kind_word ["self"] (defScope s_Down_kind_word) := ⟨rfl, rfl, rfl, by decide +kernel, rfl, by decide +kernel, by decide +kernel⟩
abbrev s_Up_kind_word : Stmt := inClass (top 19) 2
abbrev n_Up_kind_word : List Str := ["self"]
theorem sc_Up_kind_word : FnScope n_Up_kind_word ["self"] (defScope s_Up_kind_word) := ⟨rfl, rfl, rfl, by decide +kernel, rfl, by decide +kernel, by decide +kernel⟩
abbrev s_shown : Stmt := top 15
abbrev n_shown : List Str := ["number"]
theorem sc_shown : FnScope n_shown ["number"] (defScope s_shown) := ⟨rfl, rfl, rfl, by decide +kernel, rfl, by decide +kernel, by decide +kernel⟩
abbrev s_Token_words : Stmt := inClass (top 17) 3
abbrev n_Token_words : List Str := ["self"]
theorem sc_Token_words : FnScope n_Token_words ["self"] (defScope s_Token_words) := ⟨rfl, rfl, rfl, by decide +kernel, rfl, by decide +kernel, by decide +kernel⟩
abbrev s__law_cell_at : Stmt := top 29
abbrev n__law_cell_at : List Str := ["_law_script", "_law_k"]
theorem sc__law_cell_at : FnScope n__law_cell_at ["_law_script", "_law_k"] (defScope s__law_cell_at) := ⟨rfl, rfl, rfl, by decide +kernel, rfl, by decide +kernel, by decide +kernel⟩
abbrev s_Token_init : Stmt := inClass (top 17) 0
abbrev n_Token_init : List Str := ["self", "at", "end"]
theorem sc_Token_init : FnScope n_Token_init ["self", "at", "end"] (defScope s_Token_init) := ⟨rfl, rfl, rfl, by decide +kernel, rfl, by decide +kernel, by decide +kernel⟩
abbrev s_is_whole : Stmt := top 11
abbrev n_is_whole : List Str := ["thing"]
theorem sc_is_whole : FnScope n_is_whole ["thing"] (defScope s_is_whole) := ⟨rfl, rfl, rfl, by decide +kernel, rfl, by decide +kernel, by decide +kernel⟩
abbrev s_bounded : Stmt := top 13
abbrev n_bounded : List Str := ["number", "most"]
theorem sc_bounded : FnScope n_bounded ["number", "most"] (defScope s_bounded) := ⟨rfl, rfl, rfl, by decide +kernel, rfl, by decide +kernel, by decide +kernel⟩
abbrev s_in_order : Stmt := top 16
abbrev n_in_order : List Str := ["low", "high"]
theorem sc_in_order : FnScope n_in_order ["low", "high"] (defScope s_in_order) := ⟨rfl, rfl, rfl, by decide +kernel, rfl, by decide +kernel, by decide +kernel⟩
abbrev s_BySlots_init : Stmt := inClass (top 18) 0
abbrev n_BySlots_init : List Str := ["self", "at", "end"]
theorem sc_BySlots_init : FnScope n_BySlots_init ["self", "at", "end"] (defScope s_BySlots_init) := ⟨rfl, rfl, rfl, by decide +kernel, rfl, by decide +kernel, by decide +kernel⟩
abbrev s_bound_or_none : Stmt := top 14
abbrev n_bound_or_none : List Str := ["number"]
theorem sc_bound_or_none : FnScope n_bound_or_none ["number"] (defScope s_bound_or_none) := ⟨rfl, rfl, rfl, by decide +kernel, rfl, by decide +kernel, by decide +kernel⟩
abbrev s_Down_init : Stmt := inClass (top 20) 0
abbrev n_Down_init : List Str := ["self", "at", "end"]
theorem sc_Down_init : FnScope n_Down_init ["self", "at", "end"] (defScope s_Down_init) := ⟨rfl, rfl, rfl, by decide +kernel, rfl, by decide +kernel, by decide +kernel⟩
abbrev s_Up_init : Stmt := inClass (top 19) 0
abbrev n_Up_init : List Str := ["self", "at", "end"]
theorem sc_Up_init : FnScope n_Up_init ["self", "at", "end"] (defScope s_Up_init) := ⟨rfl, rfl, rfl, by decide +kernel, rfl, by decide +kernel, by decide +kernel⟩
abbrev s__law_made : Stmt := top 32
abbrev n__law_made : List Str := ["_law_kind", "_law_at", "_law_end"]
theorem sc__law_made : FnScope n__law_made ["_law_kind", "_law_at", "_law_end"] (defScope s__law_made) := ⟨rfl, rfl, rfl, by decide +kernel, rfl, by decide +kernel, by decide +kernel⟩
abbrev s__law_number : Stmt := top 30
abbrev n__law_number : List Str := ["_law_cell"]
theorem sc__law_number : FnScope n__law_number ["_law_cell"] (defScope s__law_number) := ⟨rfl, rfl, rfl, by decide +kernel, rfl, by decide +kernel, by decide +kernel⟩
abbrev s__law_numbers : Stmt := top 31
abbrev n__law_numbers : List Str := ["_law_script", "_law_kind", "_law_one", "_law_other", "_law_low", "_law_high"]
theorem sc__law_numbers : FnScope n__law_numbers ["_law_script", "_law_kind"] (defScope s__law_numbers) := ⟨rfl, rfl, rfl, by decide +kernel, rfl, by decide +kernel, by decide +kernel⟩
abbrev s_mark_of : Stmt := top 8
abbrev n_mark_of : List Str := ["key"]
theorem sc_mark_of : FnScope n_mark_of ["key"] (defScope s_mark_of) := ⟨rfl, rfl, rfl, by decide +kernel, rfl, by decide +kernel, by decide +kernel⟩
abbrev s_turned : Stmt := top 7
abbrev n_turned : List Str := ["number", "found", "k"]
theorem sc_turned : FnScope n_turned ["number"] (defScope s_turned) := ⟨rfl, rfl, rfl, by decide +kernel, rfl, by decide +kernel, by decide +kernel⟩
abbrev s_place_of : Stmt := top 9
abbrev n_place_of : List Str := ["key"]
theorem sc_place_of : FnScope n_place_of ["key"] (defScope s_place_of) := ⟨rfl, rfl, rfl, by decide +kernel, rfl, by decide +kernel, by decide +kernel⟩
abbrev s_BySlots_holds : Stmt := inClass (top 18) 1
abbrev n_BySlots_holds : List Str := ["self", "key"]
theorem sc_BySlots_holds : FnScope n_BySlots_holds ["self", "key"] (defScope s_BySlots_holds) := ⟨rfl, rfl, rfl, by decide +kernel, rfl, by decide +kernel, by decide +kernel⟩
abbrev s_Down_holds : Stmt := inClass (top 20) 1
abbrev n_Down_holds : List Str := ["self", "key"]
theorem sc_Down_holds : FnScope n_Down_holds ["self", "key"] (defScope s_Down_holds) := ⟨rfl, rfl, rfl, by decide +kernel, rfl, by decide +kernel, by decide +kernel⟩
abbrev s_Up_holds : Stmt := inClass (top 19) 1
abbrev n_Up_holds : List Str := ["self", "key"]
theorem sc_Up_holds : FnScope n_Up_holds ["self", "key"] (defScope s_Up_holds) := ⟨rfl, rfl, rfl, by decide +kernel, rfl, by decide +kernel, by decide +kernel⟩
abbrev s__law_holds : Stmt := top 34
abbrev n__law_holds : List Str := ["_law_kind", "_law_at", "_law_end", "_law_key"]
theorem sc__law_holds : FnScope n__law_holds ["_law_kind", "_law_at", "_law_end", "_law_key"] (defScope s__law_holds) := ⟨rfl, rfl, rfl, by decide +kernel, rfl, by decide +kernel, by decide +kernel⟩
abbrev s__law_right : Stmt := top 35
abbrev n__law_right : List Str := ["_law_token", "_law_kind", "_law_at", "_law_end", "_law_keys", "_law_kinds", "_law_number_here", "_law_key", "_law_found"]
theorem sc__law_right : FnScope n__law_right ["_law_token", "_law_kind", "_law_at", "_law_end", "_law_keys"] (defScope s__law_right) := ⟨rfl, rfl, rfl, by decide +kernel, rfl, by decide +kernel, by decide +kernel⟩
abbrev s__law_text : Stmt := top 33
abbrev n__law_text : List Str := ["_law_kind", "_law_at", "_law_end", "_law_words", "_law_number_here"]
theorem sc__law_text : FnScope n__law_text ["_law_kind", "_law_at", "_law_end"] (defScope s__law_text) := ⟨rfl, rfl, rfl, by decide +kernel, rfl, by decide +kernel, by decide +kernel⟩
abbrev s_read_whole : Stmt := top 24
abbrev n_read_whole : List Str := ["text", "figures", "sign"]
theorem sc_read_whole : FnScope n_read_whole ["text"] (defScope s_read_whole) := ⟨rfl, rfl, rfl, by decide +kernel, rfl, by decide +kernel, by decide +kernel⟩
abbrev s_read_bound : Stmt := top 25
abbrev n_read_bound : List Str := ["word"]
theorem sc_read_bound : FnScope n_read_bound ["word"] (defScope s_read_bound) := ⟨rfl, rfl, rfl, by decide +kernel, rfl, by decide +kernel, by decide +kernel⟩
abbrev s_token_of : Stmt := top 26
abbrev n_token_of : List Str := ["words", "at", "end"]
theorem sc_token_of : FnScope n_token_of ["words"] (defScope s_token_of) := ⟨rfl, rfl, rfl, by decide +kernel, rfl, by decide +kernel, by decide +kernel⟩
abbrev s_read_token : Stmt := top 27
abbrev n_read_token : List Str := ["text", "words"]
theorem sc_read_token : FnScope n_read_token ["text"] (defScope s_read_token) := ⟨rfl, rfl, rfl, by decide +kernel, rfl, by decide +kernel, by decide +kernel⟩
abbrev s_law : Stmt := top 36
abbrev n_law : List Str := ["_law_script", "_law_kind", "_law_at", "_law_end", "_law_keys", "_law_number_here", "_law_text_here", "_law_token", "_law_k", "_law_cell"]
theorem sc_law : FnScope n_law ["_law_script"] (defScope s_law) := ⟨rfl, rfl, rfl, by decide +kernel, rfl, by decide +kernel, by decide +kernel⟩
abbrev rz_bounded : Prop := False
abbrev rz_in_order : Prop := False
abbrev rz_read_whole : Prop := False
abbrev rz_token_of : Prop := False
abbrev rz_read_token : Prop := False
structure Ad where
  a_BySlots_kind_word : Addr
  d_BySlots_kind_word : FuncData
  a_Down_kind_word : Addr
  d_Down_kind_word : FuncData
  a_Up_kind_word : Addr
  d_Up_kind_word : FuncData
  a_shown : Addr
  d_shown : FuncData
  a_Token_words : Addr
  d_Token_words : FuncData
  a__law_cell_at : Addr
  d__law_cell_at : FuncData
  a_Token_init : Addr
  d_Token_init : FuncData
  a_is_whole : Addr
  d_is_whole : FuncData
  a_bounded : Addr
  d_bounded : FuncData
  a_in_order : Addr
  d_in_order : FuncData
  a_BySlots_init : Addr
  d_BySlots_init : FuncData
  a_bound_or_none : Addr
  d_bound_or_none : FuncData
  a_Down_init : Addr
  d_Down_init : FuncData
  a_Up_init : Addr
  d_Up_init : FuncData
  a__law_made : Addr
  d__law_made : FuncData
  a__law_number : Addr
  d__law_number : FuncData
  a__law_numbers : Addr
  d__law_numbers : FuncData
  a_mark_of : Addr
  d_mark_of : FuncData
  a_turned : Addr
  d_turned : FuncData
  a_place_of : Addr
  d_place_of : FuncData
  a_BySlots_holds : Addr
  d_BySlots_holds : FuncData
  a_Down_holds : Addr
  d_Down_holds : FuncData
  a_Up_holds : Addr
  d_Up_holds : FuncData
  a__law_holds : Addr
  d__law_holds : FuncData
  a__law_right : Addr
  d__law_right : FuncData
  a__law_text : Addr
  d__law_text : FuncData
  a_read_whole : Addr
  d_read_whole : FuncData
  a_read_bound : Addr
  d_read_bound : FuncData
  a_token_of : Addr
  d_token_of : FuncData
  a_read_token : Addr
  d_read_token : FuncData
  a_law : Addr
  d_law : FuncData
  c_NoToken : Addr
  c_NoText : Addr
  c_Token : Addr
  c_BySlots : Addr
  c_Up : Addr
  c_Down : Addr
  t_BITS : Tok
  t_PLACES : Tok
  t_FIGURES : Tok
  t_MOST_FIGURES : Tok
structure Txt (K : PySem.W.Frag) (mg : Str → Option Value) (D : Ad) : Prop where
  F_BySlots_kind_word : Fun K "kind_word" "BySlots.kind_word" s_BySlots_kind_word D.a_BySlots_kind_word D.d_BySlots_kind_word
  b_BySlots_kind_word : Binds K D.d_BySlots_kind_word ["self"] []
  F_Down_kind_word : Fun K "kind_word" "Down.kind_word" s_Down_kind_word D.a_Down_kind_word D.d_Down_kind_word
  b_Down_kind_word : Binds K D.d_Down_kind_word ["self"] []
  F_Up_kind_word : Fun K "kind_word" "Up.kind_word" s_Up_kind_word D.a_Up_kind_word D.d_Up_kind_word
  b_Up_kind_word : Binds K D.d_Up_kind_word ["self"] []
  F_shown : Fun K "shown" "shown" s_shown D.a_shown D.d_shown
  b_shown : Binds K D.d_shown ["number"] []
  g_shown : mg "shown" = some (.ref D.a_shown)
  F_Token_words : Fun K "words" "Token.words" s_Token_words D.a_Token_words D.d_Token_words
  b_Token_words : Binds K D.d_Token_words ["self"] []
  F__law_cell_at : Fun K "_law_cell_at" "_law_cell_at" s__law_cell_at D.a__law_cell_at D.d__law_cell_at
  b__law_cell_at : Binds K D.d__law_cell_at ["_law_script", "_law_k"] []
  g__law_cell_at : mg "_law_cell_at" = some (.ref D.a__law_cell_at)
  F_Token_init : Fun K "__init__" "Token.__init__" s_Token_init D.a_Token_init D.d_Token_init
  b_Token_init : Binds K D.d_Token_init ["self", "at", "end"] []
  F_is_whole : Fun K "is_whole" "is_whole" s_is_whole D.a_is_whole D.d_is_whole
  b_is_whole : Binds K D.d_is_whole ["thing"] []
  g_is_whole : mg "is_whole" = some (.ref D.a_is_whole)
  F_bounded : Fun K "bounded" "bounded" s_bounded D.a_bounded D.d_bounded
  b_bounded : Binds K D.d_bounded ["number", "most"] []
  g_bounded : mg "bounded" = some (.ref D.a_bounded)
  F_in_order : Fun K "in_order" "in_order" s_in_order D.a_in_order D.d_in_order
  b_in_order : Binds K D.d_in_order ["low", "high"] []
  g_in_order : mg "in_order" = some (.ref D.a_in_order)
  F_BySlots_init : FunD K "__init__" "BySlots.__init__" (defArgs s_BySlots_init) (defBody s_BySlots_init) (defScope s_BySlots_init) [.int 0, .int 65536] [] D.a_BySlots_init D.d_BySlots_init
  b_BySlots_init : Binds K D.d_BySlots_init ["self", "at", "end"] []
  b_BySlots_init_1 : ∃ ds, Vals [.int 65536] ds ∧ Binds K D.d_BySlots_init ["self", "at", "end"] ds
  b_BySlots_init_2 : ∃ ds, Vals [.int 0, .int 65536] ds ∧ Binds K D.d_BySlots_init ["self", "at", "end"] ds
  F_bound_or_none : Fun K "bound_or_none" "bound_or_none" s_bound_or_none D.a_bound_or_none D.d_bound_or_none
  b_bound_or_none : Binds K D.d_bound_or_none ["number"] []
  g_bound_or_none : mg "bound_or_none" = some (.ref D.a_bound_or_none)
  F_Down_init : FunD K "__init__" "Down.__init__" (defArgs s_Down_init) (defBody s_Down_init) (defScope s_Down_init) [.non, .int 0] [] D.a_Down_init D.d_Down_init
  b_Down_init : Binds K D.d_Down_init ["self", "at", "end"] []
  b_Down_init_1 : ∃ ds, Vals [.int 0] ds ∧ Binds K D.d_Down_init ["self", "at", "end"] ds
  b_Down_init_2 : ∃ ds, Vals [.non, .int 0] ds ∧ Binds K D.d_Down_init ["self", "at", "end"] ds
  F_Up_init : FunD K "__init__" "Up.__init__" (defArgs s_Up_init) (defBody s_Up_init) (defScope s_Up_init) [.int 0, .non] [] D.a_Up_init D.d_Up_init
  b_Up_init : Binds K D.d_Up_init ["self", "at", "end"] []
  b_Up_init_1 : ∃ ds, Vals [.non] ds ∧ Binds K D.d_Up_init ["self", "at", "end"] ds
  b_Up_init_2 : ∃ ds, Vals [.int 0, .non] ds ∧ Binds K D.d_Up_init ["self", "at", "end"] ds
  F__law_made : Fun K "_law_made" "_law_made" s__law_made D.a__law_made D.d__law_made
  b__law_made : Binds K D.d__law_made ["_law_kind", "_law_at", "_law_end"] []
  g__law_made : mg "_law_made" = some (.ref D.a__law_made)
  F__law_number : Fun K "_law_number" "_law_number" s__law_number D.a__law_number D.d__law_number
  b__law_number : Binds K D.d__law_number ["_law_cell"] []
  g__law_number : mg "_law_number" = some (.ref D.a__law_number)
  F__law_numbers : Fun K "_law_numbers" "_law_numbers" s__law_numbers D.a__law_numbers D.d__law_numbers
  b__law_numbers : Binds K D.d__law_numbers ["_law_script", "_law_kind"] []
  g__law_numbers : mg "_law_numbers" = some (.ref D.a__law_numbers)
  F_mark_of : Fun K "mark_of" "mark_of" s_mark_of D.a_mark_of D.d_mark_of
  b_mark_of : Binds K D.d_mark_of ["key"] []
  g_mark_of : mg "mark_of" = some (.ref D.a_mark_of)
  F_turned : Fun K "turned" "turned" s_turned D.a_turned D.d_turned
  b_turned : Binds K D.d_turned ["number"] []
  g_turned : mg "turned" = some (.ref D.a_turned)
  F_place_of : Fun K "place_of" "place_of" s_place_of D.a_place_of D.d_place_of
  b_place_of : Binds K D.d_place_of ["key"] []
  g_place_of : mg "place_of" = some (.ref D.a_place_of)
  F_BySlots_holds : Fun K "holds" "BySlots.holds" s_BySlots_holds D.a_BySlots_holds D.d_BySlots_holds
  b_BySlots_holds : Binds K D.d_BySlots_holds ["self", "key"] []
  F_Down_holds : Fun K "holds" "Down.holds" s_Down_holds D.a_Down_holds D.d_Down_holds
  b_Down_holds : Binds K D.d_Down_holds ["self", "key"] []
  F_Up_holds : Fun K "holds" "Up.holds" s_Up_holds D.a_Up_holds D.d_Up_holds
  b_Up_holds : Binds K D.d_Up_holds ["self", "key"] []
  F__law_holds : Fun K "_law_holds" "_law_holds" s__law_holds D.a__law_holds D.d__law_holds
  b__law_holds : Binds K D.d__law_holds ["_law_kind", "_law_at", "_law_end", "_law_key"] []
  g__law_holds : mg "_law_holds" = some (.ref D.a__law_holds)
  F__law_right : Fun K "_law_right" "_law_right" s__law_right D.a__law_right D.d__law_right
  b__law_right : Binds K D.d__law_right ["_law_token", "_law_kind", "_law_at", "_law_end", "_law_keys"] []
  g__law_right : mg "_law_right" = some (.ref D.a__law_right)
  F__law_text : Fun K "_law_text" "_law_text" s__law_text D.a__law_text D.d__law_text
  b__law_text : Binds K D.d__law_text ["_law_kind", "_law_at", "_law_end"] []
  g__law_text : mg "_law_text" = some (.ref D.a__law_text)
  F_read_whole : Fun K "read_whole" "read_whole" s_read_whole D.a_read_whole D.d_read_whole
  b_read_whole : Binds K D.d_read_whole ["text"] []
  g_read_whole : mg "read_whole" = some (.ref D.a_read_whole)
  F_read_bound : Fun K "read_bound" "read_bound" s_read_bound D.a_read_bound D.d_read_bound
  b_read_bound : Binds K D.d_read_bound ["word"] []
  g_read_bound : mg "read_bound" = some (.ref D.a_read_bound)
  F_token_of : Fun K "token_of" "token_of" s_token_of D.a_token_of D.d_token_of
  b_token_of : Binds K D.d_token_of ["words"] []
  g_token_of : mg "token_of" = some (.ref D.a_token_of)
  F_read_token : Fun K "read_token" "read_token" s_read_token D.a_read_token D.d_read_token
  b_read_token : Binds K D.d_read_token ["text"] []
  g_read_token : mg "read_token" = some (.ref D.a_read_token)
  F_law : Fun K "law" "law" s_law D.a_law D.d_law
  b_law : Binds K D.d_law ["_law_script"] []
  g_law : mg "law" = some (.ref D.a_law)
  g_NoToken : mg "NoToken" = some (.ref D.c_NoToken)
  g_NoText : mg "NoText" = some (.ref D.c_NoText)
  g_Token : mg "Token" = some (.ref D.c_Token)
  cl_Token : Cls K D.c_Token
  ic_Token : IC K D.c_Token
  sb_Token_BySlots : PySem.W.subIn K (.ref D.c_Token) (.ref D.c_BySlots) = some false
  sb_Token_Up : PySem.W.subIn K (.ref D.c_Token) (.ref D.c_Up) = some false
  sb_Token_Down : PySem.W.subIn K (.ref D.c_Token) (.ref D.c_Down) = some false
  sb_Token_Token : PySem.W.subIn K (.ref D.c_Token) (.ref D.c_Token) = some true
  mk_Token : Mk K D.c_Token D.a_Token_init
  me_Token_words : Meth K D.c_Token "words" D.a_Token_words
  na_Token_at : NoAttr K D.c_Token "at"
  na_Token_end : NoAttr K D.c_Token "end"
  g_BySlots : mg "BySlots" = some (.ref D.c_BySlots)
  cl_BySlots : Cls K D.c_BySlots
  ic_BySlots : IC K D.c_BySlots
  sb_BySlots_BySlots : PySem.W.subIn K (.ref D.c_BySlots) (.ref D.c_BySlots) = some true
  sb_BySlots_Up : PySem.W.subIn K (.ref D.c_BySlots) (.ref D.c_Up) = some false
  sb_BySlots_Down : PySem.W.subIn K (.ref D.c_BySlots) (.ref D.c_Down) = some false
  sb_BySlots_Token : PySem.W.subIn K (.ref D.c_BySlots) (.ref D.c_Token) = some true
  mk_BySlots : Mk K D.c_BySlots D.a_BySlots_init
  me_BySlots_holds : Meth K D.c_BySlots "holds" D.a_BySlots_holds
  me_BySlots_kind_word : Meth K D.c_BySlots "kind_word" D.a_BySlots_kind_word
  me_BySlots_words : Meth K D.c_BySlots "words" D.a_Token_words
  na_BySlots_at : NoAttr K D.c_BySlots "at"
  na_BySlots_end : NoAttr K D.c_BySlots "end"
  g_Up : mg "Up" = some (.ref D.c_Up)
  cl_Up : Cls K D.c_Up
  ic_Up : IC K D.c_Up
  sb_Up_BySlots : PySem.W.subIn K (.ref D.c_Up) (.ref D.c_BySlots) = some false
  sb_Up_Up : PySem.W.subIn K (.ref D.c_Up) (.ref D.c_Up) = some true
  sb_Up_Down : PySem.W.subIn K (.ref D.c_Up) (.ref D.c_Down) = some false
  sb_Up_Token : PySem.W.subIn K (.ref D.c_Up) (.ref D.c_Token) = some true
  mk_Up : Mk K D.c_Up D.a_Up_init
  me_Up_holds : Meth K D.c_Up "holds" D.a_Up_holds
  me_Up_kind_word : Meth K D.c_Up "kind_word" D.a_Up_kind_word
  me_Up_words : Meth K D.c_Up "words" D.a_Token_words
  na_Up_at : NoAttr K D.c_Up "at"
  na_Up_end : NoAttr K D.c_Up "end"
  g_Down : mg "Down" = some (.ref D.c_Down)
  cl_Down : Cls K D.c_Down
  ic_Down : IC K D.c_Down
  sb_Down_BySlots : PySem.W.subIn K (.ref D.c_Down) (.ref D.c_BySlots) = some false
  sb_Down_Up : PySem.W.subIn K (.ref D.c_Down) (.ref D.c_Up) = some false
  sb_Down_Down : PySem.W.subIn K (.ref D.c_Down) (.ref D.c_Down) = some true
  sb_Down_Token : PySem.W.subIn K (.ref D.c_Down) (.ref D.c_Token) = some true
  mk_Down : Mk K D.c_Down D.a_Down_init
  me_Down_holds : Meth K D.c_Down "holds" D.a_Down_holds
  me_Down_kind_word : Meth K D.c_Down "kind_word" D.a_Down_kind_word
  me_Down_words : Meth K D.c_Down "words" D.a_Token_words
  na_Down_at : NoAttr K D.c_Down "at"
  na_Down_end : NoAttr K D.c_Down "end"
  cr_Token : ClX.CRead K D.c_Token (.type "type")
  ci_Token_init : PySem.W.findCls K (.ref D.c_Token) (.type "type") "__init__" = some (.val (.ref D.a_Token_init))
  k_BITS : mg "BITS" = some (.int 16 D.t_BITS)
  k_PLACES : mg "PLACES" = some (.int 65536 D.t_PLACES)
  k_FIGURES : mg "FIGURES" = some (.str "0123456789" D.t_FIGURES)
  k_MOST_FIGURES : mg "MOST_FIGURES" = some (.int 60 D.t_MOST_FIGURES)
  n_all : mg "all" = none
  n_bool : mg "bool" = none
  n_int : mg "int" = none
  n_isinstance : mg "isinstance" = none
  n_len : mg "len" = none
  n_max : mg "max" = none
  n_min : mg "min" = none
  n_range : mg "range" = none
  n_str : mg "str" = none
section
variable {P : Program} {w : World} {K : PySem.W.Frag} {mg : Str → Option Value} {base : Heap}
abbrev sp_law (K : PySem.W.Frag) (_ : Ad) : Sp := spEnd K
theorem sp_law_end {K : PySem.W.Frag} {D : Ad} {vs : List V} {H : Hp} {Q : VK} {E : XK} (h : spEnd K vs H Q E) : sp_law K D vs H Q E := h

def sp__law_cell_at (K : PySem.W.Frag) (_ : Ad) : Sp := Sp2 fun x y H Q _ => ∃ (a : Addr) (ns : List Int) (i : Nat), x = .ref a ∧ y = .int i ∧ SqL K H a (ns.map V.int) ∧ Q (.int (ns.getD i 0)) H
theorem ok__law_cell_at {D : Ad} (T : Txt K mg D) : FnOk P w K mg base (L2.CX P w) 1 D.a__law_cell_at D.d__law_cell_at ["_law_script", "_law_k"] (sp__law_cell_at K D) := by
  refine T.F__law_cell_at.okX sc__law_cell_at (fun vs H Q E h => sp2_len h) (fun cdv A outer s H vs Q E hr h => ⟨_, (pss_cons (ps_if (pt_cmpR op_lt (pv 1) (pe_callB call_lenZ (by rfl) T.n_len bt_len (pa_cons (pv 0) pa_nil)) (nomark _))
      (pss_one (ps_ret (pe_ix ix_list (pv 0) (pv 1) (fun _ _ => rfl))))
      pss_nil)
    (pss_one (ps_ret pe_int))), ?_⟩)
  obtain ⟨x0, x1, rfl, h⟩ := h
  rw [show L2.start n__law_cell_at [x0, x1] = [some x0, some x1] from rfl]
  try dsimp only [cxOf]
  obtain ⟨a, ns, i, rfl, rfl, hS, k⟩ := h
  wtm_at "go"
  refine r_lenL hS ?_
  wtm_at "go"
  rw [List.length_map]
  refine br (fun h => ?_) (fun h => ?_)
  · wtm_at "go"
    have hi : i < ns.length := by omega
    refine r_ixL (v := .int (ns.getD i 0)) hS ?_ k
    rw [atI_nat' (by omega) (by rw [List.length_map]; exact h), Int.toNat_natCast, List.getElem?_map, List.getD_eq_getElem?_getD, List.getElem?_eq_getElem hi]
    rfl
  · wtm_at "go"
    have hi : ns.length ≤ i := by omega
    rw [List.getD_eq_getElem?_getD, List.getElem?_eq_none hi] at k
    exact k


section
variable {D : Ad} {H : Hp} {Q : VK} {E : XK}
theorem c_cell {a : Addr} {ns : List Int} {i : Nat} (h : SqL K H a (ns.map V.int)) (q : Q (.int (ns.getD i 0)) H) : sp__law_cell_at K D ([.ref a, .int (i : Nat)] ++ []) H Q E := ⟨_, _, rfl, a, ns, i, rfl, rfl, h, q⟩
theorem c_cell0 {a : Addr} {ns : List Int} (h : SqL K H a (ns.map V.int)) (q : Q (.int (ns.getD 0 0)) H) : sp__law_cell_at K D ([.ref a, .int 0] ++ []) H Q E := c_cell (i := 0) h q
theorem c_cell1 {a : Addr} {ns : List Int} (h : SqL K H a (ns.map V.int)) (q : Q (.int (ns.getD 1 0)) H) : sp__law_cell_at K D ([.ref a, .int 1] ++ []) H Q E := c_cell (i := 1) h q
theorem c_cell2 {a : Addr} {ns : List Int} (h : SqL K H a (ns.map V.int)) (q : Q (.int (ns.getD 2 0)) H) : sp__law_cell_at K D ([.ref a, .int 2] ++ []) H Q E := c_cell (i := 2) h q
theorem c_cell3 {a : Addr} {ns : List Int} (h : SqL K H a (ns.map V.int)) (q : Q (.int (ns.getD 3 0)) H) : sp__law_cell_at K D ([.ref a, .int 3] ++ []) H Q E := c_cell (i := 3) h q
theorem c_cell4 {a : Addr} {ns : List Int} (h : SqL K H a (ns.map V.int)) (q : Q (.int (ns.getD 4 0)) H) : sp__law_cell_at K D ([.ref a, .int 4] ++ []) H Q E := c_cell (i := 4) h q
theorem c_cell9 {a : Addr} {ns : List Int} (h : SqL K H a (ns.map V.int)) (q : Q (.int (ns.getD 9 0)) H) : sp__law_cell_at K D ([.ref a, .int 9] ++ []) H Q E := c_cell (i := 9) h q
end
local macro_rules | `(tactic| wtm_at "s0") => `(tactic| first
  | ((with_reducible refine' c_cell0 ?gvE ?gvH); (case gvE => wtm_at "sq"))
  | ((with_reducible refine' c_cell1 ?gvE ?gvH); (case gvE => wtm_at "sq"))
  | ((with_reducible refine' c_cell2 ?gvE ?gvH); (case gvE => wtm_at "sq"))
  | ((with_reducible refine' c_cell3 ?gvE ?gvH); (case gvE => wtm_at "sq"))
  | ((with_reducible refine' c_cell4 ?gvE ?gvH); (case gvE => wtm_at "sq"))
  | ((with_reducible refine' c_cell9 ?gvE ?gvH); (case gvE => wtm_at "sq")))


/-! the program's bits -/
def sp_turned (_ : PySem.W.Frag) (_ : Ad) : Sp := Sp1 fun x H Q _ => ∃ n : Nat, x = .int n ∧ Q (.int (r16 n : Nat)) H
theorem ok_turned {D : Ad} (T : Txt K mg D) : FnOk P w K mg base (L2.CX P w) 1 D.a_turned D.d_turned ["number"] (sp_turned K D) := by
  refine T.F_turned.okX sc_turned (fun vs H Q E h => sp1_len h) (fun cdv A outer s H vs Q E hr h => ⟨_, (pss_cons (ps_set (i := 1) sc_turned.nd rfl (Or.inl rfl) pe_int)
    (pss_cons (ps_for (passes_of rfl) rfl (pi_range1 (by rfl) T.n_range (pa_cons (pe_glob (v := .int 16) rfl T.k_BITS ⟨_, rfl⟩) pa_nil)) (pg_name (i := 2) sc_turned.nd rfl (Or.inl rfl))
      (pss_one (ps_set (i := 1) sc_turned.nd rfl (Or.inl rfl) (pe_op op_or (pe_op op_shl (pv 1) pe_int) (pe_op op_and (pe_op op_shr (pv 0) (pv 2)) pe_int)))))
    (pss_one (ps_ret (pv 1))))), ?_⟩)
  obtain ⟨x0, rfl, h⟩ := h
  rw [show L2.start n_turned [x0] = [some x0, none, none] from rfl]
  try dsimp only [cxOf]
  obtain ⟨n, rfl, k⟩ := h
  wtm_at "go"
  refine FOR.range (fun i σ H' => (∃ v, σ = [some (.int n), some (.int (tnI n i)), v]) ∧ H' = H) ⟨⟨_, rfl⟩, rfl⟩ ?_ ?_
  · rintro i σ H' hi ⟨⟨v, rfl⟩, rfl⟩
    have hb : (tnI n i).natAbs < 2 ^ 64 := tnI_small n (by omega)
    wtm_at "go"
    exact ⟨⟨_, rfl⟩, rfl⟩
  · rintro σ H' ⟨⟨v, rfl⟩, rfl⟩
    wtm_at "go"
    show Q (.int (tnI n 16)) _
    rw [tnI_eq, ← r16_eq]
    exact k


def sp_mark_of (_ : PySem.W.Frag) (_ : Ad) : Sp := Sp1 fun x H Q _ => ∃ n : Nat, x = .int n ∧ Q (.int (n % 65536 : Nat)) H
theorem ok_mark_of {D : Ad} (T : Txt K mg D) : FnOk P w K mg base (L2.CX P w) 1 D.a_mark_of D.d_mark_of ["key"] (sp_mark_of K D) := by
  refine T.F_mark_of.okX sc_mark_of (fun vs H Q E h => sp1_len h) (fun cdv A outer s H vs Q E hr h => ⟨_, (pss_one (ps_ret (pe_op op_and (pv 0) (pe_op op_sub (pe_glob (v := .int 65536) rfl T.k_PLACES ⟨_, rfl⟩) pe_int)))), ?_⟩)
  obtain ⟨x0, rfl, h⟩ := h
  rw [show L2.start n_mark_of [x0] = [some x0] from rfl]
  try dsimp only [cxOf]
  obtain ⟨n, rfl, k⟩ := h
  wtm_at "go"
  rw [and_mark]
  exact k


def sp_place_of (_ : PySem.W.Frag) (_ : Ad) : Sp := Sp1 fun x H Q _ => ∃ n : Nat, x = .int n ∧ Q (.int (r16 n : Nat)) H
theorem ok_place_of {D : Ad} (T : Txt K mg D) : FnOk P w K mg base (L2.CX P w) 2 D.a_place_of D.d_place_of ["key"] (sp_place_of K D) := by
  refine T.F_place_of.okX sc_place_of (fun vs H Q E h => sp1_len h) (fun cdv A outer s H vs Q E hr h => ⟨_, (pss_one (ps_ret (pe_call (ok_turned T) (hr.mono (by decide)) rfl T.g_turned T.F_turned.kp T.b_turned .nil pX (pa_cons (pe_call (ok_mark_of T) (hr.mono (by decide)) rfl T.g_mark_of T.F_mark_of.kp T.b_mark_of .nil pX (pa_cons (pv 0) pa_nil)) pa_nil)))), ?_⟩)
  obtain ⟨x0, rfl, h⟩ := h
  rw [show L2.start n_place_of [x0] = [some x0] from rfl]
  try dsimp only [cxOf]
  obtain ⟨n, rfl, k⟩ := h
  wtm_at "go"
  refine ⟨_, rfl, _, rfl, ?_⟩
  wtm_at "go"
  refine ⟨_, rfl, _, rfl, ?_⟩
  rw [r16_mod]
  exact k


def sp_slot_of (_ : PySem.W.Frag) (_ : Ad) : Sp := Sp2 fun x y H Q _ => ∃ n s : Nat, s ≤ 16 ∧ x = .int n ∧ y = .int (2 ^ s : Nat) ∧ Q (.int (n % 2 ^ s : Nat)) H
def sp_slot_at (_ : PySem.W.Frag) (_ : Ad) : Sp := Sp2 fun x y H Q _ => ∃ n s : Nat, s ≤ 16 ∧ x = .int n ∧ y = .int (2 ^ s : Nat) ∧ Q (.int (r16 n % 2 ^ s : Nat)) H
def sp_stretch_of (_ : PySem.W.Frag) (_ : Ad) : Sp := Sp2 fun x y H Q _ => ∃ n s : Nat, s ≤ 16 ∧ x = .int n ∧ y = .int (2 ^ s : Nat) ∧
  ∀ p, H p = none → Q (.ref p) (upd H p (.tup [.int (r16 n : Nat), .int (r16 n + 2 ^ (16 - s) : Nat)]))
def sp_halves (_ : PySem.W.Frag) (_ : Ad) : Sp := Sp2 fun x y H Q _ => ∃ n m : Int, x = .int n ∧ y = .int m ∧ ∀ p, H p = none → Q (.ref p) (upd H p (.tup [.int n, .int (n + m)]))
section
variable {D : Ad} {H : Hp} {Q : VK} {E : XK} {n s : Nat}
theorem c_turned (q : Q (.int (r16 n : Nat)) H) : sp_turned K D ([.int (n : Nat)] ++ []) H Q E := ⟨_, rfl, n, rfl, q⟩
theorem c_mark (q : Q (.int (n % 65536 : Nat)) H) : sp_mark_of K D ([.int (n : Nat)] ++ []) H Q E := ⟨_, rfl, n, rfl, q⟩
theorem c_place (q : Q (.int (r16 n : Nat)) H) : sp_place_of K D ([.int (n : Nat)] ++ []) H Q E := ⟨_, rfl, n, rfl, q⟩
theorem c_slot_of (hs : s ≤ 16) (q : Q (.int (n % 2 ^ s : Nat)) H) : sp_slot_of K D ([.int (n : Nat), .int (2 ^ s : Nat)] ++ []) H Q E := ⟨_, _, rfl, n, s, hs, rfl, rfl, q⟩
theorem c_slot_at (hs : s ≤ 16) (q : Q (.int (r16 n % 2 ^ s : Nat)) H) : sp_slot_at K D ([.int (n : Nat), .int (2 ^ s : Nat)] ++ []) H Q E := ⟨_, _, rfl, n, s, hs, rfl, rfl, q⟩
theorem c_stretch {B : Hp} {L : List Cell} (w : W B L H) (hs : s ≤ 16) (q : ∀ p B' H', H p = none → Same B B' → B' p = some (.tup [.int (r16 n : Nat), .int (r16 n + 2 ^ (16 - s) : Nat)]) → W B' L H' → Q (.ref p) H') :
    sp_stretch_of K D ([.int (n : Nat), .int (2 ^ s : Nat)] ++ []) H Q E := ⟨_, _, rfl, n, s, hs, rfl, rfl, fun p hp => q p _ _ hp (same_new (w.freeB hp)) upd_same (w.newB hp _)⟩
theorem c_halves {B : Hp} {L : List Cell} {n m : Int} (w : W B L H) (q : ∀ p B' H', H p = none → Same B B' → B' p = some (.tup [.int n, .int (n + m)]) → W B' L H' → Q (.ref p) H') :
    sp_halves K D ([.int n, .int m] ++ []) H Q E := ⟨_, _, rfl, n, m, rfl, rfl, fun p hp => q p _ _ hp (same_new (w.freeB hp)) upd_same (w.newB hp _)⟩
end
local macro_rules | `(tactic| wtm_at "s0") => `(tactic| first
  | with_reducible refine c_turned ?_
  | with_reducible refine c_mark ?_
  | with_reducible refine c_place ?_
  | ((with_reducible refine c_slot_of ?gvE ?gvH); (case gvE => first | assumption | omega))
  | ((with_reducible refine c_slot_at ?gvE ?gvH); (case gvE => first | assumption | omega)))


/-! the program's tokens -/
local macro_rules | `(tactic| wtm_at "s0") => `(tactic| first | with_reducible refine g_raise0 ?_)
inductive Tk where
  | sl (l h : Int)
  | up (l : Int) (h : Option Int)
  | dn (l : Option Int) (h : Int)
namespace Tk
def cls (D : Ad) : Tk → Addr
  | .sl _ _ => D.c_BySlots
  | .up _ _ => D.c_Up
  | .dn _ _ => D.c_Down
def num : Tk → Int
  | .sl _ _ => 0
  | .up _ _ => 1
  | .dn _ _ => 2
def at_ : Tk → Option Int
  | .sl l _ => some l
  | .up l _ => some l
  | .dn l _ => l
def en : Tk → Option Int
  | .sl _ h => some h
  | .up _ h => h
  | .dn _ h => some h
def ok : Tk → Prop
  | .sl l h => 0 ≤ l ∧ l ≤ h ∧ h ≤ 65536
  | .up l h => 0 ≤ l ∧ ∀ n, h = some n → l ≤ n
  | .dn l h => 0 ≤ h ∧ ∀ n, l = some n → h ≤ n
def holds : Tk → Nat → Bool
  | .sl l h, k => decide (l ≤ (r16 k : Nat)) && decide (((r16 k : Nat) : Int) < h)
  | .up l none, k => decide (l ≤ (k : Int))
  | .up l (some h), k => decide (l ≤ (k : Int)) && decide ((k : Int) < h)
  | .dn none h, k => decide (h ≤ (k : Int))
  | .dn (some l) h, k => decide (h ≤ (k : Int)) && decide ((k : Int) ≤ l)
def kind : Tk → Str
  | .sl _ _ => "slots"
  | .up _ _ => "up"
  | .dn _ _ => "down"
end Tk
def sOf : Option Int → Str
  | none => "-"
  | some n => toString n
def sml (o : Option Int) : Prop := ∀ n, o = some n → n.natAbs.log2 < 1920
theorem sOf_len {o : Option Int} (h : sml o) : (sOf o).length ≤ 1921 := by
  cases o with
  | none => decide
  | some n => exact str_len n (h n rfl)
def Tk.words (t : Tk) : Str := t.kind ++ " " ++ sOf t.at_ ++ " " ++ sOf t.en
/-- at t stands a token -/
def IsTk (D : Ad) (H : Hp) (t : Addr) (k : Tk) : Prop := ∃ dx, H t = some (.ins (k.cls D) dx [("at", oV k.at_), ("end", oV k.en)])
theorem IsTk.mono {D : Ad} {H H' : Hp} {t : Addr} {k : Tk} (h : IsTk D H t k) (s : Same H H') : IsTk D H' t k := h.imp fun _ e => s _ _ e
def isW : V → Bool
  | .int _ => true
  | _ => false
def Flat (x : V) : Prop := (∃ n, x = .int n) ∨ (∃ b, x = .bl b) ∨ (∃ z, x = .str z) ∨ x = .non
def sp_is_whole (_ : PySem.W.Frag) (_ : Ad) : Sp := Sp1 fun x H Q _ => Flat x ∧ Q (.bl (isW x)) H
theorem ok_is_whole {D : Ad} (T : Txt K mg D) : FnOk P w K mg base (L2.CX P w) 1 D.a_is_whole D.d_is_whole ["thing"] (sp_is_whole K D) := by
  refine T.F_is_whole.okX sc_is_whole (fun vs H Q E h => sp1_len h) (fun cdv A outer s H vs Q E hr h => ⟨_, (pss_one (ps_ret (pe_and (pe_callB call_isi (by rfl) T.n_isinstance bt_isinstance (pa_cons (pv 0) (pa_cons (pe_bltn (v := .ty "int") (by rfl) T.n_int bt_int rfl) pa_nil))) (pe_one (pe_not (pe_callB call_isi (by rfl) T.n_isinstance bt_isinstance (pa_cons (pv 0) (pa_cons (pe_bltn (v := .ty "bool") (by rfl) T.n_bool bt_bool rfl) pa_nil)))))))), ?_⟩)
  obtain ⟨x0, rfl, h⟩ := h
  rw [show L2.start n_is_whole [x0] = [some x0] from rfl]
  try dsimp only [cxOf]
  obtain ⟨hf, k⟩ := h
  rcases hf with ⟨n, rfl⟩ | ⟨b, rfl⟩ | ⟨z, rfl⟩ | rfl
  · wtm_at "go"
    exact k
  · wtm_at "go"
    exact k
  · wtm_at "go"
    exact k
  · wtm_at "go"
    exact k

def sp_bounded (_ : PySem.W.Frag) (D : Ad) : Sp := Sp2 fun x y H Q E => ∃ m : Option Int, y = oV m ∧ ((∃ n, x = .int n ∧ 0 ≤ n ∧ (∀ k, m = some k → n ≤ k) ∧ Q (.int n) H) ∨
  (rz_bounded ∧ Flat x ∧ (∀ n, x = .int n → n < 0 ∨ ∃ k, m = some k ∧ k < n) ∧ E (.ref D.c_NoToken) none H))
theorem ok_bounded {D : Ad} (T : Txt K mg D) : FnOk P w K mg base (L2.CX P w) 2 D.a_bounded D.d_bounded ["number", "most"] (sp_bounded K D) := by
  refine T.F_bounded.okX sc_bounded (fun vs H Q E h => sp2_len h) (fun cdv A outer s H vs Q E hr h => ⟨_, (pss_cons (ps_if (PW.pt (pw_or (pt_not (pt_val (pe_call (ok_is_whole T) (hr.mono (by decide)) rfl T.g_is_whole T.F_is_whole.kp T.b_is_whole .nil pX (pa_cons (pv 0) pa_nil)))) (pw_or (pt_cmpR op_lt (pv 0) pe_int (nomark _)) (pw_or1 (PW.pt (pw_and (pt_cmpR op_notNo (pv 1) pe_non (nomark _)) (pw_and1 (pt_cmpR op_gt (pv 0) (pv 1) (nomark _)))))))))
      (pss_one ps_dead)
      pss_nil)
    (pss_one (ps_ret (pv 0)))), ?_⟩)
  obtain ⟨x0, x1, rfl, h⟩ := h
  rw [show L2.start n_bounded [x0, x1] = [some x0, some x1] from rfl]
  try dsimp only [cxOf]
  obtain ⟨m, rfl, hk⟩ := h
  rcases hk with ⟨n, rfl, h0, hm, k⟩ | ⟨hz, hf, hbad, k⟩
  · wtm_at "go"
    refine ⟨_, rfl, .inl ⟨n, rfl⟩, ?_⟩
    rw [show isW (.int n) = true from rfl]
    cases m with
    | none =>
      dsimp only [oV]
      wtm_at "go"
      exact k
    | some kk =>
      have := hm kk rfl
      dsimp only [oV]
      wtm_at "go"
      exact k
  · exact hz.elim

def sp_bound_or_none (_ : PySem.W.Frag) (D : Ad) : Sp := Sp1 fun x H Q E => (∃ o : Option Int, x = oV o ∧ (∀ n, o = some n → 0 ≤ n) ∧ Q (oV o) H) ∨
  (rz_bounded ∧ x ≠ .non ∧ Flat x ∧ (∀ n, x = .int n → n < 0) ∧ E (.ref D.c_NoToken) none H)
theorem ok_bound_or_none {D : Ad} (T : Txt K mg D) : FnOk P w K mg base (L2.CX P w) 3 D.a_bound_or_none D.d_bound_or_none ["number"] (sp_bound_or_none K D) := by
  refine T.F_bound_or_none.okX sc_bound_or_none (fun vs H Q E h => sp1_len h) (fun cdv A outer s H vs Q E hr h => ⟨_, (pss_cons (ps_if (pt_cmpR op_isNo (pv 0) pe_non (nomark _))
      (pss_one (ps_ret pe_non))
      pss_nil)
    (pss_one (ps_ret (pe_call (ok_bounded T) (hr.mono (by decide)) rfl T.g_bounded T.F_bounded.kp T.b_bounded .nil pX (pa_cons (pv 0) (pa_cons pe_non pa_nil)))))), ?_⟩)
  obtain ⟨x0, rfl, h⟩ := h
  rw [show L2.start n_bound_or_none [x0] = [some x0] from rfl]
  try dsimp only [cxOf]
  rcases h with ⟨o, rfl, h0, k⟩ | ⟨hz, hn, hf, hbad, k⟩
  · cases o with
    | none =>
      dsimp only [oV]
      wtm_at "go"
      exact k
    | some n =>
      dsimp only [oV]
      wtm_at "go"
      exact ⟨_, _, rfl, none, rfl, .inl ⟨n, rfl, h0 n rfl, nofun, k⟩⟩
  · exact hz.elim

def sp_in_order (_ : PySem.W.Frag) (D : Ad) : Sp := Sp2 fun x y H Q E => ∃ l h : Int, x = .int l ∧ y = .int h ∧ ((l ≤ h ∧ Q .non H) ∨ (rz_in_order ∧ h < l ∧ E (.ref D.c_NoToken) none H))
theorem ok_in_order {D : Ad} (T : Txt K mg D) : FnOk P w K mg base (L2.CX P w) 1 D.a_in_order D.d_in_order ["low", "high"] (sp_in_order K D) := by
  refine T.F_in_order.okX sc_in_order (fun vs H Q E h => sp2_len h) (fun cdv A outer s H vs Q E hr h => ⟨_, (pss_one (ps_if (pt_cmpR op_gt (pv 0) (pv 1) (nomark _))
      (pss_one ps_dead)
      pss_nil)), ?_⟩)
  obtain ⟨x0, x1, rfl, h⟩ := h
  rw [show L2.start n_in_order [x0, x1] = [some x0, some x1] from rfl]
  try dsimp only [cxOf]
  obtain ⟨l, h, rfl, rfl, hk⟩ := h
  rcases hk with ⟨hl, k⟩ | ⟨hz, hl, k⟩
  · wtm_at "go"
    exact k
  · exact hz.elim

def sp_Token_init (_ : PySem.W.Frag) (D : Ad) : Sp := Sp3 fun x y z H Q _ => ∃ (a dx : Addr) (t : Tk) (B : Hp) (L : List Cell), x = .ref a ∧ W B ((a, .ins (t.cls D) dx []) :: L) H ∧ ∀ H', W B ((a, .ins (t.cls D) dx [("at", y), ("end", z)]) :: L) H' → Q .non H'
theorem ok_Token_init {D : Ad} (T : Txt K mg D) : FnOk P w K mg base (L2.CX P w) 1 D.a_Token_init D.d_Token_init ["self", "at", "end"] (sp_Token_init K D) := by
  refine T.F_Token_init.okX sc_Token_init (fun vs H Q E h => sp3_len h) (fun cdv A outer s H vs Q E hr h => ⟨_, (pss_cons (ps_fld (pv 0) (pv 1) rfl)
    (pss_one (ps_fld (pv 0) (pv 2) rfl))), ?_⟩)
  obtain ⟨x0, x1, x2, rfl, h⟩ := h
  rw [show L2.start n_Token_init [x0, x1, x2] = [some x0, some x1, some x2] from rfl]
  try dsimp only [cxOf]
  obtain ⟨a, dx, t, B, L, rfl, w, k⟩ := h
  have hc : Cls K (t.cls D) ∧ NoAttr K (t.cls D) "at" ∧ NoAttr K (t.cls D) "end" := by
    cases t with
    | sl l h => exact ⟨T.cl_BySlots, T.na_BySlots_at, T.na_BySlots_end⟩
    | up l h => exact ⟨T.cl_Up, T.na_Up_at, T.na_Up_end⟩
    | dn l h => exact ⟨T.cl_Down, T.na_Down_at, T.na_Down_end⟩
  wtm_at "go"
  refine r_sfld (w.get (List.mem_cons_self ..)) hc.1 hc.2.1 (by simp) ?_
  have w := W.put0 w (.ins (t.cls D) dx (putF "at" x1 []))
  wtm_at "go"
  refine r_sfld (w.get (List.mem_cons_self ..)) hc.1 hc.2.2 (by simp [putF]) ?_
  have w := W.put0 w (.ins (t.cls D) dx (putF "end" x2 (putF "at" x1 [])))
  wtm_at "go"
  exact k _ w

def sp_BySlots_init (_ : PySem.W.Frag) (D : Ad) : Sp := Sp3 fun x y z H Q E => ∃ (a dx : Addr) (B : Hp) (L : List Cell), x = .ref a ∧ W B ((a, .ins D.c_BySlots dx []) :: L) H ∧
  ((∃ l h : Int, y = .int l ∧ z = .int h ∧ (Tk.sl l h).ok ∧ ∀ H', W B ((a, .ins D.c_BySlots dx [("at", .int l), ("end", .int h)]) :: L) H' → Q .non H') ∨
  (rz_bounded ∧ rz_in_order ∧ Flat y ∧ Flat z ∧ (∀ l h : Int, y = .int l → z = .int h → ¬ (Tk.sl l h).ok) ∧ ∀ H', W B L H' → E (.ref D.c_NoToken) none H'))
theorem ok_BySlots_init {D : Ad} (T : Txt K mg D) : FnOk P w K mg base (L2.CX P w) 3 D.a_BySlots_init D.d_BySlots_init ["self", "at", "end"] (sp_BySlots_init K D) := by
  refine T.F_BySlots_init.ok sc_BySlots_init (fun vs H Q E h => sp3_len h) (fun cdv A outer s H vs Q E hr h => ⟨_, (pss_cons (ps_expr (pe_cinit rfl T.g_Token T.cr_Token T.ci_Token_init rfl (ok_Token_init T) (hr.mono (by decide)) T.F_Token_init.kp T.b_Token_init .nil pX (pa_cons (pv 0) (pa_cons (pe_call (ok_bounded T) (hr.mono (by decide)) rfl T.g_bounded T.F_bounded.kp T.b_bounded .nil pX (pa_cons (pv 1) (pa_cons (pe_glob (v := .int 65536) rfl T.k_PLACES ⟨_, rfl⟩) pa_nil))) (pa_cons (pe_call (ok_bounded T) (hr.mono (by decide)) rfl T.g_bounded T.F_bounded.kp T.b_bounded .nil pX (pa_cons (pv 2) (pa_cons (pe_glob (v := .int 65536) rfl T.k_PLACES ⟨_, rfl⟩) pa_nil))) pa_nil)))))
    (pss_one (ps_expr (pe_call (ok_in_order T) (hr.mono (by decide)) rfl T.g_in_order T.F_in_order.kp T.b_in_order .nil pX (pa_cons (pv 1) (pa_cons (pv 2) pa_nil)))))), ?_⟩)
  obtain ⟨x0, x1, x2, rfl, h⟩ := h
  rw [show L2.start n_BySlots_init [x0, x1, x2] = [some x0, some x1, some x2] from rfl]
  try dsimp only [cxOf]
  obtain ⟨a, dx, B, L, rfl, w, hk⟩ := h
  rcases hk with ⟨l, h, rfl, rfl, ⟨h1, h2, h3⟩, k⟩ | ⟨hz, hz2, hfy, hfz, hbad, k⟩
  · wtm_at "go"
    refine ⟨_, _, rfl, some 65536, rfl, .inl ⟨l, rfl, h1, fun k e => by cases e; omega, ?_⟩⟩
    wtm_at "go"
    refine ⟨_, _, rfl, some 65536, rfl, .inl ⟨h, rfl, by omega, fun k e => by cases e; omega, ?_⟩⟩
    wtm_at "go"
    refine ⟨_, _, _, rfl, a, dx, .sl l h, B, L, rfl, w, fun H' w => ?_⟩
    wtm_at "go"
    refine ⟨_, _, rfl, l, h, rfl, rfl, .inl ⟨h2, ?_⟩⟩
    wtm_at "go"
    exact k _ w
  · exact hz.elim

def sp_Up_init (_ : PySem.W.Frag) (D : Ad) : Sp := Sp3 fun x y z H Q E => ∃ (a dx : Addr) (B : Hp) (L : List Cell), x = .ref a ∧ W B ((a, .ins D.c_Up dx []) :: L) H ∧
  ((∃ (l : Int) (h : Option Int), y = .int l ∧ z = oV h ∧ (Tk.up l h).ok ∧ ∀ H', W B ((a, .ins D.c_Up dx [("at", .int l), ("end", oV h)]) :: L) H' → Q .non H') ∨
  (rz_bounded ∧ rz_in_order ∧ Flat y ∧ Flat z ∧ (∀ (l : Int) (h : Option Int), y = .int l → z = oV h → ¬ (Tk.up l h).ok) ∧ ∀ H', W B L H' → E (.ref D.c_NoToken) none H'))
theorem ok_Up_init {D : Ad} (T : Txt K mg D) : FnOk P w K mg base (L2.CX P w) 4 D.a_Up_init D.d_Up_init ["self", "at", "end"] (sp_Up_init K D) := by
  refine T.F_Up_init.ok sc_Up_init (fun vs H Q E h => sp3_len h) (fun cdv A outer s H vs Q E hr h => ⟨_, (pss_cons (ps_expr (pe_cinit rfl T.g_Token T.cr_Token T.ci_Token_init rfl (ok_Token_init T) (hr.mono (by decide)) T.F_Token_init.kp T.b_Token_init .nil pX (pa_cons (pv 0) (pa_cons (pe_call (ok_bounded T) (hr.mono (by decide)) rfl T.g_bounded T.F_bounded.kp T.b_bounded .nil pX (pa_cons (pv 1) (pa_cons pe_non pa_nil))) (pa_cons (pe_call (ok_bound_or_none T) (hr.mono (by decide)) rfl T.g_bound_or_none T.F_bound_or_none.kp T.b_bound_or_none .nil pX (pa_cons (pv 2) pa_nil)) pa_nil)))))
    (pss_one (ps_if (pt_cmpR op_notNo (pv 2) pe_non (nomark _))
      (pss_one (ps_expr (pe_call (ok_in_order T) (hr.mono (by decide)) rfl T.g_in_order T.F_in_order.kp T.b_in_order .nil pX (pa_cons (pv 1) (pa_cons (pv 2) pa_nil)))))
      pss_nil))), ?_⟩)
  obtain ⟨x0, x1, x2, rfl, h⟩ := h
  rw [show L2.start n_Up_init [x0, x1, x2] = [some x0, some x1, some x2] from rfl]
  try dsimp only [cxOf]
  obtain ⟨a, dx, B, L, rfl, w, hk⟩ := h
  rcases hk with ⟨l, h, rfl, rfl, ⟨h1, h2⟩, k⟩ | ⟨hz, hz2, hfy, hfz, hbad, k⟩
  · wtm_at "go"
    refine ⟨_, _, rfl, none, rfl, .inl ⟨l, rfl, h1, nofun, ?_⟩⟩
    wtm_at "go"
    refine ⟨_, rfl, .inl ⟨h, rfl, fun n e => by have := h2 n e; omega, ?_⟩⟩
    wtm_at "go"
    refine ⟨_, _, _, rfl, a, dx, .up l h, B, L, rfl, w, fun H' w => ?_⟩
    cases h with
    | none =>
      dsimp only [oV] at w ⊢
      wtm_at "go"
      exact k _ w
    | some n =>
      dsimp only [oV] at w ⊢
      wtm_at "go"
      refine ⟨_, _, rfl, l, n, rfl, rfl, .inl ⟨h2 n rfl, ?_⟩⟩
      wtm_at "go"
      exact k _ w
  · exact hz.elim

def sp_Down_init (_ : PySem.W.Frag) (D : Ad) : Sp := Sp3 fun x y z H Q E => ∃ (a dx : Addr) (B : Hp) (L : List Cell), x = .ref a ∧ W B ((a, .ins D.c_Down dx []) :: L) H ∧
  ((∃ (l : Option Int) (h : Int), y = oV l ∧ z = .int h ∧ (Tk.dn l h).ok ∧ ∀ H', W B ((a, .ins D.c_Down dx [("at", oV l), ("end", .int h)]) :: L) H' → Q .non H') ∨
  (rz_bounded ∧ rz_in_order ∧ Flat y ∧ Flat z ∧ (∀ (l : Option Int) (h : Int), y = oV l → z = .int h → ¬ (Tk.dn l h).ok) ∧ ∀ H', W B L H' → E (.ref D.c_NoToken) none H'))
theorem ok_Down_init {D : Ad} (T : Txt K mg D) : FnOk P w K mg base (L2.CX P w) 4 D.a_Down_init D.d_Down_init ["self", "at", "end"] (sp_Down_init K D) := by
  refine T.F_Down_init.ok sc_Down_init (fun vs H Q E h => sp3_len h) (fun cdv A outer s H vs Q E hr h => ⟨_, (pss_cons (ps_expr (pe_cinit rfl T.g_Token T.cr_Token T.ci_Token_init rfl (ok_Token_init T) (hr.mono (by decide)) T.F_Token_init.kp T.b_Token_init .nil pX (pa_cons (pv 0) (pa_cons (pe_call (ok_bound_or_none T) (hr.mono (by decide)) rfl T.g_bound_or_none T.F_bound_or_none.kp T.b_bound_or_none .nil pX (pa_cons (pv 1) pa_nil)) (pa_cons (pe_call (ok_bounded T) (hr.mono (by decide)) rfl T.g_bounded T.F_bounded.kp T.b_bounded .nil pX (pa_cons (pv 2) (pa_cons pe_non pa_nil))) pa_nil)))))
    (pss_one (ps_if (pt_cmpR op_notNo (pv 1) pe_non (nomark _))
      (pss_one (ps_expr (pe_call (ok_in_order T) (hr.mono (by decide)) rfl T.g_in_order T.F_in_order.kp T.b_in_order .nil pX (pa_cons (pv 2) (pa_cons (pv 1) pa_nil)))))
      pss_nil))), ?_⟩)
  obtain ⟨x0, x1, x2, rfl, h⟩ := h
  rw [show L2.start n_Down_init [x0, x1, x2] = [some x0, some x1, some x2] from rfl]
  try dsimp only [cxOf]
  obtain ⟨a, dx, B, L, rfl, w, hk⟩ := h
  rcases hk with ⟨l, h, rfl, rfl, ⟨h1, h2⟩, k⟩ | ⟨hz, hz2, hfy, hfz, hbad, k⟩
  · wtm_at "go"
    refine ⟨_, rfl, .inl ⟨l, rfl, fun n e => by have := h2 n e; omega, ?_⟩⟩
    wtm_at "go"
    refine ⟨_, _, rfl, none, rfl, .inl ⟨h, rfl, h1, nofun, ?_⟩⟩
    wtm_at "go"
    refine ⟨_, _, _, rfl, a, dx, .dn l h, B, L, rfl, w, fun H' w => ?_⟩
    cases l with
    | none =>
      dsimp only [oV] at w ⊢
      wtm_at "go"
      exact k _ w
    | some n =>
      dsimp only [oV] at w ⊢
      wtm_at "go"
      refine ⟨_, _, rfl, h, n, rfl, rfl, .inl ⟨h2 n rfl, ?_⟩⟩
      wtm_at "go"
      exact k _ w
  · exact hz.elim

def sp_shown (_ : PySem.W.Frag) (_ : Ad) : Sp := Sp1 fun x H Q _ => ∃ o : Option Int, x = oV o ∧ sml o ∧ Q (.str (sOf o)) H
theorem ok_shown {D : Ad} (T : Txt K mg D) : FnOk P w K mg base (L2.CX P w) 1 D.a_shown D.d_shown ["number"] (sp_shown K D) := by
  refine T.F_shown.okX sc_shown (fun vs H Q E h => sp1_len h) (fun cdv A outer s H vs Q E hr h => ⟨_, (pss_cons (ps_if (pt_cmpR op_isNo (pv 0) pe_non (nomark _))
      (pss_one (ps_ret pe_str))
      pss_nil)
    (pss_one (ps_ret (pe_callTy call_strI (by rfl) T.n_str bt_str (pa_cons (pv 0) pa_nil))))), ?_⟩)
  obtain ⟨x0, rfl, h⟩ := h
  rw [show L2.start n_shown [x0] = [some x0] from rfl]
  try dsimp only [cxOf]
  obtain ⟨o, rfl, hs, k⟩ := h
  cases o with
  | none =>
    dsimp only [oV]
    wtm_at "go"
    exact k
  | some n =>
    dsimp only [oV]
    wtm_at "go"
    exact r_strI (hs n rfl) k


def tkw : Tk → Prop := fun _ => True
/-! the tokens' words and what they hold; tkw tells which kinds the law asks for words -/
local macro_rules | `(tactic| wtm_at "rm") => `(tactic| (with_reducible refine' r_meth ?gvE ?gvN ?gvH); (case gvE => wtm_at "rd"); (case gvN => rfl))
local macro_rules | `(tactic| wtm_at "ei") => `(tactic| first
  | (wtm_at "rm")
  | (refine Or.inl ?_; wtm_at "go"; wtm_at "rm")
  | (refine Or.inr ?_; wtm_at "go"; wtm_at "rm")
  | (refine Or.inr ?_; refine Or.inl ?_; wtm_at "go"; wtm_at "rm")
  | (refine Or.inr ?_; refine Or.inr ?_; wtm_at "go"; wtm_at "rm"))
def sp_BySlots_kind_word (_ : PySem.W.Frag) (_ : Ad) : Sp := Sp1 fun _ H Q _ => Q (.str "slots") H
theorem ok_BySlots_kind_word {D : Ad} (T : Txt K mg D) : FnOk P w K mg base (L2.CX P w) 1 D.a_BySlots_kind_word D.d_BySlots_kind_word ["self"] (sp_BySlots_kind_word K D) := by
  refine T.F_BySlots_kind_word.okX sc_BySlots_kind_word (fun vs H Q E h => sp1_len h) (fun cdv A outer s H vs Q E hr h => ⟨_, (pss_one (ps_ret pe_str)), ?_⟩)
  obtain ⟨x0, rfl, h⟩ := h
  rw [show L2.start n_BySlots_kind_word [x0] = [some x0] from rfl]
  try dsimp only [cxOf]
  wtm_at "go"
  exact h

def sp_Up_kind_word (_ : PySem.W.Frag) (_ : Ad) : Sp := Sp1 fun _ H Q _ => Q (.str "up") H
theorem ok_Up_kind_word {D : Ad} (T : Txt K mg D) : FnOk P w K mg base (L2.CX P w) 1 D.a_Up_kind_word D.d_Up_kind_word ["self"] (sp_Up_kind_word K D) := by
  refine T.F_Up_kind_word.okX sc_Up_kind_word (fun vs H Q E h => sp1_len h) (fun cdv A outer s H vs Q E hr h => ⟨_, (pss_one (ps_ret pe_str)), ?_⟩)
  obtain ⟨x0, rfl, h⟩ := h
  rw [show L2.start n_Up_kind_word [x0] = [some x0] from rfl]
  try dsimp only [cxOf]
  wtm_at "go"
  exact h

def sp_Down_kind_word (_ : PySem.W.Frag) (_ : Ad) : Sp := Sp1 fun _ H Q _ => Q (.str "down") H
theorem ok_Down_kind_word {D : Ad} (T : Txt K mg D) : FnOk P w K mg base (L2.CX P w) 1 D.a_Down_kind_word D.d_Down_kind_word ["self"] (sp_Down_kind_word K D) := by
  refine T.F_Down_kind_word.okX sc_Down_kind_word (fun vs H Q E h => sp1_len h) (fun cdv A outer s H vs Q E hr h => ⟨_, (pss_one (ps_ret pe_str)), ?_⟩)
  obtain ⟨x0, rfl, h⟩ := h
  rw [show L2.start n_Down_kind_word [x0] = [some x0] from rfl]
  try dsimp only [cxOf]
  wtm_at "go"
  exact h

theorem kind_len (t : Tk) : t.kind.length ≤ 5 := by
  cases t with
  | sl l h => exact (by decide : ("slots" : Str).length ≤ 5)
  | up l h => exact (by decide : ("up" : Str).length ≤ 5)
  | dn l h => exact (by decide : ("down" : Str).length ≤ 5)
def sp_Token_words (_ : PySem.W.Frag) (D : Ad) : Sp := Sp1 fun x H Q _ => ∃ (t : Addr) (k : Tk), x = .ref t ∧ IsTk D H t k ∧ tkw k ∧ sml k.at_ ∧ sml k.en ∧ Q (.str k.words) H
theorem ok_Token_words {D : Ad} (T : Txt K mg D) : FnOk P w K mg base (L2.CX P w) 2 D.a_Token_words D.d_Token_words ["self"] (sp_Token_words K D) := by
  refine T.F_Token_words.okX sc_Token_words (fun vs H Q E h => sp1_len h) (fun cdv A outer s H vs Q E hr h => ⟨_, (pss_one (ps_ret (pe_op op_addS (pe_op op_addS (pe_op op_addS (pe_op op_addS (pe_either (pe_meth0 (pv 0) T.cl_BySlots T.me_BySlots_kind_word (ok_BySlots_kind_word T) (hr.mono (by decide)) T.b_BySlots_kind_word .nil pX) (pe_either (pe_meth0 (pv 0) T.cl_Down T.me_Down_kind_word (ok_Down_kind_word T) (hr.mono (by decide)) T.b_Down_kind_word .nil pX) (pe_meth0 (pv 0) T.cl_Up T.me_Up_kind_word (ok_Up_kind_word T) (hr.mono (by decide)) T.b_Up_kind_word .nil pX))) pe_str) (pe_call (ok_shown T) (hr.mono (by decide)) rfl T.g_shown T.F_shown.kp T.b_shown .nil pX (pa_cons (pe_fld (pv 0) rfl) pa_nil))) pe_str) (pe_call (ok_shown T) (hr.mono (by decide)) rfl T.g_shown T.F_shown.kp T.b_shown .nil pX (pa_cons (pe_fld (pv 0) rfl) pa_nil))))), ?_⟩)
  obtain ⟨x0, rfl, h⟩ := h
  rw [show L2.start n_Token_words [x0] = [some x0] from rfl]
  try dsimp only [cxOf]
  obtain ⟨t, k, rfl, ⟨dx, ht⟩, hk, s1, s2, q⟩ := h
  have l1 := sOf_len s1
  have l2 := sOf_len s2
  have e1 : (" " : Str).length = 1 := by decide
  cases k with
  | sl l h =>
    first
    | exact hk.elim
    | (have ht : H t = some (.ins D.c_BySlots dx [("at", .int l), ("end", .int h)]) := ht
       have e2 : ("slots" : Str).length ≤ 5 := by decide
       wtm_at "go"
       wtm_at "ei"
       wtm_at "go"
       refine ⟨_, rfl, ?_⟩
       show tC (V.str (" " : Str)) _ _ _
       wtm_at "go"
       refine r_addS (szl (show ("slots" : Str).length + (" " : Str).length ≤ 100000 by decide)) ?_
       wtm_at "go"
       refine r_fld ht T.cl_BySlots T.na_BySlots_at rfl ?_
       wtm_at "go"
       refine ⟨_, rfl, some l, rfl, s1, ?_⟩
       refine r_addS (szl (by rw [app_len, e1]; simp only [Tk.at_] at l1; omega)) ?_
       wtm_at "go"
       refine r_addS (szl (by rw [app_len, app_len, e1]; simp only [Tk.at_] at l1; omega)) ?_
       wtm_at "go"
       refine r_fld ht T.cl_BySlots T.na_BySlots_end rfl ?_
       wtm_at "go"
       refine ⟨_, rfl, some h, rfl, s2, ?_⟩
       exact r_addS (szl (by rw [app_len, app_len, app_len, e1]; simp only [Tk.at_, Tk.en] at l1 l2; omega)) q)
  | up l h =>
    first
    | exact hk.elim
    | (have ht : H t = some (.ins D.c_Up dx [("at", .int l), ("end", oV h)]) := ht
       have e2 : ("up" : Str).length ≤ 5 := by decide
       wtm_at "go"
       wtm_at "ei"
       wtm_at "go"
       refine ⟨_, rfl, ?_⟩
       show tC (V.str (" " : Str)) _ _ _
       wtm_at "go"
       refine r_addS (szl (show ("up" : Str).length + (" " : Str).length ≤ 100000 by decide)) ?_
       wtm_at "go"
       refine r_fld ht T.cl_Up T.na_Up_at rfl ?_
       wtm_at "go"
       refine ⟨_, rfl, some l, rfl, s1, ?_⟩
       refine r_addS (szl (by rw [app_len, e1]; simp only [Tk.at_] at l1; omega)) ?_
       wtm_at "go"
       refine r_addS (szl (by rw [app_len, app_len, e1]; simp only [Tk.at_] at l1; omega)) ?_
       wtm_at "go"
       refine r_fld ht T.cl_Up T.na_Up_end rfl ?_
       wtm_at "go"
       refine ⟨_, rfl, h, rfl, s2, ?_⟩
       exact r_addS (szl (by rw [app_len, app_len, app_len, e1]; simp only [Tk.at_, Tk.en] at l1 l2; omega)) q)
  | dn l h =>
    first
    | exact hk.elim
    | (have ht : H t = some (.ins D.c_Down dx [("at", oV l), ("end", .int h)]) := ht
       have e2 : ("down" : Str).length ≤ 5 := by decide
       wtm_at "go"
       wtm_at "ei"
       wtm_at "go"
       refine ⟨_, rfl, ?_⟩
       show tC (V.str (" " : Str)) _ _ _
       wtm_at "go"
       refine r_addS (szl (show ("down" : Str).length + (" " : Str).length ≤ 100000 by decide)) ?_
       wtm_at "go"
       refine r_fld ht T.cl_Down T.na_Down_at rfl ?_
       wtm_at "go"
       refine ⟨_, rfl, l, rfl, s1, ?_⟩
       refine r_addS (szl (by rw [app_len, e1]; simp only [Tk.at_] at l1; omega)) ?_
       wtm_at "go"
       refine r_addS (szl (by rw [app_len, app_len, e1]; simp only [Tk.at_] at l1; omega)) ?_
       wtm_at "go"
       refine r_fld ht T.cl_Down T.na_Down_end rfl ?_
       wtm_at "go"
       refine ⟨_, rfl, some h, rfl, s2, ?_⟩
       exact r_addS (szl (by rw [app_len, app_len, app_len, e1]; simp only [Tk.at_, Tk.en] at l1 l2; omega)) q)

def sp_BySlots_holds (_ : PySem.W.Frag) (D : Ad) : Sp := Sp2 fun x y H Q _ => ∃ (t : Addr) (l h : Int) (n : Nat), x = .ref t ∧ y = .int n ∧ IsTk D H t (.sl l h) ∧ Q (.bl ((Tk.sl l h).holds n)) H
theorem ok_BySlots_holds {D : Ad} (T : Txt K mg D) : FnOk P w K mg base (L2.CX P w) 3 D.a_BySlots_holds D.d_BySlots_holds ["self", "key"] (sp_BySlots_holds K D) := by
  refine T.F_BySlots_holds.okX sc_BySlots_holds (fun vs H Q E h => sp2_len h) (fun cdv A outer s H vs Q E hr h => ⟨_, (pss_one (ps_ret (pe_chain op_le op_lt (pe_fld (pv 0) rfl) (pe_call (ok_place_of T) (hr.mono (by decide)) rfl T.g_place_of T.F_place_of.kp T.b_place_of .nil pX (pa_cons (pv 1) pa_nil)) (pe_fld (pv 0) rfl)))), ?_⟩)
  obtain ⟨x0, x1, rfl, h⟩ := h
  rw [show L2.start n_BySlots_holds [x0, x1] = [some x0, some x1] from rfl]
  try dsimp only [cxOf]
  obtain ⟨t, l, h, n, rfl, rfl, ⟨dx, ht⟩, k⟩ := h
  wtm_at "go"
  refine r_fld ht T.cl_BySlots T.na_BySlots_at rfl ?_
  dsimp only [Tk.at_, oV]
  wtm_at "go"
  have k : Q (.bl (decide (l ≤ ((r16 n : Nat) : Int)) && decide (((r16 n : Nat) : Int) < h))) H := k
  wtm_at "br"
  · intro c
    wtm_at "go"
    refine r_fld ht T.cl_BySlots T.na_BySlots_end rfl ?_
    dsimp only [Tk.en, oV]
    wtm_at "go"
    rw [decide_eq_true c, Bool.true_and] at k
    exact k
  · intro c
    rw [decide_eq_false c, Bool.false_and] at k
    exact k

def sp_Up_holds (_ : PySem.W.Frag) (D : Ad) : Sp := Sp2 fun x y H Q _ => ∃ (t : Addr) (l : Int) (h : Option Int) (n : Nat), x = .ref t ∧ y = .int n ∧ IsTk D H t (.up l h) ∧ Q (.bl ((Tk.up l h).holds n)) H
theorem ok_Up_holds {D : Ad} (T : Txt K mg D) : FnOk P w K mg base (L2.CX P w) 1 D.a_Up_holds D.d_Up_holds ["self", "key"] (sp_Up_holds K D) := by
  refine T.F_Up_holds.okX sc_Up_holds (fun vs H Q E h => sp2_len h) (fun cdv A outer s H vs Q E hr h => ⟨_, (pss_one (ps_ret (pe_and (pe_cmpR op_le (pe_fld (pv 0) rfl) (pv 1) (nomark _)) (pe_one (pe_or (pe_cmpR op_isNo (pe_fld (pv 0) rfl) pe_non (nomark _)) (pe_one (pe_cmpR op_lt (pv 1) (pe_fld (pv 0) rfl) (nomark _)))))))), ?_⟩)
  obtain ⟨x0, x1, rfl, h⟩ := h
  rw [show L2.start n_Up_holds [x0, x1] = [some x0, some x1] from rfl]
  try dsimp only [cxOf]
  obtain ⟨t, l, h, n, rfl, rfl, ⟨dx, ht⟩, k⟩ := h
  wtm_at "go"
  refine r_fld ht T.cl_Up T.na_Up_at rfl ?_
  dsimp only [Tk.at_, oV]
  wtm_at "go"
  cases h with
  | none =>
    have k : Q (.bl (decide (l ≤ (n : Int)))) H := k
    wtm_at "br"
    · intro c
      wtm_at "go"
      refine r_fld ht T.cl_Up T.na_Up_end rfl ?_
      dsimp only [Tk.en, oV]
      wtm_at "go"
      rw [decide_eq_true c] at k
      exact k
    · intro c
      rw [decide_eq_false c] at k
      exact k
  | some m =>
    have k : Q (.bl (decide (l ≤ (n : Int)) && decide ((n : Int) < m))) H := k
    wtm_at "br"
    · intro c
      wtm_at "go"
      refine r_fld ht T.cl_Up T.na_Up_end rfl ?_
      dsimp only [Tk.en, oV]
      wtm_at "go"
      refine r_fld ht T.cl_Up T.na_Up_end rfl ?_
      dsimp only [Tk.en, oV]
      wtm_at "go"
      rw [decide_eq_true c, Bool.true_and] at k
      exact k
    · intro c
      rw [decide_eq_false c, Bool.false_and] at k
      exact k

def sp_Down_holds (_ : PySem.W.Frag) (D : Ad) : Sp := Sp2 fun x y H Q _ => ∃ (t : Addr) (l : Option Int) (h : Int) (n : Nat), x = .ref t ∧ y = .int n ∧ IsTk D H t (.dn l h) ∧ Q (.bl ((Tk.dn l h).holds n)) H
theorem ok_Down_holds {D : Ad} (T : Txt K mg D) : FnOk P w K mg base (L2.CX P w) 1 D.a_Down_holds D.d_Down_holds ["self", "key"] (sp_Down_holds K D) := by
  refine T.F_Down_holds.okX sc_Down_holds (fun vs H Q E h => sp2_len h) (fun cdv A outer s H vs Q E hr h => ⟨_, (pss_one (ps_ret (pe_and (pe_cmpR op_le (pe_fld (pv 0) rfl) (pv 1) (nomark _)) (pe_one (pe_or (pe_cmpR op_isNo (pe_fld (pv 0) rfl) pe_non (nomark _)) (pe_one (pe_cmpR op_le (pv 1) (pe_fld (pv 0) rfl) (nomark _)))))))), ?_⟩)
  obtain ⟨x0, x1, rfl, h⟩ := h
  rw [show L2.start n_Down_holds [x0, x1] = [some x0, some x1] from rfl]
  try dsimp only [cxOf]
  obtain ⟨t, l, h, n, rfl, rfl, ⟨dx, ht⟩, k⟩ := h
  wtm_at "go"
  refine r_fld ht T.cl_Down T.na_Down_end rfl ?_
  dsimp only [Tk.en, oV]
  wtm_at "go"
  cases l with
  | none =>
    have k : Q (.bl (decide (h ≤ (n : Int)))) H := k
    wtm_at "br"
    · intro c
      wtm_at "go"
      refine r_fld ht T.cl_Down T.na_Down_at rfl ?_
      dsimp only [Tk.at_, oV]
      wtm_at "go"
      rw [decide_eq_true c] at k
      exact k
    · intro c
      rw [decide_eq_false c] at k
      exact k
  | some m =>
    have k : Q (.bl (decide (h ≤ (n : Int)) && decide ((n : Int) ≤ m))) H := k
    wtm_at "br"
    · intro c
      wtm_at "go"
      refine r_fld ht T.cl_Down T.na_Down_at rfl ?_
      dsimp only [Tk.at_, oV]
      wtm_at "go"
      refine r_fld ht T.cl_Down T.na_Down_at rfl ?_
      dsimp only [Tk.at_, oV]
      wtm_at "go"
      rw [decide_eq_true c, Bool.true_and] at k
      exact k
    · intro c
      rw [decide_eq_false c, Bool.false_and] at k
      exact k


/-! tokens made -/
theorem sml_of {o : Option Int} (h : ∀ n, o = some n → 0 ≤ n ∧ n ≤ 4 * 10 ^ (39 : Int).toNat) : sml o := fun n e => by
  obtain ⟨h0, h1⟩ := h n e
  have h2 : (4 : Int) * 10 ^ (39 : Int).toNat < 2 ^ 1920 := by decide
  have h3 : n.natAbs < 2 ^ 1920 := by
    generalize (4 : Int) * 10 ^ (39 : Int).toNat = big at h1 h2
    have h4 : ((2 ^ 1920 : Nat) : Int) = 2 ^ 1920 := by decide
    rw [← h4] at h2
    generalize (2 ^ 1920 : Nat) = b2 at h2 ⊢
    omega
  by_cases z : n.natAbs = 0
  · rw [z]; decide
  · exact (Nat.log2_lt z).mpr h3
def Tk.few (t : Tk) : Prop := (∀ n, t.at_ = some n → 0 ≤ n ∧ n ≤ 4 * 10 ^ (39 : Int).toNat) ∧ ∀ n, t.en = some n → 0 ≤ n ∧ n ≤ 4 * 10 ^ (39 : Int).toNat
section
variable {D : Ad} {B H : Hp} {L : List Cell} {Q : VK} {E : XK}
theorem mk_sl {l h : Int} {dvs vs : List V} (e : vs ++ dvs = [.int l, .int h]) (w : W B L H) (o : (Tk.sl l h).ok) (q : ∀ t B' H', Same B B' → IsTk D B' t (Tk.sl l h) → W B' L H' → Q (.ref t) H') : rMk D.c_BySlots (sp_BySlots_init K D) dvs E Q vs H := by
  intro x dx hx hdx hne
  have w1 := w.newB hdx (.own x)
  have w2 := w1.newL (p := x) (by rw [upd_ne (Ne.symm hne)]; exact hx) (.ins D.c_BySlots dx [])
  rw [e]
  exact ⟨_, _, _, rfl, x, dx, _, L, rfl, w2, .inl ⟨l, h, rfl, rfl, o, fun H' w3 => ⟨rfl, q x _ _ (same_trans (same_new (w.freeB hdx)) (same_new (w3.out _ (List.mem_cons_self ..)))) ⟨dx, upd_same⟩ w3.give⟩⟩⟩
theorem mk_up {l : Int} {h : Option Int} {dvs vs : List V} (e : vs ++ dvs = [.int l, oV h]) (w : W B L H) (o : (Tk.up l h).ok) (q : ∀ t B' H', Same B B' → IsTk D B' t (Tk.up l h) → W B' L H' → Q (.ref t) H') : rMk D.c_Up (sp_Up_init K D) dvs E Q vs H := by
  intro x dx hx hdx hne
  have w1 := w.newB hdx (.own x)
  have w2 := w1.newL (p := x) (by rw [upd_ne (Ne.symm hne)]; exact hx) (.ins D.c_Up dx [])
  rw [e]
  exact ⟨_, _, _, rfl, x, dx, _, L, rfl, w2, .inl ⟨l, h, rfl, rfl, o, fun H' w3 => ⟨rfl, q x _ _ (same_trans (same_new (w.freeB hdx)) (same_new (w3.out _ (List.mem_cons_self ..)))) ⟨dx, upd_same⟩ w3.give⟩⟩⟩
theorem mk_dn {l : Option Int} {h : Int} {dvs vs : List V} (e : vs ++ dvs = [oV l, .int h]) (w : W B L H) (o : (Tk.dn l h).ok) (q : ∀ t B' H', Same B B' → IsTk D B' t (Tk.dn l h) → W B' L H' → Q (.ref t) H') : rMk D.c_Down (sp_Down_init K D) dvs E Q vs H := by
  intro x dx hx hdx hne
  have w1 := w.newB hdx (.own x)
  have w2 := w1.newL (p := x) (by rw [upd_ne (Ne.symm hne)]; exact hx) (.ins D.c_Down dx [])
  rw [e]
  exact ⟨_, _, _, rfl, x, dx, _, L, rfl, w2, .inl ⟨l, h, rfl, rfl, o, fun H' w3 => ⟨rfl, q x _ _ (same_trans (same_new (w.freeB hdx)) (same_new (w3.out _ (List.mem_cons_self ..)))) ⟨dx, upd_same⟩ w3.give⟩⟩⟩
end

/-! the program's words: read_whole -/
local macro_rules | `(tactic| wtm_at "s0") => `(tactic| first | with_reducible refine g_raise0 ?_ | with_reducible refine g_tryAs ?_ | with_reducible refine g_callW ?_ | with_reducible refine g_methW ?_ | with_reducible refine g_m1 ?_ | with_reducible refine r_m1 ?_ | with_reducible refine g_istr ?_ | with_reducible refine r_istr ?_)
theorem dig_in (c : Nat) : decide (c ∈ sg "0123456789") = decide (48 ≤ c ∧ c ≤ 57) := by
  have e : sg "0123456789" = [48, 49, 50, 51, 52, 53, 54, 55, 56, 57] := by decide
  rw [e, decide_eq_decide]
  simp only [List.mem_cons, List.not_mem_nil, or_false]
  omega
def spRW (K : PySem.W.Frag) (D : Ad) (x : V) (H : Hp) (Q : VK) (E : XK) : Prop := ∃ (B : Hp) (L : List Cell), W B L H ∧
  ((∃ z : Str, x = .str z ∧ z.length ≤ 640 ∧ ((isNum z = true ∧ ∀ n B' H', intText? z = some n → Same B B' → W B' L H' → Q (.int n) H') ∨ (rz_read_whole ∧ isNum z = false ∧ ∀ B' H', Same B B' → W B' L H' → E (.ref D.c_NoText) none H'))) ∨
  (rz_read_whole ∧ (∃ t, TyX K H x (.type t) ∧ kitB t "str" = some false) ∧ E (.ref D.c_NoText) none H))
def sp_read_whole (K : PySem.W.Frag) (D : Ad) : Sp := Sp1 fun x H Q E => spRW K D x H Q E
theorem atI_hd {z : Str} (h : 1 ≤ (sg z).length) : ∃ c, atI z.cps.toList 0 = some c ∧ (sg z).head? = some c := by
  have h0 : atI (sg z) 0 = (sg z)[0]? := atI_nat0 (by omega)
  cases hz : sg z with
  | nil => rw [hz] at h; simp at h
  | cons c r => exact ⟨c, by show atI (sg z) 0 = _; rw [h0, hz]; rfl, rfl⟩
theorem one_zero (c : Nat) : decide ((⟨#[c]⟩ : Str) = "0") = decide (c = 48) := by
  have e : ("0" : Str) = ⟨#[48]⟩ := by decide
  rw [e, decide_eq_decide]
  constructor
  · intro h; injection h with h; simpa using h
  · rintro rfl; rfl
theorem is_zero (z : Str) : decide (z = "0") = decide (sg z = [48]) := by
  have e : ("0" : Str) = ⟨#[48]⟩ := by decide
  rw [e, decide_eq_decide]
  constructor
  · rintro rfl; rfl
  · intro h; exact sg_ext h
theorem ok_read_whole {D : Ad} (T : Txt K mg D) : FnOk P w K mg base (L2.CX P w) 1 D.a_read_whole D.d_read_whole ["text"] (sp_read_whole K D) := by
  refine T.F_read_whole.okX sc_read_whole (fun vs H Q E h => sp1_len h) (fun cdv A outer s H vs Q E hr h => ⟨_, (pss_cons (ps_if (pt_not (pt_val (pe_callB call_isi (by rfl) T.n_isinstance bt_isinstance (pa_cons (pv 0) (pa_cons (pe_bltn (v := .ty "str") (by rfl) T.n_str bt_str rfl) pa_nil)))))
      (pss_one ps_dead)
      pss_nil)
    (pss_cons (ps_set (i := 1) sc_read_whole.nd rfl (Or.inl rfl) (pv 0))
    (pss_cons (ps_if (pt_val (pe_m1 PySem.F.slot_str_startswith PySem.F.type_str_startswith mt_startswith (pv 0) pe_str))
      (pss_one (ps_set (i := 1) sc_read_whole.nd rfl (Or.inl rfl) (pe_slice sl_str (pv 0) (po_some pe_int) po_none)))
      pss_nil)
    (pss_cons (ps_if (PW.pt (pw_or (pt_not (pt_chain op_le op_le pe_int (pe_callB call_lenS (by rfl) T.n_len bt_len (pa_cons (pv 1) pa_nil)) (pe_glob (v := .int 60) rfl T.k_MOST_FIGURES ⟨_, rfl⟩))) (pw_or1 (pt_not (pt_val (pe_callB (cr_all rfl) (by rfl) T.n_all bt_all (pa_cons (pe_lc (own := [("sign", 2)]) (g := gName 2) rfl sc_read_whole.nd (pi_str (pv 1)) (blkOk_by (own := [("sign", 2)]) (N := n_read_whole) (sc := defScope s_read_whole) (by decide +kernel)) (fun _ _ _ _ _ => (pg_name (i := 2) sc_read_whole.nd rfl (Or.inl rfl))) (fun _ _ _ _ _ => pts_nil) (fun _ _ _ _ _ => (pe_cmpR op_in_sign (pv 2) (pe_glob (v := .str "0123456789") rfl T.k_FIGURES ⟨_, rfl⟩) (by rfl)))) pa_nil)))))))
      (pss_one ps_dead)
      pss_nil)
    (pss_cons (ps_if (PW.pt (pw_and (pt_cmpR op_eq (pe_ix ix_str (pv 1) pe_int (fun _ _ => rfl)) pe_str (nomark _)) (pw_and1 (pt_cmpR op_ne (pv 0) pe_str (nomark _)))))
      (pss_one ps_dead)
      pss_nil)
    (pss_one (ps_ret (pe_callTy call_int_str (by rfl) T.n_int bt_int (pa_cons (pv 0) pa_nil))))))))), ?_⟩)
  obtain ⟨x0, rfl, h⟩ := h
  rw [show L2.start n_read_whole [x0] = [some x0, none, none] from rfl]
  try dsimp only [cxOf]
  obtain ⟨B, L, w, hk⟩ := h
  rcases hk with ⟨z, rfl, hl, hk⟩ | ⟨hz, ⟨t, ty, hk⟩, k⟩
  rotate_left
  · exact hz.elim
  wtm_at "go"
  refine r_isi (.base (.str z)) kb_str_str ?_
  wtm_at "g0"
  refine g_ifJ (fun σ H' => ∃ f : Str, σ = [some (.str z), some (.str f), none] ∧ H' = H ∧ sg f = figs z ∧ f.length ≤ 640) ?_ ?_
  · rintro σ H' ⟨f, rfl, rfl, hf, hfl⟩
    have hlf : (f.length : Int) = ((figs z).length : Int) := by rw [← hf, sg_len]
    have key : ∀ {Q' : VK} {E' : XK}, True := trivial
    have rest : ∀ b : Bool, digs (figs z) = b → True := fun _ _ => trivial
    wtm_at "go"
    refine r_lenS (szl (by omega)) ?_
    rw [hlf]
    wtm_at "go"
    by_cases c1 : 1 ≤ (figs z).length
    rotate_left
    · rcases hk with ⟨hn, _⟩ | ⟨hz, hn, k⟩
      · unfold isNum at hn
        rw [decide_eq_false c1] at hn
        simp at hn
      · exact hz.elim
    wtm_at "go"
    by_cases c2 : (figs z).length ≤ 60
    rotate_left
    · rcases hk with ⟨hn, _⟩ | ⟨hz, hn, k⟩
      · unfold isNum at hn
        rw [decide_eq_false c2] at hn
        simp at hn
      · exact hz.elim
    wtm_at "go"
    intro D1 hD1
    refine LC.str w hD1 (szlt (by omega)) (fun i B acc => acc = (((figs z).take i).map fun c => decide (48 ≤ c ∧ c ≤ 57)).map V.bl) (by simp) ?_ ?_
    · rintro i c B' acc H2 Nx hc s2 w rfl hl1 hl2 hN
      rw [hf] at hc
      wtm_at "go"
      refine ⟨rfl, ?_⟩
      wtm_at "go"
      refine ⟨c, "0123456789", rfl, rfl, ?_⟩
      rw [dig_in]
      refine r_acc w hl2 fun H3 w3 => ?_
      refine hN _ _ _ (same_refl _) w3 ?_ (by simp at hl1 ⊢; omega)
      have et : (figs z).take (i + 1) = (figs z).take i ++ [c] := by rw [List.take_add_one, hc]; rfl
      rw [et]
      simp
    rintro _ B2 acc H2 s2 _ i2 w rfl hl1
    rw [hf, List.take_length] at i2
    wtm_at "go"
    refine ⟨_, _, rfl, SqL.of (w.rd i2), ?_⟩
    have ed : (((figs z).map fun c => decide (48 ≤ c ∧ c ≤ 57)).all id) = digs (figs z) := by
      unfold digs
      rw [List.all_map]
      rfl
    rw [ed]
    generalize hdg : digs (figs z) = dg
    cases dg with
    | false =>
      rcases hk with ⟨hn, _⟩ | ⟨hz, hn, k⟩
      · unfold isNum at hn
        rw [hdg] at hn
        simp at hn
      · exact hz.elim
    | true =>
    wtm_at "go"
    obtain ⟨c0, hc0, hh0⟩ := atI_hd (z := f) (by rw [hf]; exact c1)
    rw [hf] at hh0
    refine ⟨f, 0, c0, rfl, rfl, szl (by omega), hc0, ?_⟩
    wtm_at "go"
    rw [one_zero]
    by_cases c3 : c0 = 48
    rotate_left
    · wtm_at "go"
      rcases hk with ⟨hn, k⟩ | ⟨hz, hn, k⟩
      · obtain ⟨n, en⟩ := num_text c1 hdg hl
        exact ⟨z, n, rfl, en, hl, k n _ _ en s2 w⟩
      · unfold isNum at hn
        rw [decide_eq_true c1, decide_eq_true c2, hdg, hh0] at hn
        simp [c3] at hn
    wtm_at "go"
    rw [is_zero]
    by_cases c4 : sg z = [48]
    · wtm_at "go"
      rcases hk with ⟨hn, k⟩ | ⟨hz, hn, k⟩
      · obtain ⟨n, en⟩ := num_text c1 hdg hl
        exact ⟨z, n, rfl, en, hl, k n _ _ en s2 w⟩
      · unfold isNum at hn
        rw [decide_eq_true c1, decide_eq_true c2, hdg, decide_eq_true c4] at hn
        simp at hn
    · rcases hk with ⟨hn, k⟩ | ⟨hz, hn, k⟩
      · unfold isNum at hn
        rw [hh0, decide_eq_false c4] at hn
        simp [c3] at hn
      · exact hz.elim
  · intro N hN
    wtm_at "go"
    refine ⟨z, "-", rfl, rfl, ?_⟩
    rw [starts_dash]
    wtm_at "go"
    wtm_at "br"
    · intro c
      wtm_at "go"
      refine ⟨z, rfl, szl (by omega), ?_⟩
      wtm_at "go"
      have ec := cut_from z 1
      refine hN _ _ ⟨cutS z (some 1) none, rfl, rfl, by rw [show sg (cutS z (some 1) none) = (sg z).drop 1 from ec]; unfold figs; rw [if_pos c], ?_⟩
      have := congrArg List.length ec
      rw [List.length_drop, sg_len, sg_len] at this
      have e : (cutS z (some 1) none).length = z.length - 1 := this
      omega
    · intro c
      wtm_at "go"
      exact hN _ _ ⟨z, rfl, rfl, by unfold figs; rw [if_neg c], hl⟩


/-! tokens read from texts -/
local macro_rules | `(tactic| wtm_at "s0") => `(tactic| first | with_reducible refine g_bm ?_ | with_reducible refine g_bm0 ?_ | with_reducible refine g_sub ?_)
/-- what a word tells: a number, None, or nothing -/
def wOf (z : Str) : Option (Option Int) := if z = "-" then some none else if isNum z then (intText? z).map some else none
theorem num_tells {z : Str} (h : isNum z = true) (hl : z.length ≤ 640) : ∃ n, intText? z = some n := by
  unfold isNum at h
  simp only [Bool.and_eq_true, decide_eq_true_eq] at h
  exact num_text h.1.1.1 h.1.2 hl
def sp_read_bound (_ : PySem.W.Frag) (D : Ad) : Sp := Sp1 fun x H Q E => ∃ (z : Str) (B : Hp) (L : List Cell), x = .str z ∧ z.length ≤ 640 ∧ W B L H ∧
  ((∃ o, wOf z = some o ∧ ∀ B' H', Same B B' → W B' L H' → Q (oV o) H') ∨ (rz_read_whole ∧ wOf z = none ∧ ∀ B' H', Same B B' → W B' L H' → E (.ref D.c_NoText) none H'))
theorem ok_read_bound {D : Ad} (T : Txt K mg D) : FnOk P w K mg base (L2.CX P w) 2 D.a_read_bound D.d_read_bound ["word"] (sp_read_bound K D) := by
  refine T.F_read_bound.okX sc_read_bound (fun vs H Q E h => sp1_len h) (fun cdv A outer s H vs Q E hr h => ⟨_, (pss_cons (ps_if (pt_cmpR op_eq (pv 0) pe_str (nomark _))
      (pss_one (ps_ret pe_non))
      pss_nil)
    (pss_one (ps_ret (pe_call (ok_read_whole T) (hr.mono (by decide)) rfl T.g_read_whole T.F_read_whole.kp T.b_read_whole .nil pX (pa_cons (pv 0) pa_nil))))), ?_⟩)
  obtain ⟨x0, rfl, h⟩ := h
  rw [show L2.start n_read_bound [x0] = [some x0] from rfl]
  try dsimp only [cxOf]
  obtain ⟨z, B, L, rfl, hl, w, hk⟩ := h
  by_cases c : z = "-"
  · have ew : wOf z = some none := by unfold wOf; rw [if_pos c]
    wtm_at "go"
    rcases hk with ⟨o, e, k⟩ | ⟨hz, e, k⟩
    · rw [ew] at e
      cases e
      exact k B _ (same_refl _) w
    · rw [ew] at e; cases e
  · wtm_at "go"
    refine ⟨_, rfl, B, L, w, .inl ⟨z, rfl, hl, ?_⟩⟩
    rcases hk with ⟨o, e, k⟩ | ⟨hz, e, k⟩
    · unfold wOf at e
      rw [if_neg c] at e
      by_cases hn : isNum z = true
      · rw [if_pos hn] at e
        refine .inl ⟨hn, fun n B' H' hn s w => ?_⟩
        rw [hn] at e
        cases e
        exact k B' H' s w
      · rw [if_neg hn] at e; cases e
    · unfold wOf at e
      rw [if_neg c] at e
      by_cases hn : isNum z = true
      · rw [if_pos hn] at e
        obtain ⟨n, en⟩ := num_tells hn hl
        rw [en] at e; cases e
      · exact .inr ⟨hz, Bool.eq_false_iff.mpr hn, fun B' H' s w => k B' H' s w⟩

/-- the token of three words -/
def tkMade (a : Str) (l h : Option Int) : Option Tk :=
  if a = "slots" then (match l, h with | some l, some h => some (.sl l h) | _, _ => none)
  else if a = "up" then (match l with | some l => some (.up l h) | _ => none)
  else if a = "down" then (match h with | some h => some (.dn l h) | _ => none) else none
noncomputable def tkOf (a b c : Str) : Option Tk := by
  classical
  exact match wOf b, wOf c with
  | some l, some h => (match tkMade a l h with | some t => if t.ok then some t else none | none => none)
  | _, _ => none
theorem tkOf_some {a b c : Str} {t : Tk} (h : tkOf a b c = some t) : ∃ l h, wOf b = some l ∧ wOf c = some h ∧ tkMade a l h = some t ∧ t.ok := by
  unfold tkOf at h
  split at h
  · rename_i l r e1 e2
    split at h
    · rename_i t' e3
      split at h
      · cases h
        exact ⟨l, r, e1, e2, e3, by assumption⟩
      · cases h
    · cases h
  · cases h
theorem tkMade_some {a : Str} {l h : Option Int} {t : Tk} (e : tkMade a l h = some t) : a = t.kind ∧ t.at_ = l ∧ t.en = h := by
  unfold tkMade at e
  split at e
  · rename_i c
    split at e
    · cases e; exact ⟨c, rfl, rfl⟩
    · cases e
  · split at e
    · rename_i c
      split at e
      · cases e; exact ⟨c, rfl, rfl⟩
      · cases e
    · split at e
      · rename_i c
        split at e
        · cases e; exact ⟨c, rfl, rfl⟩
        · cases e
      · cases e

theorem tkMade_words (t : Tk) : tkMade t.kind t.at_ t.en = some t := by
  have h1 : ¬ ("up" : Str) = "slots" := by decide
  have h2 : ¬ ("down" : Str) = "slots" := by decide
  have h3 : ¬ ("down" : Str) = "up" := by decide
  cases t with
  | sl l h => show tkMade "slots" (some l) (some h) = _; unfold tkMade; rw [if_pos rfl]
  | up l h => show tkMade "up" (some l) h = _; unfold tkMade; rw [if_neg h1, if_pos rfl]
  | dn l h => show tkMade "down" l (some h) = _; unfold tkMade; rw [if_neg h2, if_neg h3, if_pos rfl]
def sp_token_of (_ : PySem.W.Frag) (D : Ad) : Sp := Sp1 fun x H Q E => ∃ (p : Addr) (a b c : Str) (B : Hp) (L : List Cell), x = .ref p ∧ W B L H ∧ B p = some (.lst [.str a, .str b, .str c]) ∧ b.length ≤ 640 ∧ c.length ≤ 640 ∧
  ((∃ t, tkOf a b c = some t ∧ ∀ q B' H', Same B B' → IsTk D B' q t → W B' L H' → Q (.ref q) H') ∨ (rz_token_of ∧ tkOf a b c = none ∧ ∀ B' H', Same B B' → W B' L H' → E (.ref D.c_NoToken) none H'))
theorem ok_token_of {D : Ad} (T : Txt K mg D) : FnOk P w K mg base (L2.CX P w) 6 D.a_token_of D.d_token_of ["words"] (sp_token_of K D) := by
  refine T.F_token_of.okX sc_token_of (fun vs H Q E h => sp1_len h) (fun cdv A outer s H vs Q E hr h => ⟨_, (pss_cons (ps_tryDead rfl rfl ⟨rfl, by decide, .inl T.g_NoText⟩ (fun hd => L2H.passesAt_of rfl hd) (fun pn xe po =>
        (pss_cons (ps_set (i := 1) sc_token_of.nd rfl (Or.inl rfl) (pe_call (sp := sp_read_bound K D) (ok_read_bound T) (hr.mono (by decide)) rfl T.g_read_bound T.F_read_bound.kp T.b_read_bound .nil passF (pa_cons (pe_ix (r := rIxL K) ix_list (pv 0) pe_int (fun _ _ => rfl)) pa_nil)))
        (pss_one (ps_set (i := 2) sc_token_of.nd rfl (Or.inl rfl) (pe_call (sp := sp_read_bound K D) (ok_read_bound T) (hr.mono (by decide)) rfl T.g_read_bound T.F_read_bound.kp T.b_read_bound .nil passF (pa_cons (pe_ix (r := rIxL K) ix_list (pv 0) pe_int (fun _ _ => rfl)) pa_nil)))))))
    (pss_cons (ps_if (pt_cmpR op_eq (pe_ix ix_list (pv 0) pe_int (fun _ _ => rfl)) pe_str (nomark _))
      (pss_one (ps_ret (pe_make T.mk_BySlots (ok_BySlots_init T) (hr.mono (by decide)) rfl T.g_BySlots T.b_BySlots_init .nil pX (pa_cons (pv 1) (pa_cons (pv 2) pa_nil)))))
      pss_nil)
    (pss_cons (ps_if (pt_cmpR op_eq (pe_ix ix_list (pv 0) pe_int (fun _ _ => rfl)) pe_str (nomark _))
      (pss_one (ps_ret (pe_make T.mk_Up (ok_Up_init T) (hr.mono (by decide)) rfl T.g_Up T.b_Up_init .nil pX (pa_cons (pv 1) (pa_cons (pv 2) pa_nil)))))
      pss_nil)
    (pss_cons (ps_if (pt_cmpR op_eq (pe_ix ix_list (pv 0) pe_int (fun _ _ => rfl)) pe_str (nomark _))
      (pss_one (ps_ret (pe_make T.mk_Down (ok_Down_init T) (hr.mono (by decide)) rfl T.g_Down T.b_Down_init .nil pX (pa_cons (pv 1) (pa_cons (pv 2) pa_nil)))))
      pss_nil)
    (pss_one ps_dead))))), ?_⟩)
  obtain ⟨x0, rfl, h⟩ := h
  rw [show L2.start n_token_of [x0] = [some x0, none, none] from rfl]
  try dsimp only [cxOf]
  obtain ⟨p, a, b, c, B, L, rfl, w, ip, lb, lc, hk⟩ := h
  rcases hk with ⟨t, et, k⟩ | ⟨hz, et, k⟩
  · obtain ⟨l, h, eb, ec, em, ok⟩ := tkOf_some et
    wtm_at "go"
    refine r_ixL (SqL.of (w.rd ip)) (v := .str b) rfl ?_
    wtm_at "go"
    refine ⟨_, rfl, b, B, L, rfl, lb, w, .inl ⟨l, eb, fun B1 H1 s1 w => ?_⟩⟩
    have ip := s1 _ _ ip
    wtm_at "go"
    refine r_ixL (SqL.of (w.rd ip)) (v := .str c) rfl ?_
    wtm_at "go"
    refine ⟨_, rfl, c, B1, L, rfl, lc, w, .inl ⟨h, ec, fun B2 H2 s2 w => ?_⟩⟩
    have ip := s2 _ _ ip
    have s12 := same_trans s1 s2
    obtain ⟨rfl, rfl, rfl⟩ := tkMade_some em
    have h1 : ¬ ("up" : Str) = "slots" := by decide
    have h2 : ¬ ("down" : Str) = "slots" := by decide
    have h3 : ¬ ("down" : Str) = "up" := by decide
    cases t with
    | sl l h =>
      have ip : B2 p = some (.lst [.str "slots", .str b, .str c]) := ip
      dsimp only [Tk.at_, Tk.en, oV]
      wtm_at "go"
      refine r_ixL (SqL.of (w.rd ip)) (v := .str "slots") rfl ?_
      wtm_at "go"
      exact mk_sl rfl w ok fun q B' H' s i w => k q B' H' (same_trans s12 s) i w
    | up l h =>
      have ip : B2 p = some (.lst [.str "up", .str b, .str c]) := ip
      dsimp only [Tk.at_, Tk.en, oV]
      wtm_at "go"
      refine r_ixL (SqL.of (w.rd ip)) (v := .str "up") rfl ?_
      wtm_at "go"
      refine r_ixL (SqL.of (w.rd ip)) (v := .str "up") rfl ?_
      wtm_at "go"
      exact mk_up rfl w ok fun q B' H' s i w => k q B' H' (same_trans s12 s) i w
    | dn l h =>
      have ip : B2 p = some (.lst [.str "down", .str b, .str c]) := ip
      dsimp only [Tk.at_, Tk.en, oV]
      wtm_at "go"
      refine r_ixL (SqL.of (w.rd ip)) (v := .str "down") rfl ?_
      wtm_at "go"
      refine r_ixL (SqL.of (w.rd ip)) (v := .str "down") rfl ?_
      wtm_at "go"
      refine r_ixL (SqL.of (w.rd ip)) (v := .str "down") rfl ?_
      wtm_at "go"
      exact mk_dn rfl w ok fun q B' H' s i w => k q B' H' (same_trans s12 s) i w
  · exact hz.elim

def sp_read_token (K : PySem.W.Frag) (D : Ad) : Sp := Sp1 fun x H Q E => ∃ (B : Hp) (L : List Cell), W B L H ∧
  ((∃ (z a b c : Str) (t : Tk), x = .str z ∧ z.length ≤ 700 ∧ Txt.split z " " = [a, b, c] ∧ b.length ≤ 640 ∧ c.length ≤ 640 ∧ tkOf a b c = some t ∧ ∀ q B' H', Same B B' → IsTk D B' q t → W B' L H' → Q (.ref q) H') ∨
  (rz_read_token ∧ ((∃ z, x = .str z ∧ z.length ≤ 640 ∧ ∀ a b c, Txt.split z " " = [a, b, c] → b.length ≤ 640 ∧ c.length ≤ 640 ∧ tkOf a b c = none) ∨ ∃ t, TyX K H x (.type t) ∧ kitB t "str" = some false) ∧ ∀ B' H', Same B B' → W B' L H' → E (.ref D.c_NoToken) none H'))
theorem ok_read_token {D : Ad} (T : Txt K mg D) : FnOk P w K mg base (L2.CX P w) 7 D.a_read_token D.d_read_token ["text"] (sp_read_token K D) := by
  refine T.F_read_token.okX sc_read_token (fun vs H Q E h => sp1_len h) (fun cdv A outer s H vs Q E hr h => ⟨_, (pss_cons (ps_if (pt_not (pt_val (pe_callB call_isi (by rfl) T.n_isinstance bt_isinstance (pa_cons (pv 0) (pa_cons (pe_bltn (v := .ty "str") (by rfl) T.n_str bt_str rfl) pa_nil)))))
      (pss_one ps_dead)
      pss_nil)
    (pss_cons (ps_set (i := 1) sc_read_token.nd rfl (Or.inl rfl) (pe_split (pv 0) pe_str))
    (pss_cons (ps_if (pt_cmpR op_ne (pe_callB call_lenZ (by rfl) T.n_len bt_len (pa_cons (pv 1) pa_nil)) pe_int (nomark _))
      (pss_one ps_dead)
      pss_nil)
    (pss_one (ps_ret (pe_call (ok_token_of T) (hr.mono (by decide)) rfl T.g_token_of T.F_token_of.kp T.b_token_of .nil pX (pa_cons (pv 1) pa_nil))))))), ?_⟩)
  obtain ⟨x0, rfl, h⟩ := h
  rw [show L2.start n_read_token [x0] = [some x0, none] from rfl]
  try dsimp only [cxOf]
  obtain ⟨B, L, w, hk⟩ := h
  rcases hk with ⟨z, a, b, c, t, rfl, hl, es, lb, lc, et, k⟩ | ⟨hz, hx, k⟩
  · wtm_at "go"
    refine r_isi (.base (.str z)) kb_str_str ?_
    wtm_at "go"
    refine ⟨z, " ", rfl, rfl, by decide, szl (by omega), ?_⟩
    rw [es]
    intro p hp
    have s1 := same_new (w.freeB hp) (o := .lst [.str a, .str b, .str c])
    have w := w.newB hp (.lst [.str a, .str b, .str c])
    have ip : upd B p (.lst [.str a, .str b, .str c]) p = some (.lst [.str a, .str b, .str c]) := upd_same
    dsimp only [List.map]
    generalize upd B p (.lst [.str a, .str b, .str c]) = B1 at *
    wtm_at "go"
    refine r_lenL (SqL.of (w.rd ip)) ?_
    wtm_at "go"
    refine ⟨_, rfl, p, a, b, c, B1, L, rfl, w, ip, lb, lc, .inl ⟨t, et, fun q B' H' s i w => k q B' H' (same_trans s1 s) i w⟩⟩
  · exact hz.elim


local macro_rules | `(tactic| wtm_at "s0") => `(tactic| first | with_reducible refine g_bm ?_ | with_reducible refine g_bm0 ?_ | with_reducible refine g_sub ?_ | with_reducible refine g_m1 ?_ | with_reducible refine r_m1 ?_)
def sp__law_number (_ : PySem.W.Frag) (_ : Ad) : Sp := Sp1 fun x H Q _ => ∃ (c : Int) (B : Hp) (L : List Cell), x = .int c ∧ W B L H ∧ ∀ (m : Nat) (B' H' : Hp), (m : Int) < 10 ^ (39 : Int).toNat → Same B B' → W B' L H' → Q (.int m) H'
theorem ok__law_number {D : Ad} (T : Txt K mg D) : FnOk P w K mg base (L2.CX P w) 1 D.a__law_number D.d__law_number ["_law_cell"] (sp__law_number K D) := by
  refine T.F__law_number.okX sc__law_number (fun vs H Q E h => sp1_len h) (fun cdv A outer s H vs Q E hr h => ⟨_, (pss_one (ps_ret (pe_op op_mod (pe_op op_fdiv (pv 0) pe_int) (pe_ix ix_list (pe_lst (pa_cons pe_int (pa_cons pe_int (pa_cons (pe_op op_pow pe_int pe_int) pa_nil)))) (pe_op op_mod (pv 0) pe_int) (fun _ _ => rfl))))), ?_⟩)
  obtain ⟨x0, rfl, h⟩ := h
  rw [show L2.start n__law_number [x0] = [some x0] from rfl]
  try dsimp only [cxOf]
  obtain ⟨c, B, L, rfl, w, k⟩ := h
  wtm_at "go"
  refine d_lst w (szl (by simp)) fun p B1 H1 hp s1 i1 w => ?_
  wtm_at "go"
  obtain ⟨v, hv, e⟩ := atI_ex (ns := [10, 70000, 10 ^ (39 : Int).toNat]) (i := c % 3) (by omega) (by simp only [List.length_cons, List.length_nil]; omega)
  have hv : 0 < v ∧ v ≤ 10 ^ (39 : Int).toNat := by
    simp only [List.mem_cons, List.not_mem_nil, or_false] at hv
    rcases hv with rfl | rfl | rfl <;> decide
  refine r_ixL (SqL.of (w.rd i1)) e ?_
  wtm_at "go"
  have h0 := Int.emod_nonneg (c / 3) (Int.ne_of_gt hv.1)
  have h1 := Int.emod_lt_of_pos (c / 3) hv.1
  have := k (c / 3 % v).toNat B1 H1 (by rw [Int.toNat_of_nonneg h0]; generalize (10 : Int) ^ (39 : Int).toNat = big at *; omega) s1 w
  rwa [Int.toNat_of_nonneg h0] at this

/-- two numbers that tell a token -/
def TkP (B : Hp) (p : Addr) (t : Tk) : Prop := B p = some (.tup [oV t.at_, oV t.en])
theorem few_of {t : Tk} {l h : Int} (el : t.at_ = some l) (eh : t.en = some h) (l0 : 0 ≤ l) (h0 : 0 ≤ h) (l1 : l < 10 ^ (39 : Int).toNat) (h1 : h < 10 ^ (39 : Int).toNat) : t.few := by
  have hb : (10 : Int) ^ (39 : Int).toNat ≤ 4 * 10 ^ (39 : Int).toNat := by decide
  unfold Tk.few
  rw [el, eh]
  generalize (10 : Int) ^ (39 : Int).toNat = b1 at *
  have : ∀ n : Int, 0 ≤ n → n < b1 → n ≤ 4 * b1 := fun n h0 hn => by omega
  refine ⟨fun n e => ?_, fun n e => ?_⟩
  · cases e; exact ⟨l0, this _ l0 l1⟩
  · cases e; exact ⟨h0, this _ h0 h1⟩
def sp__law_numbers (K : PySem.W.Frag) (_ : Ad) : Sp := Sp2 fun x y H Q _ => ∃ (a : Addr) (ns : List Int) (kd : Int) (B : Hp) (L : List Cell), x = .ref a ∧ y = .int kd ∧ (kd = 0 ∨ kd = 1 ∨ kd = 2) ∧ SqL K B a (ns.map V.int) ∧ W B L H ∧
  ∀ (p : Addr) (t : Tk) (B' H' : Hp) (l h : Int), t.at_ = some l → t.en = some h → t.num = kd → t.ok → t.few → Same B B' → TkP B' p t → W B' L H' → Q (.ref p) H'
theorem ok__law_numbers {D : Ad} (T : Txt K mg D) : FnOk P w K mg base (L2.CX P w) 2 D.a__law_numbers D.d__law_numbers ["_law_script", "_law_kind"] (sp__law_numbers K D) := by
  refine T.F__law_numbers.okX sc__law_numbers (fun vs H Q E h => sp2_len h) (fun cdv A outer s H vs Q E hr h => ⟨_, (pss_cons (ps_set (i := 2) sc__law_numbers.nd rfl (Or.inl rfl) (pe_call (ok__law_number T) (hr.mono (by decide)) rfl T.g__law_number T.F__law_number.kp T.b__law_number .nil pX (pa_cons (pe_call (ok__law_cell_at T) (hr.mono (by decide)) rfl T.g__law_cell_at T.F__law_cell_at.kp T.b__law_cell_at .nil pX (pa_cons (pv 0) (pa_cons pe_int pa_nil))) pa_nil)))
    (pss_cons (ps_set (i := 3) sc__law_numbers.nd rfl (Or.inl rfl) (pe_call (ok__law_number T) (hr.mono (by decide)) rfl T.g__law_number T.F__law_number.kp T.b__law_number .nil pX (pa_cons (pe_call (ok__law_cell_at T) (hr.mono (by decide)) rfl T.g__law_cell_at T.F__law_cell_at.kp T.b__law_cell_at .nil pX (pa_cons (pv 0) (pa_cons pe_int pa_nil))) pa_nil)))
    (pss_cons (ps_if (pt_cmpR op_eq (pv 1) pe_int (nomark _))
      (pss_cons (ps_set (i := 2) sc__law_numbers.nd rfl (Or.inl rfl) (pe_op op_mod (pv 2) pe_int))
      (pss_one (ps_set (i := 3) sc__law_numbers.nd rfl (Or.inl rfl) (pe_op op_mod (pv 3) pe_int))))
      pss_nil)
    (pss_cons (ps_set (i := 4) sc__law_numbers.nd rfl (Or.inl rfl) (pe_callB (call_min2 rfl) (by rfl) T.n_min bt_min (pa_cons (pv 2) (pa_cons (pv 3) pa_nil))))
    (pss_cons (ps_set (i := 5) sc__law_numbers.nd rfl (Or.inl rfl) (pe_callB (call_max2 rfl) (by rfl) T.n_max bt_max (pa_cons (pv 2) (pa_cons (pv 3) pa_nil))))
    (pss_cons (ps_if (pt_cmpR op_eq (pv 1) pe_int (nomark _))
      (pss_one (ps_ret (pe_tup (pa_cons (pv 5) (pa_cons (pv 4) pa_nil)))))
      pss_nil)
    (pss_one (ps_ret (pe_tup (pa_cons (pv 4) (pa_cons (pv 5) pa_nil))))))))))), ?_⟩)
  obtain ⟨x0, x1, rfl, h⟩ := h
  rw [show L2.start n__law_numbers [x0, x1] = [some x0, some x1, none, none, none, none] from rfl]
  try dsimp only [cxOf]
  obtain ⟨a, ns, kd, B, L, rfl, rfl, hkd, hS, w, k⟩ := h
  wtm_at "go"
  refine ⟨_, rfl, _, B, L, rfl, w, fun m1 B1 H1 hm1 s1 w => ?_⟩
  have hS := Z.Same.sq s1 hS
  wtm_at "go"
  refine ⟨_, rfl, _, B1, L, rfl, w, fun m2 B2 H2 hm2 s2 w => ?_⟩
  have s12 := same_trans s1 s2
  have hb : (65537 : Int) < 10 ^ (39 : Int).toNat := by decide
  wtm_at "g0"
  refine g_ifJ (fun σ H' => ∃ n1 n2 : Int, σ = [some (.ref a), some (.int kd), some (.int n1), some (.int n2), none, none] ∧ H' = H2 ∧ 0 ≤ n1 ∧ 0 ≤ n2 ∧ n1 < 10 ^ (39 : Int).toNat ∧ n2 < 10 ^ (39 : Int).toNat ∧ (kd = 0 → n1 ≤ 65536 ∧ n2 ≤ 65536)) ?_ ?_
  · rintro σ H' ⟨n1, n2, rfl, rfl, a0, b0, a1, b1, h0⟩
    wtm_at "go"
    refine ⟨_, _, rfl, ?_⟩
    generalize elo : (if n2 < n1 then n2 else n1) = lo
    wtm_at "go"
    refine ⟨_, _, rfl, ?_⟩
    generalize ehi : (if n2 > n1 then n2 else n1) = hi
    have hl : 0 ≤ lo ∧ lo ≤ hi ∧ lo < 10 ^ (39 : Int).toNat ∧ hi < 10 ^ (39 : Int).toNat ∧ (kd = 0 → hi ≤ 65536) := by
      generalize (10 : Int) ^ (39 : Int).toNat = big at *
      subst elo ehi
      split <;> split <;> omega
    obtain ⟨e1, e2, e3, e4, e5⟩ := hl
    rcases hkd with rfl | rfl | rfl
    · wtm_at "go"
      exact d_tup w (szl (by simp)) fun p B3 H3 _ s3 i3 w => k p (.sl lo hi) B3 H3 lo hi rfl rfl rfl ⟨e1, e2, e5 rfl⟩ (few_of rfl rfl e1 (by omega) e3 e4) (same_trans s12 s3) i3 w
    · wtm_at "go"
      exact d_tup w (szl (by simp)) fun p B3 H3 _ s3 i3 w => k p (.up lo (some hi)) B3 H3 lo hi rfl rfl rfl ⟨e1, fun n e => by cases e; exact e2⟩ (few_of rfl rfl e1 (by omega) e3 e4) (same_trans s12 s3) i3 w
    · wtm_at "go"
      exact d_tup w (szl (by simp)) fun p B3 H3 _ s3 i3 w => k p (.dn (some hi) lo) B3 H3 hi lo rfl rfl rfl ⟨e1, fun n e => by cases e; exact e2⟩ (few_of rfl rfl (by omega) e1 e4 e3) (same_trans s12 s3) i3 w
  · intro N hN
    rcases hkd with rfl | rfl | rfl
    · wtm_at "go"
      exact hN _ _ ⟨_, _, rfl, rfl, by omega, by omega, by generalize (10 : Int) ^ (39 : Int).toNat = big at *; omega, by generalize (10 : Int) ^ (39 : Int).toNat = big at *; omega, fun _ => ⟨by omega, by omega⟩⟩
    · wtm_at "go"
      exact hN _ _ ⟨_, _, rfl, rfl, by omega, by omega, hm1, hm2, nofun⟩
    · wtm_at "go"
      exact hN _ _ ⟨_, _, rfl, rfl, by omega, by omega, hm1, hm2, nofun⟩

def sp__law_made (K : PySem.W.Frag) (D : Ad) : Sp := Sp3 fun x y z H Q _ => ∃ (t : Tk) (B : Hp) (L : List Cell), x = .int t.num ∧ y = oV t.at_ ∧ z = oV t.en ∧ t.ok ∧ W B L H ∧ ∀ (a : Addr) (B' H' : Hp), Same B B' → IsTk D B' a t → W B' L H' → Q (.ref a) H'
theorem ok__law_made {D : Ad} (T : Txt K mg D) : FnOk P w K mg base (L2.CX P w) 6 D.a__law_made D.d__law_made ["_law_kind", "_law_at", "_law_end"] (sp__law_made K D) := by
  refine T.F__law_made.okX sc__law_made (fun vs H Q E h => sp3_len h) (fun cdv A outer s H vs Q E hr h => ⟨_, (pss_cons (ps_if (pt_cmpR op_eq (pv 0) pe_int (nomark _))
      (pss_one (ps_ret (pe_make T.mk_BySlots (ok_BySlots_init T) (hr.mono (by decide)) rfl T.g_BySlots T.b_BySlots_init .nil pX (pa_cons (pv 1) (pa_cons (pv 2) pa_nil)))))
      pss_nil)
    (pss_cons (ps_if (pt_cmpR op_eq (pv 0) pe_int (nomark _))
      (pss_one (ps_ret (pe_make T.mk_Up (ok_Up_init T) (hr.mono (by decide)) rfl T.g_Up T.b_Up_init .nil pX (pa_cons (pv 1) (pa_cons (pv 2) pa_nil)))))
      pss_nil)
    (pss_one (ps_ret (pe_make T.mk_Down (ok_Down_init T) (hr.mono (by decide)) rfl T.g_Down T.b_Down_init .nil pX (pa_cons (pv 1) (pa_cons (pv 2) pa_nil))))))), ?_⟩)
  obtain ⟨x0, x1, x2, rfl, h⟩ := h
  rw [show L2.start n__law_made [x0, x1, x2] = [some x0, some x1, some x2] from rfl]
  try dsimp only [cxOf]
  obtain ⟨t, B, L, rfl, rfl, rfl, o, w, k⟩ := h
  cases t with
  | sl l h =>
    dsimp only [Tk.num, Tk.at_, Tk.en, oV]
    wtm_at "go"
    exact mk_sl rfl w o k
  | up l h =>
    dsimp only [Tk.num, Tk.at_, Tk.en, oV]
    wtm_at "go"
    exact mk_up rfl w o k
  | dn l h =>
    dsimp only [Tk.num, Tk.at_, Tk.en, oV]
    wtm_at "go"
    exact mk_dn rfl w o k

def sp__law_text (_ : PySem.W.Frag) (D : Ad) : Sp := Sp3 fun x y z H Q _ => ∃ (t : Tk) (B : Hp) (L : List Cell), x = .int t.num ∧ y = oV t.at_ ∧ z = oV t.en ∧ t.few ∧ W B L H ∧ ∀ (B' H' : Hp), Same B B' → W B' L H' → Q (.str t.words) H'
theorem ok__law_text {D : Ad} (T : Txt K mg D) : FnOk P w K mg base (L2.CX P w) 1 D.a__law_text D.d__law_text ["_law_kind", "_law_at", "_law_end"] (sp__law_text K D) := by
  refine T.F__law_text.okX sc__law_text (fun vs H Q E h => sp3_len h) (fun cdv A outer s H vs Q E hr h => ⟨_, (pss_cons (ps_set (i := 3) sc__law_text.nd rfl (Or.inl rfl) (pe_lst (pa_cons (pe_ix ix_list (pe_lst (pa_cons pe_str (pa_cons pe_str (pa_cons pe_str pa_nil)))) (pv 0) (fun _ _ => rfl)) pa_nil)))
    (pss_cons (ps_for (passes_of rfl) rfl (pi_list (pe_lst (pa_cons (pv 1) (pa_cons (pv 2) pa_nil)))) (pg_name (i := 4) sc__law_text.nd rfl (Or.inl rfl))
      (pss_one (ps_if (pt_cmpR op_isNo (pv 4) pe_non (nomark _))
        (pss_one (ps_expr (pe_bm PySem.F.plainAttrs_list PySem.F.slot_list_append PySem.F.type_list_append mt_append (pv 3) (pa_cons pe_str pa_nil))))
        (pss_one (ps_expr (pe_bm PySem.F.plainAttrs_list PySem.F.slot_list_append PySem.F.type_list_append mt_append (pv 3) (pa_cons (pe_callTy call_strI (by rfl) T.n_str bt_str (pa_cons (pv 4) pa_nil)) pa_nil)))))))
    (pss_one (ps_ret (pe_join pe_str (pv 3)))))), ?_⟩)
  obtain ⟨x0, x1, x2, rfl, h⟩ := h
  rw [show L2.start n__law_text [x0, x1, x2] = [some x0, some x1, some x2, none, none] from rfl]
  try dsimp only [cxOf]
  obtain ⟨t, B, L, rfl, rfl, rfl, hf, w, k⟩ := h
  have sm1 := sml_of hf.1
  have sm2 := sml_of hf.2
  have l1 := sOf_len sm1
  have l2 := sOf_len sm2
  have l0 := kind_len t
  wtm_at "go"
  refine d_lst w (szl (by simp)) fun p B1 H1 hp s1 i1 w => ?_
  wtm_at "go"
  have e1 : atI [V.str "slots", V.str "up", V.str "down"] t.num = some (.str t.kind) := by cases t <;> rfl
  refine r_ixL (SqL.of (w.rd i1)) e1 ?_
  wtm_at "go"
  refine o_lst w (szl (by simp)) fun q H2 hq w => ?_
  wtm_at "go"
  refine d_lst w (szl (by simp)) fun p2 B2 H2 hp2 s2 i2 w => ?_
  wtm_at "go"
  refine r_il (SqL.of (w.rd i2)) ?_
  refine FOR.list (K := K) (xs := [oV t.at_, oV t.en]) (fun i σ H' => (∃ (v4 : Option V), σ = [some (.int t.num), some (oV t.at_), some (oV t.en), some (.ref q), v4]) ∧ W B2 ((q, .lst ((t.kind :: [sOf t.at_, sOf t.en].take i).map V.str)) :: L) H') ⟨⟨none, rfl⟩, w⟩
    (fun i σ H' _ ⟨_, w⟩ => SqL.of (w.rd i2)) ?_ ?_
  · rintro i x σ H3 hi ⟨⟨v4, rfl⟩, w⟩
    obtain ⟨o, rfl, ho, so⟩ : ∃ o : Option Int, x = oV o ∧ [sOf t.at_, sOf t.en].take (i + 1) = [sOf t.at_, sOf t.en].take i ++ [sOf o] ∧ sml o := by
      match i, hi with
      | 0, hi => cases hi; exact ⟨_, rfl, rfl, sm1⟩
      | 1, hi => cases hi; exact ⟨_, rfl, rfl, sm2⟩
      | i + 2, hi => simp at hi
    have hq := w.get (List.mem_cons_self ..)
    have hl : ((t.kind :: [sOf t.at_, sOf t.en].take i).map V.str).length < sizeLine := szlt (by simp only [List.length_map, List.length_cons, List.length_take, List.length_nil]; omega)
    cases o with
    | none =>
      dsimp only [oV]
      wtm_at "go"
      refine r_bmL (SqL.of hq) ?_
      wtm_at "go"
      refine r_append hq hl ?_
      have w := w.put0 (.lst ((t.kind :: [sOf t.at_, sOf t.en].take i).map V.str ++ [.str "-"]))
      refine ⟨⟨_, rfl⟩, ?_⟩
      rw [ho, ← List.cons_append, List.map_append]
      exact w
    | some n =>
      dsimp only [oV]
      wtm_at "go"
      refine r_bmL (SqL.of hq) ?_
      wtm_at "go"
      refine r_strI (so n rfl) ?_
      wtm_at "go"
      refine r_append hq hl ?_
      have w := w.put0 (.lst ((t.kind :: [sOf t.at_, sOf t.en].take i).map V.str ++ [.str (toString n)]))
      refine ⟨⟨_, rfl⟩, ?_⟩
      rw [ho, ← List.cons_append, List.map_append]
      exact w
  · rintro σ H3 ⟨⟨v4, rfl⟩, w⟩
    have hq := w.get (List.mem_cons_self ..)
    have h0 := w.out _ (List.mem_cons_self ..)
    have hq : H3 q = some (.lst ([t.kind, sOf t.at_, sOf t.en].map V.str)) := hq
    wtm_at "go"
    refine ⟨" ", q, [t.kind, sOf t.at_, sOf t.en], rfl, rfl, .inl (SqL.of hq), ?_, ?_⟩
    · have e0 : (" " : Str).length = 1 := by decide
      simp only [List.map_cons, List.map_nil, List.sum_cons, List.sum_nil, List.length_cons, List.length_nil]
      rw [e0]
      omega
    have ew : t.words = Txt.join " " [t.kind, sOf t.at_, sOf t.en] := by rw [join3]; rfl
    rw [← ew]
    exact k _ _ (same_trans s1 (same_trans s2 (same_new h0))) w.give

def sp__law_holds (_ : PySem.W.Frag) (_ : Ad) : Sp := Sp4 fun x y z u H Q _ => ∃ (t : Tk) (n : Nat), x = .int t.num ∧ y = oV t.at_ ∧ z = oV t.en ∧ u = .int n ∧ Q (.bl (t.holds n)) H
theorem ok__law_holds {D : Ad} (T : Txt K mg D) : FnOk P w K mg base (L2.CX P w) 3 D.a__law_holds D.d__law_holds ["_law_kind", "_law_at", "_law_end", "_law_key"] (sp__law_holds K D) := by
  refine T.F__law_holds.okX sc__law_holds (fun vs H Q E h => sp4_len h) (fun cdv A outer s H vs Q E hr h => ⟨_, (pss_cons (ps_if (pt_cmpR op_eq (pv 0) pe_int (nomark _))
      (pss_one (ps_ret (pe_chain op_le op_lt (pv 1) (pe_call (ok_place_of T) (hr.mono (by decide)) rfl T.g_place_of T.F_place_of.kp T.b_place_of .nil pX (pa_cons (pv 3) pa_nil)) (pv 2))))
      pss_nil)
    (pss_cons (ps_if (pt_cmpR op_eq (pv 0) pe_int (nomark _))
      (pss_one (ps_ret (pe_and (pe_cmpR op_le (pv 1) (pv 3) (nomark _)) (pe_one (pe_or (pe_cmpR op_isNo (pv 2) pe_non (nomark _)) (pe_one (pe_cmpR op_lt (pv 3) (pv 2) (nomark _))))))))
      pss_nil)
    (pss_one (ps_ret (pe_and (pe_cmpR op_le (pv 2) (pv 3) (nomark _)) (pe_one (pe_or (pe_cmpR op_isNo (pv 1) pe_non (nomark _)) (pe_one (pe_cmpR op_le (pv 3) (pv 1) (nomark _)))))))))), ?_⟩)
  obtain ⟨x0, x1, x2, x3, rfl, h⟩ := h
  rw [show L2.start n__law_holds [x0, x1, x2, x3] = [some x0, some x1, some x2, some x3] from rfl]
  try dsimp only [cxOf]
  obtain ⟨t, n, rfl, rfl, rfl, rfl, k⟩ := h
  cases t with
  | sl l h =>
    have k : Q (.bl (decide (l ≤ ((r16 n : Nat) : Int)) && decide (((r16 n : Nat) : Int) < h))) H := k
    dsimp only [Tk.num, Tk.at_, Tk.en, oV]
    wtm_at "go"
    wtm_at "br"
    · intro c
      wtm_at "go"
      rw [decide_eq_true c, Bool.true_and] at k
      exact k
    · intro c
      rw [decide_eq_false c, Bool.false_and] at k
      exact k
  | up l h =>
    cases h with
    | none =>
      have k : Q (.bl (decide (l ≤ (n : Int)))) H := k
      dsimp only [Tk.num, Tk.at_, Tk.en, oV]
      wtm_at "go"
      wtm_at "br"
      · intro c
        wtm_at "go"
        rw [decide_eq_true c] at k
        exact k
      · intro c
        rw [decide_eq_false c] at k
        exact k
    | some m =>
      have k : Q (.bl (decide (l ≤ (n : Int)) && decide ((n : Int) < m))) H := k
      dsimp only [Tk.num, Tk.at_, Tk.en, oV]
      wtm_at "go"
      wtm_at "br"
      · intro c
        wtm_at "go"
        rw [decide_eq_true c, Bool.true_and] at k
        exact k
      · intro c
        rw [decide_eq_false c, Bool.false_and] at k
        exact k
  | dn l h =>
    cases l with
    | none =>
      have k : Q (.bl (decide (h ≤ (n : Int)))) H := k
      dsimp only [Tk.num, Tk.at_, Tk.en, oV]
      wtm_at "go"
      wtm_at "br"
      · intro c
        wtm_at "go"
        rw [decide_eq_true c] at k
        exact k
      · intro c
        rw [decide_eq_false c] at k
        exact k
    | some m =>
      have k : Q (.bl (decide (h ≤ (n : Int)) && decide ((n : Int) ≤ m))) H := k
      dsimp only [Tk.num, Tk.at_, Tk.en, oV]
      wtm_at "go"
      wtm_at "br"
      · intro c
        wtm_at "go"
        rw [decide_eq_true c, Bool.true_and] at k
        exact k
      · intro c
        rw [decide_eq_false c, Bool.false_and] at k
        exact k

def sp__law_right (K : PySem.W.Frag) (D : Ad) : Sp := Sp5 fun x1 x2 x3 x4 x5 H Q _ => ∃ (a q : Addr) (t : Tk) (ks : List Int) (B : Hp) (L : List Cell), x1 = .ref a ∧ x2 = .int t.num ∧ x3 = oV t.at_ ∧ x4 = oV t.en ∧ x5 = .ref q ∧ IsTk D B a t ∧ B q = some (.lst (ks.map V.int)) ∧ (∀ n ∈ ks, 0 ≤ n) ∧ W B L H ∧
  ∀ (B' H' : Hp), Same B B' → W B' L H' → Q (.bl true) H'
theorem ok__law_right {D : Ad} (T : Txt K mg D) : FnOk P w K mg base (L2.CX P w) 4 D.a__law_right D.d__law_right ["_law_token", "_law_kind", "_law_at", "_law_end", "_law_keys"] (sp__law_right K D) := by
  refine T.F__law_right.okX sc__law_right (fun vs H Q E h => sp5_len h) (fun cdv A outer s H vs Q E hr h => ⟨_, (pss_cons (ps_set (i := 5) sc__law_right.nd rfl (Or.inl rfl) (pe_lst (pa_cons (pe_callB call_isi (by rfl) T.n_isinstance bt_isinstance (pa_cons (pv 0) (pa_cons (pe_glob (v := .ref D.c_BySlots) rfl T.g_BySlots rfl) pa_nil))) (pa_cons (pe_callB call_isi (by rfl) T.n_isinstance bt_isinstance (pa_cons (pv 0) (pa_cons (pe_glob (v := .ref D.c_Up) rfl T.g_Up rfl) pa_nil))) (pa_cons (pe_callB call_isi (by rfl) T.n_isinstance bt_isinstance (pa_cons (pv 0) (pa_cons (pe_glob (v := .ref D.c_Down) rfl T.g_Down rfl) pa_nil))) pa_nil)))))
    (pss_cons (ps_if (PW.pt (pw_or (pt_cmpR (op_neD hr.units) (pv 5) (pe_lst (pa_cons (pe_cmpR op_eq (pv 1) pe_int (nomark _)) (pa_cons (pe_cmpR op_eq (pv 1) pe_int (nomark _)) (pa_cons (pe_cmpR op_eq (pv 1) pe_int (nomark _)) pa_nil)))) (nomark _)) (pw_or1 (pt_not (pt_val (pe_callB call_isi (by rfl) T.n_isinstance bt_isinstance (pa_cons (pv 0) (pa_cons (pe_glob (v := .ref D.c_Token) rfl T.g_Token rfl) pa_nil))))))))
      (pss_one (ps_ret pe_bl))
      pss_nil)
    (pss_cons (ps_for (passes_of rfl) rfl (pi_list (pe_lst (pa_cons (pe_fld (pv 0) rfl) (pa_cons (pe_fld (pv 0) rfl) pa_nil)))) (pg_name (i := 6) sc__law_right.nd rfl (Or.inl rfl))
      (pss_one (ps_if (PW.pt (pw_and (pt_cmpR op_notNo (pv 6) pe_non (nomark _)) (pw_and1 (PW.pt (pw_or (pt_not (pt_val (pe_callB call_isi (by rfl) T.n_isinstance bt_isinstance (pa_cons (pv 6) (pa_cons (pe_bltn (v := .ty "int") (by rfl) T.n_int bt_int rfl) pa_nil))))) (pw_or1 (pt_val (pe_callB call_isi (by rfl) T.n_isinstance bt_isinstance (pa_cons (pv 6) (pa_cons (pe_bltn (v := .ty "bool") (by rfl) T.n_bool bt_bool rfl) pa_nil))))))))))
        (pss_one (ps_ret pe_bl))
        pss_nil)))
    (pss_cons (ps_if (PW.pt (pw_or (pt_cmpR op_ne (pe_fld (pv 0) rfl) (pv 2) (nomark _)) (pw_or1 (pt_cmpR op_ne (pe_fld (pv 0) rfl) (pv 3) (nomark _)))))
      (pss_one (ps_ret pe_bl))
      pss_nil)
    (pss_cons (ps_for (passes_of rfl) rfl (pi_list (pv 4)) (pg_name (i := 7) sc__law_right.nd rfl (Or.inl rfl))
      (pss_cons (ps_set (i := 8) sc__law_right.nd rfl (Or.inl rfl) (pe_either (pe_meth (pv 0) T.cl_BySlots T.me_BySlots_holds (ok_BySlots_holds T) (hr.mono (by decide)) T.b_BySlots_holds .nil pX (pa_cons (pv 7) pa_nil)) (pe_either (pe_meth (pv 0) T.cl_Down T.me_Down_holds (ok_Down_holds T) (hr.mono (by decide)) T.b_Down_holds .nil pX (pa_cons (pv 7) pa_nil)) (pe_meth (pv 0) T.cl_Up T.me_Up_holds (ok_Up_holds T) (hr.mono (by decide)) T.b_Up_holds .nil pX (pa_cons (pv 7) pa_nil)))))
      (pss_one (ps_if (PW.pt (pw_or (pt_not (pt_val (pe_callB call_isi (by rfl) T.n_isinstance bt_isinstance (pa_cons (pv 8) (pa_cons (pe_bltn (v := .ty "bool") (by rfl) T.n_bool bt_bool rfl) pa_nil))))) (pw_or1 (pt_cmpR op_ne (pv 8) (pe_call (ok__law_holds T) (hr.mono (by decide)) rfl T.g__law_holds T.F__law_holds.kp T.b__law_holds .nil pX (pa_cons (pv 1) (pa_cons (pv 2) (pa_cons (pv 3) (pa_cons (pv 7) pa_nil))))) (nomark _)))))
        (pss_one (ps_ret pe_bl))
        pss_nil))))
    (pss_one (ps_ret pe_bl))))))), ?_⟩)
  obtain ⟨x0, x1, x2, x3, x4, rfl, h⟩ := h
  rw [show L2.start n__law_right [x0, x1, x2, x3, x4] = [some x0, some x1, some x2, some x3, some x4, none, none, none, none] from rfl]
  try dsimp only [cxOf]
  obtain ⟨a, q, t, ks, B, L, rfl, rfl, rfl, rfl, rfl, ia, iq, hks, w, k⟩ := h
  obtain ⟨dx, ha⟩ := ia
  have hc : Cls K (t.cls D) ∧ NoAttr K (t.cls D) "at" ∧ NoAttr K (t.cls D) "end" := by
    cases t with
    | sl l h => exact ⟨T.cl_BySlots, T.na_BySlots_at, T.na_BySlots_end⟩
    | up l h => exact ⟨T.cl_Up, T.na_Up_at, T.na_Up_end⟩
    | dn l h => exact ⟨T.cl_Down, T.na_Down_at, T.na_Down_end⟩
  have hic : IC K (t.cls D) ∧ PySem.W.subIn K (.ref (t.cls D)) (.ref D.c_Token) = some true ∧ PySem.W.subIn K (.ref (t.cls D)) (.ref D.c_BySlots) = some (decide (t.num = 0)) ∧ PySem.W.subIn K (.ref (t.cls D)) (.ref D.c_Up) = some (decide (t.num = 1)) ∧ PySem.W.subIn K (.ref (t.cls D)) (.ref D.c_Down) = some (decide (t.num = 2)) := by
    cases t with
    | sl l h => exact ⟨T.ic_BySlots, T.sb_BySlots_Token, T.sb_BySlots_BySlots, T.sb_BySlots_Up, T.sb_BySlots_Down⟩
    | up l h => exact ⟨T.ic_Up, T.sb_Up_Token, T.sb_Up_BySlots, T.sb_Up_Up, T.sb_Up_Down⟩
    | dn l h => exact ⟨T.ic_Down, T.sb_Down_Token, T.sb_Down_BySlots, T.sb_Down_Up, T.sb_Down_Down⟩
  obtain ⟨h1, h2, h3, h4, h5⟩ := hic
  wtm_at "go"
  refine r_isiO (w.rd ha) h1 T.ic_BySlots h3 ?_
  wtm_at "go"
  refine r_isiO (w.rd ha) h1 T.ic_Up h4 ?_
  wtm_at "go"
  refine r_isiO (w.rd ha) h1 T.ic_Down h5 ?_
  wtm_at "go"
  refine d_lst w (szl (by simp)) fun p1 B1 H1 hp1 s1 i1 w => ?_
  wtm_at "go"
  refine d_lst w (szl (by simp)) fun p2 B2 H2 hp2 s2 i2 w => ?_
  wtm_at "go"
  refine r_ne3B (SqL.of (w.rd (s2 _ _ i1))) (SqL.of (w.rd i2)) ?_
  have s12 := same_trans s1 s2
  have ha := s12 _ _ ha
  wtm_at "go"
  refine r_isiO (w.rd ha) h1 T.ic_Token h2 ?_
  wtm_at "go"
  refine r_fld (w.rd ha) hc.1 hc.2.1 rfl ?_
  wtm_at "go"
  refine r_fld (w.rd ha) hc.1 hc.2.2 rfl ?_
  wtm_at "go"
  refine d_lst w (szl (by simp)) fun p3 B3 H3 hp3 s3 i3 w => ?_
  have ha := s3 _ _ ha
  have iq := s3 _ _ (s12 _ _ iq)
  wtm_at "go"
  refine r_il (SqL.of (w.rd i3)) ?_
  refine FOR.list (K := K) (xs := [oV t.at_, oV t.en]) (fun i σ H' => (∃ (v : Option V), σ = [some (.ref a), some (.int t.num), some (oV t.at_), some (oV t.en), some (.ref q), some (.ref p1), v, none, none]) ∧ W B3 L H') ⟨⟨none, rfl⟩, w⟩
    (fun i σ H' _ ⟨_, w⟩ => SqL.of (w.rd i3)) ?_ ?_
  · rintro i x σ H4 hi ⟨⟨v, rfl⟩, w⟩
    obtain ⟨o, rfl⟩ : ∃ o : Option Int, x = oV o := by
      match i, hi with
      | 0, hi => cases hi; exact ⟨_, rfl⟩
      | 1, hi => cases hi; exact ⟨_, rfl⟩
      | i + 2, hi => simp at hi
    cases o with
    | none =>
      dsimp only [oV]
      wtm_at "go"
      exact ⟨⟨_, rfl⟩, w⟩
    | some n =>
      dsimp only [oV]
      wtm_at "go"
      exact ⟨⟨_, rfl⟩, w⟩
  · rintro σ H4 ⟨⟨v, rfl⟩, w⟩
    wtm_at "go"
    refine r_fld (w.rd ha) hc.1 hc.2.1 rfl ?_
    wtm_at "go"
    refine r_neO ?_
    wtm_at "go"
    refine r_fld (w.rd ha) hc.1 hc.2.2 rfl ?_
    wtm_at "go"
    refine r_neO ?_
    wtm_at "go"
    refine r_il (SqL.of (w.rd iq)) ?_
    refine FOR.list (K := K) (xs := ks.map V.int) (fun i σ H' => (∃ (u1 u2 u3 : Option V), σ = [some (.ref a), some (.int t.num), some (oV t.at_), some (oV t.en), some (.ref q), some (.ref p1), u1, u2, u3]) ∧ W B3 L H') ⟨⟨_, none, none, rfl⟩, w⟩
      (fun i σ H' _ ⟨_, w⟩ => SqL.of (w.rd iq)) ?_ ?_
    · rintro i x σ H5 hi ⟨⟨u1, u2, u3, rfl⟩, w⟩
      obtain ⟨n0, rfl, hn, _⟩ := getV hi
      obtain ⟨n, rfl⟩ : ∃ n : Nat, n0 = n := ⟨_, (Int.toNat_of_nonneg (hks n0 (List.mem_of_getElem? hn))).symm⟩
      have ia : IsTk D H5 a t := ⟨dx, w.rd ha⟩
      wtm_at "go"
      cases t with
      | sl l h =>
        refine .inl ?_
        wtm_at "go"
        refine r_meth (w.rd ha) rfl ?_
        wtm_at "go"
        refine ⟨_, _, rfl, a, l, h, n, rfl, rfl, ia, ?_⟩
        wtm_at "go"
        refine ⟨_, _, _, _, rfl, .sl l h, n, rfl, rfl, rfl, rfl, ?_⟩
        refine r_neBs ?_
        wtm_at "go"
        exact ⟨⟨_, _, _, rfl⟩, w⟩
      | up l h =>
        refine .inr (.inr ?_)
        wtm_at "go"
        refine r_meth (w.rd ha) rfl ?_
        wtm_at "go"
        refine ⟨_, _, rfl, a, l, h, n, rfl, rfl, ia, ?_⟩
        wtm_at "go"
        refine ⟨_, _, _, _, rfl, .up l h, n, rfl, rfl, rfl, rfl, ?_⟩
        refine r_neBs ?_
        wtm_at "go"
        exact ⟨⟨_, _, _, rfl⟩, w⟩
      | dn l h =>
        refine .inr (.inl ?_)
        wtm_at "go"
        refine r_meth (w.rd ha) rfl ?_
        wtm_at "go"
        refine ⟨_, _, rfl, a, l, h, n, rfl, rfl, ia, ?_⟩
        wtm_at "go"
        refine ⟨_, _, _, _, rfl, .dn l h, n, rfl, rfl, rfl, rfl, ?_⟩
        refine r_neBs ?_
        wtm_at "go"
        exact ⟨⟨_, _, _, rfl⟩, w⟩
    · rintro σ H5 ⟨⟨u1, u2, u3, rfl⟩, w⟩
      wtm_at "go"
      exact k _ _ (same_trans s12 s3) w

theorem wOf_sOf {o : Option Int} (h : ∀ n, o = some n → 0 ≤ n ∧ n ≤ 4 * 10 ^ (39 : Int).toNat) : wOf (sOf o) = some o ∧ (sOf o).length ≤ 61 ∧ 32 ∉ sg (sOf o) := by
  cases o with
  | none => exact ⟨by unfold wOf; exact if_pos rfl, by decide, by decide +kernel⟩
  | some n =>
    obtain ⟨h0, h1⟩ := h n rfl
    have hb : (4 : Int) * 10 ^ (39 : Int).toNat < 10 ^ 60 := by decide
    obtain ⟨m, rfl⟩ := Int.eq_ofNat_of_zero_le h0
    have hm : m < 10 ^ 60 := ten_nat (Int.lt_of_le_of_lt h1 hb)
    have hl : (nt (m : Int)).length ≤ 61 := nt_len (by decide) hm
    have hne : ¬ nt (m : Int) = "-" := fun e => by
      have e2 := congrArg sg e
      rw [sg_nat] at e2
      have := digs_to m 45 (by rw [e2]; decide +kernel)
      omega
    refine ⟨?_, hl, nt_blank _⟩
    show wOf (nt (m : Int)) = _
    unfold wOf
    rw [if_neg hne, if_pos (nt_num (n := (m : Int)) hm), nt_reads (by omega)]
    rfl
theorem tkOf_made {t : Tk} (o : t.ok) (f : t.few) : tkOf t.kind (sOf t.at_) (sOf t.en) = some t := by
  unfold tkOf
  rw [(wOf_sOf f.1).1, (wOf_sOf f.2).1]
  dsimp only
  rw [tkMade_words]
  dsimp only
  rw [if_pos o]
theorem kind_blank (t : Tk) : 32 ∉ sg t.kind := by
  cases t with
  | sl l h => exact (by decide +kernel : 32 ∉ sg "slots")
  | up l h => exact (by decide +kernel : 32 ∉ sg "up")
  | dn l h => exact (by decide +kernel : 32 ∉ sg "down")
theorem words_split {t : Tk} (f : t.few) : Txt.split t.words " " = [t.kind, sOf t.at_, sOf t.en] := split3 (kind_blank t) (wOf_sOf f.1).2.2 (wOf_sOf f.2).2.2
theorem ok_law {D : Ad} (T : Txt K mg D) : FnOk P w K mg base (L2.CX P w) 8 D.a_law D.d_law ["_law_script"] (sp_law K D) := by
  refine T.F_law.okX sc_law (fun vs H Q E h => sp1_len h) (fun cdv A outer s H vs Q E hr h => ⟨_, (pss_cons (ps_set (i := 1) sc_law.nd rfl (Or.inl rfl) (pe_op op_mod (pe_call (ok__law_cell_at T) (hr.mono (by decide)) rfl T.g__law_cell_at T.F__law_cell_at.kp T.b__law_cell_at .nil pX (pa_cons (pv 0) (pa_cons pe_int pa_nil))) pe_int))
    (pss_cons (ps_asg (pe_call (ok__law_numbers T) (hr.mono (by decide)) rfl T.g__law_numbers T.F__law_numbers.kp T.b__law_numbers .nil pX (pa_cons (pv 0) (pa_cons (pv 1) pa_nil))) (pg_tup (by rfl) (pgs_cons (pg_name (i := 2) sc_law.nd rfl (Or.inl rfl)) (pgs_cons (pg_name (i := 3) sc_law.nd rfl (Or.inl rfl)) pgs_nil))))
    (pss_cons (ps_if (PW.pt (pw_and (pt_cmpR op_eq (pe_op op_mod (pe_op op_fdiv (pe_call (ok__law_cell_at T) (hr.mono (by decide)) rfl T.g__law_cell_at T.F__law_cell_at.kp T.b__law_cell_at .nil pX (pa_cons (pv 0) (pa_cons pe_int pa_nil))) pe_int) pe_int) pe_int (nomark _)) (pw_and1 (pt_cmpR op_eq (pv 1) pe_int (nomark _)))))
      (pss_one (ps_set (i := 3) sc_law.nd rfl (Or.inl rfl) pe_non))
      pss_nil)
    (pss_cons (ps_if (PW.pt (pw_and (pt_cmpR op_eq (pe_op op_mod (pe_op op_fdiv (pe_call (ok__law_cell_at T) (hr.mono (by decide)) rfl T.g__law_cell_at T.F__law_cell_at.kp T.b__law_cell_at .nil pX (pa_cons (pv 0) (pa_cons pe_int pa_nil))) pe_int) pe_int) pe_int (nomark _)) (pw_and1 (pt_cmpR op_eq (pv 1) pe_int (nomark _)))))
      (pss_one (ps_set (i := 2) sc_law.nd rfl (Or.inl rfl) pe_non))
      pss_nil)
    (pss_cons (ps_setLc (i := 4) (own := [("_law_cell", 9)]) (g := gName 9) rfl sc_law.nd rfl rfl (sw_true rfl rfl rfl (by decide +kernel)) (pi_list (pe_slice sl_list (pv 0) (po_some pe_int) (po_some pe_int))) (blkOk_by (own := [("_law_cell", 9)]) (N := n_law) (sc := defScope s_law) (by decide +kernel)) (fun _ _ _ _ _ => (pg_name (i := 9) sc_law.nd rfl (Or.inl rfl))) (fun _ _ _ _ _ => pts_nil) (fun _ _ _ _ _ => (pe_call (sp := sp__law_number K D) (ok__law_number T) (hr.mono (by decide)) rfl T.g__law_number T.F__law_number.kp T.b__law_number .nil passF (pa_cons (pv 9) pa_nil))))
    (pss_cons (ps_for (passes_of rfl) rfl (pi_list (pe_lst (pa_cons (pv 2) (pa_cons (pv 3) pa_nil)))) (pg_name (i := 5) sc_law.nd rfl (Or.inl rfl))
      (pss_one (ps_if (pt_cmpR op_notNo (pv 5) pe_non (nomark _))
        (pss_one (ps_set (i := 4) sc_law.nd rfl (Or.inl rfl) (pe_op op_cat (pv 4) (pe_lst (pa_cons (pv 5) (pa_cons (pe_op op_add (pv 5) pe_int) (pa_cons (pe_callB (call_max2 rfl) (by rfl) T.n_max bt_max (pa_cons pe_int (pa_cons (pe_op op_sub (pv 5) pe_int) pa_nil))) pa_nil)))))))
        pss_nil)))
    (pss_cons (ps_set (i := 6) sc_law.nd rfl (Or.inl rfl) (pe_call (ok__law_text T) (hr.mono (by decide)) rfl T.g__law_text T.F__law_text.kp T.b__law_text .nil pX (pa_cons (pv 1) (pa_cons (pv 2) (pa_cons (pv 3) pa_nil)))))
    (pss_cons (ps_set (i := 7) sc_law.nd rfl (Or.inl rfl) (pe_call (ok__law_made T) (hr.mono (by decide)) rfl T.g__law_made T.F__law_made.kp T.b__law_made .nil pX (pa_cons (pv 1) (pa_cons (pv 2) (pa_cons (pv 3) pa_nil)))))
    (pss_cons (ps_for (passes_of rfl) rfl (pi_range1 (by rfl) T.n_range (pa_cons pe_int pa_nil)) (pg_name (i := 8) sc_law.nd rfl (Or.inl rfl))
      (pss_cons (ps_if (PW.pt (pw_or (pt_cmpR op_ne (pe_either (pe_meth0 (pv 7) T.cl_BySlots T.me_BySlots_words (ok_Token_words T) (hr.mono (by decide)) T.b_Token_words .nil pX) (pe_either (pe_meth0 (pv 7) T.cl_Down T.me_Down_words (ok_Token_words T) (hr.mono (by decide)) T.b_Token_words .nil pX) (pe_meth0 (pv 7) T.cl_Up T.me_Up_words (ok_Token_words T) (hr.mono (by decide)) T.b_Token_words .nil pX))) (pv 6) (nomark _)) (pw_or1 (pt_not (pt_val (pe_call (ok__law_right T) (hr.mono (by decide)) rfl T.g__law_right T.F__law_right.kp T.b__law_right .nil pX (pa_cons (pv 7) (pa_cons (pv 1) (pa_cons (pv 2) (pa_cons (pv 3) (pa_cons (pv 4) pa_nil)))))))))))
        (pss_one (ps_ret pe_bl))
        pss_nil)
      (pss_one (ps_set (i := 7) sc_law.nd rfl (Or.inl rfl) (pe_call (ok_read_token T) (hr.mono (by decide)) rfl T.g_read_token T.F_read_token.kp T.b_read_token .nil pX (pa_cons (pv 6) pa_nil))))))
    (pss_one (ps_ret (pe_and (pe_cmpR op_eq (pe_either (pe_meth0 (pv 7) T.cl_BySlots T.me_BySlots_words (ok_Token_words T) (hr.mono (by decide)) T.b_Token_words .nil pX) (pe_either (pe_meth0 (pv 7) T.cl_Down T.me_Down_words (ok_Token_words T) (hr.mono (by decide)) T.b_Token_words .nil pX) (pe_meth0 (pv 7) T.cl_Up T.me_Up_words (ok_Token_words T) (hr.mono (by decide)) T.b_Token_words .nil pX))) (pv 6) (nomark _)) (pe_one (pe_call (ok__law_right T) (hr.mono (by decide)) rfl T.g__law_right T.F__law_right.kp T.b__law_right .nil pX (pa_cons (pv 7) (pa_cons (pv 1) (pa_cons (pv 2) (pa_cons (pv 3) (pa_cons (pv 4) pa_nil))))))))))))))))))), ?_⟩)
  obtain ⟨x0, rfl, h⟩ := h
  rw [show L2.start n_law [x0] = [some x0, none, none, none, none, none, none, none, none, none] from rfl]
  try dsimp only [cxOf]
  obtain ⟨a, ns, rfl, hS, hlen, k⟩ := h
  obtain ⟨B0, hS, w⟩ := W.law hS
  generalize hc0 : ns.getD 0 0 = c0
  wtm_at "g0"
  rw [hc0]
  wtm_at "g0"
  generalize hkd : c0 % 3 = kd
  have hk3 : kd = 0 ∨ kd = 1 ∨ kd = 2 := by omega
  refine ⟨_, _, rfl, a, ns, kd, B0, [], rfl, rfl, hk3, hS, w, fun p t B1 H1 l h el eh en ok few s1 ip w => ?_⟩
  have hS := Z.Same.sq s1 hS
  unfold TkP at ip
  rw [el, eh] at ip
  have J1 : ∀ {p : Prop} [Decidable p] {A C : Prop}, (p → A) → (¬ p → C) → Br (decide p) A C := fun h1 h2 => br h1 h2
  wtm_at "g0"
  refine g_ifJ (fun σ H' => ∃ t' : Tk, t'.ok ∧ t'.few ∧ t'.num = kd ∧ (kd = 2 → t' = t) ∧ σ = [some (.ref a), some (.int kd), some (oV t'.at_), some (oV t'.en), none, none, none, none, none, none] ∧ H' = H1) ?_ ?_
  rotate_left
  · intro N hN
    wtm_at "g0"
    rw [hc0]
    have keep : N [some (.ref a), some (.int kd), some (oV (some l)), some (oV (some h)), none, none, none, none, none, none] H1 := hN _ _ ⟨t, ok, few, en, fun _ => rfl, by rw [el, eh], rfl⟩
    by_cases c : c0 / 3 % 2 = 1
    · by_cases c1 : kd = 1
      · subst c1
        wtm_at "go"
        cases t with
        | sl l h => cases en
        | dn l h => cases en
        | up l' h' =>
          cases el
          exact hN _ _ ⟨.up l none, ⟨ok.1, nofun⟩, ⟨few.1, nofun⟩, rfl, nofun, rfl, rfl⟩
      · wtm_at "go"
        exact keep
    · wtm_at "go"
      exact keep
  rintro σ H3 ⟨t1, ok1, few1, en1, ht1, rfl, rfl⟩
  wtm_at "g0"
  refine g_ifJ (fun σ H' => ∃ t' : Tk, t'.ok ∧ t'.few ∧ t'.num = kd ∧ σ = [some (.ref a), some (.int kd), some (oV t'.at_), some (oV t'.en), none, none, none, none, none, none] ∧ H' = H3) ?_ ?_
  rotate_left
  · intro N hN
    wtm_at "g0"
    rw [hc0]
    have keep : N [some (.ref a), some (.int kd), some (oV t1.at_), some (oV t1.en), none, none, none, none, none, none] H3 := hN _ _ ⟨t1, ok1, few1, en1, rfl, rfl⟩
    by_cases c : c0 / 3 % 2 = 1
    · by_cases c1 : kd = 2
      · subst c1
        wtm_at "go"
        cases t1 with
        | sl l h => cases en1
        | up l h => cases en1
        | dn l' h' => exact hN _ _ ⟨.dn none h', ⟨ok1.1, nofun⟩, ⟨nofun, few1.2⟩, rfl, rfl, rfl⟩
      · wtm_at "go"
        exact keep
    · wtm_at "go"
      exact keep
  clear ok few en el eh ip ht1
  rintro σ H' ⟨t2, ok, few, rfl, rfl, rfl⟩
  wtm_at "go"
  refine d_slL w (w.sq hS) fun pc B2 H2 hp2 s2 i2 w => ?_
  rw [cutV_int] at i2
  have hcl : (cutI ns (some 3) (some 7)).length ≤ 63 := Nat.le_trans (cutI_len ..) hlen
  generalize cutI ns (some 3) (some 7) = cs at i2 hcl
  wtm_at "go"
  refine r_il (SqL.of (w.rd i2)) ?_
  intro D1 hD1
  refine LC.list (K := K) w hD1 (SqL.of i2) (szlt (by rw [List.length_map]; omega)) (fun i B acc => ∃ ks : List Int, acc = ks.map V.int ∧ ks.length = i ∧ ∀ n ∈ ks, 0 ≤ n) ⟨[], rfl, rfl, by simp⟩ ?_ ?_
  · rintro i x B3 acc H3 Nx hi s3 w ⟨ks, rfl, hkl, hks⟩ hl1 hl2 hN
    obtain ⟨n0, rfl, hn, _⟩ := getV hi
    wtm_at "go"
    refine ⟨rfl, ?_⟩
    wtm_at "go"
    refine ⟨_, rfl, n0, B3, _, rfl, w, fun m B4 H4 hm s4 w => ?_⟩
    refine r_acc w hl2 fun H5 w5 => ?_
    refine hN _ _ _ s4 w5 ⟨ks ++ [(m : Int)], by simp, by simp; omega, ?_⟩ (by simp at hl1 ⊢; omega)
    intro n hn
    rcases List.mem_append.mp hn with hn | hn
    · exact hks n hn
    · have : n = m := by simpa using hn
      omega
  rintro B3 B4 acc H4 s4 _ i4 w ⟨ks, rfl, hkl, hks⟩ hl1
  have hkl : ks.length ≤ 63 := by rw [hkl, List.length_map]; exact hcl
  wtm_at "go"
  refine d_lst w (szl (by simp)) fun p5 B5 H5 hp5 s5 i5 w => ?_
  have i4 := s5 _ _ i4
  wtm_at "go"
  refine r_il (SqL.of (w.rd i5)) ?_
  refine FOR.list (K := K) (xs := [oV t2.at_, oV t2.en]) (fun i σ H' => ∃ (v : Option V) (q : Addr) (ks : List Int) (B : Hp), σ = [some (.ref a), some (.int t2.num), some (oV t2.at_), some (oV t2.en), some (.ref q), v, none, none, none, none] ∧ Same B5 B ∧ B q = some (.lst (ks.map V.int)) ∧ ks.length ≤ 63 + 3 * i ∧ (∀ n ∈ ks, 0 ≤ n) ∧ W B [] H') ⟨none, D1, ks, B5, rfl, same_refl _, i4, by omega, hks, w⟩
    (fun i σ H' _ ⟨_, _, _, _, _, s, _, _, _, w⟩ => SqL.of (w.rd (s _ _ i5))) ?_ ?_
  · rintro i x σ H6 hi ⟨v, q, ks, B6, rfl, s6, iq, hkl, hks, w⟩
    obtain ⟨o, rfl, ho⟩ : ∃ o : Option Int, x = oV o ∧ ∀ n, o = some n → 0 ≤ n := by
      match i, hi with
      | 0, hi => cases hi; exact ⟨_, rfl, fun n e => (few.1 n e).1⟩
      | 1, hi => cases hi; exact ⟨_, rfl, fun n e => (few.2 n e).1⟩
      | i + 2, hi => simp at hi
    have hi2 : i < 2 := by
      have := List.getElem?_eq_some_iff.mp hi
      obtain ⟨h, _⟩ := this
      exact h
    cases o with
    | none =>
      dsimp only [oV]
      wtm_at "go"
      exact ⟨_, q, ks, B6, rfl, s6, iq, by omega, hks, w⟩
    | some n =>
      have h0 := ho n rfl
      dsimp only [oV]
      wtm_at "go"
      refine ⟨_, _, rfl, ?_⟩
      generalize hm : (if n - 1 > 0 then n - 1 else 0) = m
      have hm0 : 0 ≤ m := by rw [← hm]; split <;> omega
      wtm_at "go"
      refine d_lst w (szl (by simp)) fun p7 B7 H7 hp7 s7 i7 w => ?_
      wtm_at "go"
      refine d_cat w (w.rd (s7 _ _ iq)) (w.rd i7) (szl (by simp; omega)) fun p8 B8 H8 hp8 s8 i8 w => ?_
      wtm_at "go"
      refine ⟨_, p8, ks ++ [n, n + 1, m], B8, rfl, same_trans s6 (same_trans s7 s8), by rw [i8]; simp, by simp; omega, ?_, w⟩
      intro x hx
      rcases List.mem_append.mp hx with hx | hx
      · exact hks x hx
      · have : x = n ∨ x = n + 1 ∨ x = m := by simpa using hx
        omega
  rintro σ H6 ⟨v, q, ks, B6, rfl, s6, iq, hkl, hks, w⟩
  have sm1 := sml_of few.1
  have sm2 := sml_of few.2
  have w1 := wOf_sOf few.1
  have w2 := wOf_sOf few.2
  have hwl : t2.words.length ≤ 700 := by
    have := kind_len t2
    have e1 : (" " : Str).length = 1 := by decide
    unfold Tk.words
    rw [app_len, app_len, app_len, app_len, e1]
    omega
  have ask : ∀ {B H : Hp} {b : Addr} {σ : L2.St} {Q' : VK}, (W B [] H) → IsTk D B b t2 → σ[7]? = some (some (.ref b)) → Q' (.str t2.words) H → (fun σ H Q => tMeth D.c_BySlots "words" (sp_Token_words K D) [] E (tVar 7) tNil σ H Q ∨ tMeth D.c_Down "words" (sp_Token_words K D) [] E (tVar 7) tNil σ H Q ∨ tMeth D.c_Up "words" (sp_Token_words K D) [] E (tVar 7) tNil σ H Q) σ H Q' := by
    intro B H b σ Q' w ib hs hq
    obtain ⟨dx, hb⟩ := ib
    cases t2 with
    | sl l h => exact .inl ⟨_, hs, b, dx, _, rfl, w.rd hb, rfl, _, rfl, b, .sl l h, rfl, ⟨dx, w.rd hb⟩, trivial, sm1, sm2, hq⟩
    | up l h => exact .inr (.inr ⟨_, hs, b, dx, _, rfl, w.rd hb, rfl, _, rfl, b, .up l h, rfl, ⟨dx, w.rd hb⟩, trivial, sm1, sm2, hq⟩)
    | dn l h => exact .inr (.inl ⟨_, hs, b, dx, _, rfl, w.rd hb, rfl, _, rfl, b, .dn l h, rfl, ⟨dx, w.rd hb⟩, trivial, sm1, sm2, hq⟩)
  wtm_at "go"
  refine ⟨_, _, _, rfl, t2, B6, [], rfl, rfl, rfl, few, w, fun B7 H7 s7 w => ?_⟩
  wtm_at "go"
  refine ⟨_, _, _, rfl, t2, B7, [], rfl, rfl, rfl, ok, w, fun b B8 H8 s8 ib w => ?_⟩
  have iq := s8 _ _ (s7 _ _ iq)
  wtm_at "go"
  refine FOR.range (fun i σ H' => ∃ (v8 : Option V) (b : Addr) (B : Hp), σ = [some (.ref a), some (.int t2.num), some (oV t2.at_), some (oV t2.en), some (.ref q), v, some (.str t2.words), some (.ref b), v8, none] ∧ Same B8 B ∧ IsTk D B b t2 ∧ W B [] H') ⟨none, b, B8, rfl, same_refl _, ib, w⟩ ?_ ?_
  · rintro i σ H9 hi ⟨v8, b, B9, rfl, s9, ib, w⟩
    wtm_at "go"
    refine ask w ib rfl ?_
    wtm_at "go"
    refine ⟨_, _, _, _, _, rfl, b, q, t2, ks, B9, [], rfl, rfl, rfl, rfl, rfl, ib, s9 _ _ iq, hks, w, fun B10 H10 s10 w => ?_⟩
    wtm_at "go"
    refine ⟨_, rfl, B10, [], w, .inl ⟨t2.words, t2.kind, sOf t2.at_, sOf t2.en, t2, rfl, hwl, words_split few, by omega, by omega, tkOf_made ok few, fun b' B11 H11 s11 ib w => ?_⟩⟩
    wtm_at "go"
    exact ⟨_, b', B11, rfl, same_trans s9 (same_trans s10 s11), ib, w⟩
  · rintro σ H9 ⟨v8, b, B9, rfl, s9, ib, w⟩
    wtm_at "go"
    refine ask w ib rfl ?_
    wtm_at "go"
    refine ⟨_, _, _, _, _, rfl, b, q, t2, ks, B9, [], rfl, rfl, rfl, rfl, rfl, ib, s9 _ _ iq, hks, w, fun B10 H10 s10 w => ?_⟩
    exact k _


end
theorem all_mk {l : PySem.W.OpenLaw} {w : World} {K : PySem.W.Frag} {h : Heap} {mg : Str → Option Value} {fa f1 f2 f3 f4 f5 f6 f7 f8 f9 f10 f11 f12 f13 f14 f15 f16 f17 f18 f19 f20 f21 f22 f23 f24 f25 f26 f27 f28 f29 f30 f31 C_NoToken C_NoText C_Token C_BySlots C_Up C_Down : Addr} (X : K.In h) (G : h.Ns mainGlobals mg) (hfa : mg "law" = some (.ref fa))
    {od1 an1 od2 an2 od3 an3 od4 an4 od5 an5 od6 an6 od7 an7 od8 an8 od9 an9 od10 an10 od11 an11 od12 an12 od13 an13 od14 an14 od15 an15 od16 an16 od17 an17 od18 an18 od19 an19 od20 an20 od21 an21 od22 an22 od23 an23 od24 an24 od25 an25 od26 an26 od27 an27 od28 an28 od29 an29 od30 an30 od31 an31 : Option Addr} {sl1 sl2 sl3 sl4 sl5 sl6 sl7 sl8 sl9 sl10 sl11 sl12 sl13 sl14 sl15 sl16 sl17 sl18 sl19 sl20 sl21 sl22 sl23 sl24 sl25 sl26 sl27 sl28 sl29 sl30 sl31 : Array (Option Value)} {oc1 kV1 dc1 pm1 cd1 ct1 oc2 kV2 dc2 pm2 cd2 ct2 oc3 kV3 dc3 pm3 cd3 ct3 oc4 kV4 dc4 pm4 cd4 ct4 oc5 kV5 dc5 pm5 cd5 ct5 oc6 kV6 dc6 pm6 cd6 ct6 oc7 kV7 dc7 pm7 cd7 ct7 oc8 kV8 dc8 pm8 cd8 ct8 oc9 kV9 dc9 pm9 cd9 ct9 oc10 kV10 dc10 pm10 cd10 ct10 oc11 kV11 dc11 pm11 cd11 ct11 oc12 kV12 dc12 pm12 cd12 ct12 oc13 kV13 dc13 pm13 cd13 ct13 oc14 kV14 dc14 pm14 cd14 ct14 oc15 kV15 dc15 pm15 cd15 ct15 oc16 kV16 dc16 pm16 cd16 ct16 oc17 kV17 dc17 pm17 cd17 ct17 oc18 kV18 dc18 pm18 cd18 ct18 oc19 kV19 dc19 pm19 cd19 ct19 oc20 kV20 dc20 pm20 cd20 ct20 oc21 kV21 dc21 pm21 cd21 ct21 oc22 kV22 dc22 pm22 cd22 ct22 oc23 kV23 dc23 pm23 cd23 ct23 oc24 kV24 dc24 pm24 cd24 ct24 oc25 kV25 dc25 pm25 cd25 ct25 oc26 kV26 dc26 pm26 cd26 ct26 oc27 kV27 dc27 pm27 cd27 ct27 oc28 kV28 dc28 pm28 cd28 ct28 oc29 kV29 dc29 pm29 cd29 ct29 oc30 kV30 dc30 pm30 cd30 ct30 oc31 kV31 dc31 pm31 cd31 ct31 : Value} {tk_BITS tk_PLACES tk_FIGURES tk_MOST_FIGURES : Tok}
    {T11 : Addr} {ocT11 : Value} {odT11 : Option Addr} {nT11 : Nat} {slT11 : Array (Option Value)} {tk11_0 tk11_1 : Tok}
    {T13 : Addr} {ocT13 : Value} {odT13 : Option Addr} {nT13 : Nat} {slT13 : Array (Option Value)} {tk13_1 : Tok}
    {T14 : Addr} {ocT14 : Value} {odT14 : Option Addr} {nT14 : Nat} {slT14 : Array (Option Value)} {tk14_0 : Tok}
    (a1 : PySem.W.findIn K (.ref C_BySlots) "kind_word" = some (some (.ref f1)))
    (i1 : PySem.W.isFn K (.ref f1) = true)
    (l1 : K.lookup f1 = some ⟨oc1, od1, .func (PySem.W.fnOf "kind_word" "BySlots.kind_word" (defArgs s_BySlots_kind_word) (defBody s_BySlots_kind_word) (defScope s_BySlots_kind_word) .none kV1 dc1 pm1 an1 cd1 ct1), sl1⟩)
    (c1 : PySem.W.codeIn K cd1 "BySlots.kind_word" = true)
    (k1 : PySem.W.keepIn K (.ref f1) = true)
    (a2 : PySem.W.findIn K (.ref C_Down) "kind_word" = some (some (.ref f2)))
    (i2 : PySem.W.isFn K (.ref f2) = true)
    (l2 : K.lookup f2 = some ⟨oc2, od2, .func (PySem.W.fnOf "kind_word" "Down.kind_word" (defArgs s_Down_kind_word) (defBody s_Down_kind_word) (defScope s_Down_kind_word) .none kV2 dc2 pm2 an2 cd2 ct2), sl2⟩)
    (c2 : PySem.W.codeIn K cd2 "Down.kind_word" = true)
    (k2 : PySem.W.keepIn K (.ref f2) = true)
    (a3 : PySem.W.findIn K (.ref C_Up) "kind_word" = some (some (.ref f3)))
    (i3 : PySem.W.isFn K (.ref f3) = true)
    (l3 : K.lookup f3 = some ⟨oc3, od3, .func (PySem.W.fnOf "kind_word" "Up.kind_word" (defArgs s_Up_kind_word) (defBody s_Up_kind_word) (defScope s_Up_kind_word) .none kV3 dc3 pm3 an3 cd3 ct3), sl3⟩)
    (c3 : PySem.W.codeIn K cd3 "Up.kind_word" = true)
    (k3 : PySem.W.keepIn K (.ref f3) = true)
    (a4 : PySem.W.nsIn K mainGlobals "shown" = some (some (.ref f4)))
    (l4 : K.lookup f4 = some ⟨oc4, od4, .func (PySem.W.fnOf "shown" "shown" (defArgs s_shown) (defBody s_shown) (defScope s_shown) .none kV4 dc4 pm4 an4 cd4 ct4), sl4⟩)
    (c4 : PySem.W.codeIn K cd4 "shown" = true)
    (k4 : PySem.W.keepIn K (.ref f4) = true)
    (a5 : PySem.W.findIn K (.ref C_Token) "words" = some (some (.ref f5)))
    (i5 : PySem.W.isFn K (.ref f5) = true)
    (l5 : K.lookup f5 = some ⟨oc5, od5, .func (PySem.W.fnOf "words" "Token.words" (defArgs s_Token_words) (defBody s_Token_words) (defScope s_Token_words) .none kV5 dc5 pm5 an5 cd5 ct5), sl5⟩)
    (c5 : PySem.W.codeIn K cd5 "Token.words" = true)
    (k5 : PySem.W.keepIn K (.ref f5) = true)
    (a6 : PySem.W.nsIn K mainGlobals "_law_cell_at" = some (some (.ref f6)))
    (l6 : K.lookup f6 = some ⟨oc6, od6, .func (PySem.W.fnOf "_law_cell_at" "_law_cell_at" (defArgs s__law_cell_at) (defBody s__law_cell_at) (defScope s__law_cell_at) .none kV6 dc6 pm6 an6 cd6 ct6), sl6⟩)
    (c6 : PySem.W.codeIn K cd6 "_law_cell_at" = true)
    (k6 : PySem.W.keepIn K (.ref f6) = true)
    (a7 : PySem.W.findIn K (.ref C_Token) "__init__" = some (some (.ref f7)))
    (i7 : PySem.W.isFn K (.ref f7) = true)
    (l7 : K.lookup f7 = some ⟨oc7, od7, .func (PySem.W.fnOf "__init__" "Token.__init__" (defArgs s_Token_init) (defBody s_Token_init) (defScope s_Token_init) .none kV7 dc7 pm7 an7 cd7 ct7), sl7⟩)
    (c7 : PySem.W.codeIn K cd7 "Token.__init__" = true)
    (k7 : PySem.W.keepIn K (.ref f7) = true)
    (a8 : PySem.W.nsIn K mainGlobals "is_whole" = some (some (.ref f8)))
    (l8 : K.lookup f8 = some ⟨oc8, od8, .func (PySem.W.fnOf "is_whole" "is_whole" (defArgs s_is_whole) (defBody s_is_whole) (defScope s_is_whole) .none kV8 dc8 pm8 an8 cd8 ct8), sl8⟩)
    (c8 : PySem.W.codeIn K cd8 "is_whole" = true)
    (k8 : PySem.W.keepIn K (.ref f8) = true)
    (a9 : PySem.W.nsIn K mainGlobals "bounded" = some (some (.ref f9)))
    (l9 : K.lookup f9 = some ⟨oc9, od9, .func (PySem.W.fnOf "bounded" "bounded" (defArgs s_bounded) (defBody s_bounded) (defScope s_bounded) .none kV9 dc9 pm9 an9 cd9 ct9), sl9⟩)
    (c9 : PySem.W.codeIn K cd9 "bounded" = true)
    (k9 : PySem.W.keepIn K (.ref f9) = true)
    (a10 : PySem.W.nsIn K mainGlobals "in_order" = some (some (.ref f10)))
    (l10 : K.lookup f10 = some ⟨oc10, od10, .func (PySem.W.fnOf "in_order" "in_order" (defArgs s_in_order) (defBody s_in_order) (defScope s_in_order) .none kV10 dc10 pm10 an10 cd10 ct10), sl10⟩)
    (c10 : PySem.W.codeIn K cd10 "in_order" = true)
    (k10 : PySem.W.keepIn K (.ref f10) = true)
    (a11 : PySem.W.findIn K (.ref C_BySlots) "__init__" = some (some (.ref f11)))
    (i11 : PySem.W.isFn K (.ref f11) = true)
    (l11 : K.lookup f11 = some ⟨oc11, od11, .func (PySem.W.fnOf "__init__" "BySlots.__init__" (defArgs s_BySlots_init) (defBody s_BySlots_init) (defScope s_BySlots_init) (.ref T11) kV11 dc11 pm11 an11 cd11 ct11), sl11⟩)
    (t11 : K.lookup T11 = some ⟨ocT11, odT11, .seq (List.toArray [.int 0 tk11_0, .int 65536 tk11_1]) nT11, slT11⟩)
    (c11 : PySem.W.codeIn K cd11 "BySlots.__init__" = true)
    (k11 : PySem.W.keepIn K (.ref f11) = true)
    (a12 : PySem.W.nsIn K mainGlobals "bound_or_none" = some (some (.ref f12)))
    (l12 : K.lookup f12 = some ⟨oc12, od12, .func (PySem.W.fnOf "bound_or_none" "bound_or_none" (defArgs s_bound_or_none) (defBody s_bound_or_none) (defScope s_bound_or_none) .none kV12 dc12 pm12 an12 cd12 ct12), sl12⟩)
    (c12 : PySem.W.codeIn K cd12 "bound_or_none" = true)
    (k12 : PySem.W.keepIn K (.ref f12) = true)
    (a13 : PySem.W.findIn K (.ref C_Down) "__init__" = some (some (.ref f13)))
    (i13 : PySem.W.isFn K (.ref f13) = true)
    (l13 : K.lookup f13 = some ⟨oc13, od13, .func (PySem.W.fnOf "__init__" "Down.__init__" (defArgs s_Down_init) (defBody s_Down_init) (defScope s_Down_init) (.ref T13) kV13 dc13 pm13 an13 cd13 ct13), sl13⟩)
    (t13 : K.lookup T13 = some ⟨ocT13, odT13, .seq (List.toArray [.none, .int 0 tk13_1]) nT13, slT13⟩)
    (c13 : PySem.W.codeIn K cd13 "Down.__init__" = true)
    (k13 : PySem.W.keepIn K (.ref f13) = true)
    (a14 : PySem.W.findIn K (.ref C_Up) "__init__" = some (some (.ref f14)))
    (i14 : PySem.W.isFn K (.ref f14) = true)
    (l14 : K.lookup f14 = some ⟨oc14, od14, .func (PySem.W.fnOf "__init__" "Up.__init__" (defArgs s_Up_init) (defBody s_Up_init) (defScope s_Up_init) (.ref T14) kV14 dc14 pm14 an14 cd14 ct14), sl14⟩)
    (t14 : K.lookup T14 = some ⟨ocT14, odT14, .seq (List.toArray [.int 0 tk14_0, .none]) nT14, slT14⟩)
    (c14 : PySem.W.codeIn K cd14 "Up.__init__" = true)
    (k14 : PySem.W.keepIn K (.ref f14) = true)
    (a15 : PySem.W.nsIn K mainGlobals "_law_made" = some (some (.ref f15)))
    (l15 : K.lookup f15 = some ⟨oc15, od15, .func (PySem.W.fnOf "_law_made" "_law_made" (defArgs s__law_made) (defBody s__law_made) (defScope s__law_made) .none kV15 dc15 pm15 an15 cd15 ct15), sl15⟩)
    (c15 : PySem.W.codeIn K cd15 "_law_made" = true)
    (k15 : PySem.W.keepIn K (.ref f15) = true)
    (a16 : PySem.W.nsIn K mainGlobals "_law_number" = some (some (.ref f16)))
    (l16 : K.lookup f16 = some ⟨oc16, od16, .func (PySem.W.fnOf "_law_number" "_law_number" (defArgs s__law_number) (defBody s__law_number) (defScope s__law_number) .none kV16 dc16 pm16 an16 cd16 ct16), sl16⟩)
    (c16 : PySem.W.codeIn K cd16 "_law_number" = true)
    (k16 : PySem.W.keepIn K (.ref f16) = true)
    (a17 : PySem.W.nsIn K mainGlobals "_law_numbers" = some (some (.ref f17)))
    (l17 : K.lookup f17 = some ⟨oc17, od17, .func (PySem.W.fnOf "_law_numbers" "_law_numbers" (defArgs s__law_numbers) (defBody s__law_numbers) (defScope s__law_numbers) .none kV17 dc17 pm17 an17 cd17 ct17), sl17⟩)
    (c17 : PySem.W.codeIn K cd17 "_law_numbers" = true)
    (k17 : PySem.W.keepIn K (.ref f17) = true)
    (a18 : PySem.W.nsIn K mainGlobals "mark_of" = some (some (.ref f18)))
    (l18 : K.lookup f18 = some ⟨oc18, od18, .func (PySem.W.fnOf "mark_of" "mark_of" (defArgs s_mark_of) (defBody s_mark_of) (defScope s_mark_of) .none kV18 dc18 pm18 an18 cd18 ct18), sl18⟩)
    (c18 : PySem.W.codeIn K cd18 "mark_of" = true)
    (k18 : PySem.W.keepIn K (.ref f18) = true)
    (a19 : PySem.W.nsIn K mainGlobals "turned" = some (some (.ref f19)))
    (l19 : K.lookup f19 = some ⟨oc19, od19, .func (PySem.W.fnOf "turned" "turned" (defArgs s_turned) (defBody s_turned) (defScope s_turned) .none kV19 dc19 pm19 an19 cd19 ct19), sl19⟩)
    (c19 : PySem.W.codeIn K cd19 "turned" = true)
    (k19 : PySem.W.keepIn K (.ref f19) = true)
    (a20 : PySem.W.nsIn K mainGlobals "place_of" = some (some (.ref f20)))
    (l20 : K.lookup f20 = some ⟨oc20, od20, .func (PySem.W.fnOf "place_of" "place_of" (defArgs s_place_of) (defBody s_place_of) (defScope s_place_of) .none kV20 dc20 pm20 an20 cd20 ct20), sl20⟩)
    (c20 : PySem.W.codeIn K cd20 "place_of" = true)
    (k20 : PySem.W.keepIn K (.ref f20) = true)
    (a21 : PySem.W.findIn K (.ref C_BySlots) "holds" = some (some (.ref f21)))
    (i21 : PySem.W.isFn K (.ref f21) = true)
    (l21 : K.lookup f21 = some ⟨oc21, od21, .func (PySem.W.fnOf "holds" "BySlots.holds" (defArgs s_BySlots_holds) (defBody s_BySlots_holds) (defScope s_BySlots_holds) .none kV21 dc21 pm21 an21 cd21 ct21), sl21⟩)
    (c21 : PySem.W.codeIn K cd21 "BySlots.holds" = true)
    (k21 : PySem.W.keepIn K (.ref f21) = true)
    (a22 : PySem.W.findIn K (.ref C_Down) "holds" = some (some (.ref f22)))
    (i22 : PySem.W.isFn K (.ref f22) = true)
    (l22 : K.lookup f22 = some ⟨oc22, od22, .func (PySem.W.fnOf "holds" "Down.holds" (defArgs s_Down_holds) (defBody s_Down_holds) (defScope s_Down_holds) .none kV22 dc22 pm22 an22 cd22 ct22), sl22⟩)
    (c22 : PySem.W.codeIn K cd22 "Down.holds" = true)
    (k22 : PySem.W.keepIn K (.ref f22) = true)
    (a23 : PySem.W.findIn K (.ref C_Up) "holds" = some (some (.ref f23)))
    (i23 : PySem.W.isFn K (.ref f23) = true)
    (l23 : K.lookup f23 = some ⟨oc23, od23, .func (PySem.W.fnOf "holds" "Up.holds" (defArgs s_Up_holds) (defBody s_Up_holds) (defScope s_Up_holds) .none kV23 dc23 pm23 an23 cd23 ct23), sl23⟩)
    (c23 : PySem.W.codeIn K cd23 "Up.holds" = true)
    (k23 : PySem.W.keepIn K (.ref f23) = true)
    (a24 : PySem.W.nsIn K mainGlobals "_law_holds" = some (some (.ref f24)))
    (l24 : K.lookup f24 = some ⟨oc24, od24, .func (PySem.W.fnOf "_law_holds" "_law_holds" (defArgs s__law_holds) (defBody s__law_holds) (defScope s__law_holds) .none kV24 dc24 pm24 an24 cd24 ct24), sl24⟩)
    (c24 : PySem.W.codeIn K cd24 "_law_holds" = true)
    (k24 : PySem.W.keepIn K (.ref f24) = true)
    (a25 : PySem.W.nsIn K mainGlobals "_law_right" = some (some (.ref f25)))
    (l25 : K.lookup f25 = some ⟨oc25, od25, .func (PySem.W.fnOf "_law_right" "_law_right" (defArgs s__law_right) (defBody s__law_right) (defScope s__law_right) .none kV25 dc25 pm25 an25 cd25 ct25), sl25⟩)
    (c25 : PySem.W.codeIn K cd25 "_law_right" = true)
    (k25 : PySem.W.keepIn K (.ref f25) = true)
    (a26 : PySem.W.nsIn K mainGlobals "_law_text" = some (some (.ref f26)))
    (l26 : K.lookup f26 = some ⟨oc26, od26, .func (PySem.W.fnOf "_law_text" "_law_text" (defArgs s__law_text) (defBody s__law_text) (defScope s__law_text) .none kV26 dc26 pm26 an26 cd26 ct26), sl26⟩)
    (c26 : PySem.W.codeIn K cd26 "_law_text" = true)
    (k26 : PySem.W.keepIn K (.ref f26) = true)
    (a27 : PySem.W.nsIn K mainGlobals "read_whole" = some (some (.ref f27)))
    (l27 : K.lookup f27 = some ⟨oc27, od27, .func (PySem.W.fnOf "read_whole" "read_whole" (defArgs s_read_whole) (defBody s_read_whole) (defScope s_read_whole) .none kV27 dc27 pm27 an27 cd27 ct27), sl27⟩)
    (c27 : PySem.W.codeIn K cd27 "read_whole" = true)
    (k27 : PySem.W.keepIn K (.ref f27) = true)
    (a28 : PySem.W.nsIn K mainGlobals "read_bound" = some (some (.ref f28)))
    (l28 : K.lookup f28 = some ⟨oc28, od28, .func (PySem.W.fnOf "read_bound" "read_bound" (defArgs s_read_bound) (defBody s_read_bound) (defScope s_read_bound) .none kV28 dc28 pm28 an28 cd28 ct28), sl28⟩)
    (c28 : PySem.W.codeIn K cd28 "read_bound" = true)
    (k28 : PySem.W.keepIn K (.ref f28) = true)
    (a29 : PySem.W.nsIn K mainGlobals "token_of" = some (some (.ref f29)))
    (l29 : K.lookup f29 = some ⟨oc29, od29, .func (PySem.W.fnOf "token_of" "token_of" (defArgs s_token_of) (defBody s_token_of) (defScope s_token_of) .none kV29 dc29 pm29 an29 cd29 ct29), sl29⟩)
    (c29 : PySem.W.codeIn K cd29 "token_of" = true)
    (k29 : PySem.W.keepIn K (.ref f29) = true)
    (a30 : PySem.W.nsIn K mainGlobals "read_token" = some (some (.ref f30)))
    (l30 : K.lookup f30 = some ⟨oc30, od30, .func (PySem.W.fnOf "read_token" "read_token" (defArgs s_read_token) (defBody s_read_token) (defScope s_read_token) .none kV30 dc30 pm30 an30 cd30 ct30), sl30⟩)
    (c30 : PySem.W.codeIn K cd30 "read_token" = true)
    (k30 : PySem.W.keepIn K (.ref f30) = true)
    (a31 : PySem.W.nsIn K mainGlobals "law" = some (some (.ref f31)))
    (l31 : K.lookup f31 = some ⟨oc31, od31, .func (PySem.W.fnOf "law" "law" (defArgs s_law) (defBody s_law) (defScope s_law) .none kV31 dc31 pm31 an31 cd31 ct31), sl31⟩)
    (c31 : PySem.W.codeIn K cd31 "law" = true)
    (k31 : PySem.W.keepIn K (.ref f31) = true)
    (aC_NoToken : PySem.W.nsIn K mainGlobals "NoToken" = some (some (.ref C_NoToken)))
    (aC_NoText : PySem.W.nsIn K mainGlobals "NoText" = some (some (.ref C_NoText)))
    (aC_Token : PySem.W.nsIn K mainGlobals "Token" = some (some (.ref C_Token)))
    (xt_Token : PySem.W.typeIn K (.ref C_Token) = some (.type "type"))
    (xc_Token : PySem.W.findIn K (.ref C_Token) "__class__" = some (some (.builtin "object.__class__")))
    (xs_Token : PySem.W.specialIn K (.builtin "object.__class__") "__get__" = some (some (.builtin "getset_descriptor.__get__")))
    (xj_Token : PySem.W.takesIn K (.builtin "object.__class__") = some true)
    (xm_Token : PySem.W.mroIn K C_Token (.type "object") = some true)
    (xl_Token : PySem.W.subIn K (.ref C_Token) (.ref C_Token) = some true)
    (sb_Token_BySlots : PySem.W.subIn K (.ref C_Token) (.ref C_BySlots) = some false)
    (sb_Token_Up : PySem.W.subIn K (.ref C_Token) (.ref C_Up) = some false)
    (sb_Token_Down : PySem.W.subIn K (.ref C_Token) (.ref C_Down) = some false)
    (sb_Token_Token : PySem.W.subIn K (.ref C_Token) (.ref C_Token) = some true)
    (pg_Token : PySem.W.plainGet K C_Token Str.empty = true)
    (hd_Token : PySem.W.hasDictIn K C_Token = true)
    (po_Token : PySem.W.plainOver K C_Token = true)
    (sa_Token : PySem.W.findIn K (.ref C_Token) "__setattr__" = some (some (.builtin "object.__setattr__")))
    (mk_Token : PySem.W.makesIn K C_Token = true)
    (kc_Token : PySem.W.keepIn K (.ref C_Token) = true)
    (na_Token_at : PySem.W.findIn K (.ref C_Token) "at" = some none)
    (na_Token_end : PySem.W.findIn K (.ref C_Token) "end" = some none)
    (aC_BySlots : PySem.W.nsIn K mainGlobals "BySlots" = some (some (.ref C_BySlots)))
    (xt_BySlots : PySem.W.typeIn K (.ref C_BySlots) = some (.type "type"))
    (xc_BySlots : PySem.W.findIn K (.ref C_BySlots) "__class__" = some (some (.builtin "object.__class__")))
    (xs_BySlots : PySem.W.specialIn K (.builtin "object.__class__") "__get__" = some (some (.builtin "getset_descriptor.__get__")))
    (xj_BySlots : PySem.W.takesIn K (.builtin "object.__class__") = some true)
    (xm_BySlots : PySem.W.mroIn K C_BySlots (.type "object") = some true)
    (xl_BySlots : PySem.W.subIn K (.ref C_BySlots) (.ref C_BySlots) = some true)
    (sb_BySlots_BySlots : PySem.W.subIn K (.ref C_BySlots) (.ref C_BySlots) = some true)
    (sb_BySlots_Up : PySem.W.subIn K (.ref C_BySlots) (.ref C_Up) = some false)
    (sb_BySlots_Down : PySem.W.subIn K (.ref C_BySlots) (.ref C_Down) = some false)
    (sb_BySlots_Token : PySem.W.subIn K (.ref C_BySlots) (.ref C_Token) = some true)
    (pg_BySlots : PySem.W.plainGet K C_BySlots Str.empty = true)
    (hd_BySlots : PySem.W.hasDictIn K C_BySlots = true)
    (po_BySlots : PySem.W.plainOver K C_BySlots = true)
    (sa_BySlots : PySem.W.findIn K (.ref C_BySlots) "__setattr__" = some (some (.builtin "object.__setattr__")))
    (mk_BySlots : PySem.W.makesIn K C_BySlots = true)
    (kc_BySlots : PySem.W.keepIn K (.ref C_BySlots) = true)
    (m_BySlots_words : PySem.W.findIn K (.ref C_BySlots) "words" = some (some (.ref f5)))
    (na_BySlots_at : PySem.W.findIn K (.ref C_BySlots) "at" = some none)
    (na_BySlots_end : PySem.W.findIn K (.ref C_BySlots) "end" = some none)
    (aC_Up : PySem.W.nsIn K mainGlobals "Up" = some (some (.ref C_Up)))
    (xt_Up : PySem.W.typeIn K (.ref C_Up) = some (.type "type"))
    (xc_Up : PySem.W.findIn K (.ref C_Up) "__class__" = some (some (.builtin "object.__class__")))
    (xs_Up : PySem.W.specialIn K (.builtin "object.__class__") "__get__" = some (some (.builtin "getset_descriptor.__get__")))
    (xj_Up : PySem.W.takesIn K (.builtin "object.__class__") = some true)
    (xm_Up : PySem.W.mroIn K C_Up (.type "object") = some true)
    (xl_Up : PySem.W.subIn K (.ref C_Up) (.ref C_Up) = some true)
    (sb_Up_BySlots : PySem.W.subIn K (.ref C_Up) (.ref C_BySlots) = some false)
    (sb_Up_Up : PySem.W.subIn K (.ref C_Up) (.ref C_Up) = some true)
    (sb_Up_Down : PySem.W.subIn K (.ref C_Up) (.ref C_Down) = some false)
    (sb_Up_Token : PySem.W.subIn K (.ref C_Up) (.ref C_Token) = some true)
    (pg_Up : PySem.W.plainGet K C_Up Str.empty = true)
    (hd_Up : PySem.W.hasDictIn K C_Up = true)
    (po_Up : PySem.W.plainOver K C_Up = true)
    (sa_Up : PySem.W.findIn K (.ref C_Up) "__setattr__" = some (some (.builtin "object.__setattr__")))
    (mk_Up : PySem.W.makesIn K C_Up = true)
    (kc_Up : PySem.W.keepIn K (.ref C_Up) = true)
    (m_Up_words : PySem.W.findIn K (.ref C_Up) "words" = some (some (.ref f5)))
    (na_Up_at : PySem.W.findIn K (.ref C_Up) "at" = some none)
    (na_Up_end : PySem.W.findIn K (.ref C_Up) "end" = some none)
    (aC_Down : PySem.W.nsIn K mainGlobals "Down" = some (some (.ref C_Down)))
    (xt_Down : PySem.W.typeIn K (.ref C_Down) = some (.type "type"))
    (xc_Down : PySem.W.findIn K (.ref C_Down) "__class__" = some (some (.builtin "object.__class__")))
    (xs_Down : PySem.W.specialIn K (.builtin "object.__class__") "__get__" = some (some (.builtin "getset_descriptor.__get__")))
    (xj_Down : PySem.W.takesIn K (.builtin "object.__class__") = some true)
    (xm_Down : PySem.W.mroIn K C_Down (.type "object") = some true)
    (xl_Down : PySem.W.subIn K (.ref C_Down) (.ref C_Down) = some true)
    (sb_Down_BySlots : PySem.W.subIn K (.ref C_Down) (.ref C_BySlots) = some false)
    (sb_Down_Up : PySem.W.subIn K (.ref C_Down) (.ref C_Up) = some false)
    (sb_Down_Down : PySem.W.subIn K (.ref C_Down) (.ref C_Down) = some true)
    (sb_Down_Token : PySem.W.subIn K (.ref C_Down) (.ref C_Token) = some true)
    (pg_Down : PySem.W.plainGet K C_Down Str.empty = true)
    (hd_Down : PySem.W.hasDictIn K C_Down = true)
    (po_Down : PySem.W.plainOver K C_Down = true)
    (sa_Down : PySem.W.findIn K (.ref C_Down) "__setattr__" = some (some (.builtin "object.__setattr__")))
    (mk_Down : PySem.W.makesIn K C_Down = true)
    (kc_Down : PySem.W.keepIn K (.ref C_Down) = true)
    (m_Down_words : PySem.W.findIn K (.ref C_Down) "words" = some (some (.ref f5)))
    (na_Down_at : PySem.W.findIn K (.ref C_Down) "at" = some none)
    (na_Down_end : PySem.W.findIn K (.ref C_Down) "end" = some none)
    (cg_Token : PySem.W.readsIn K C_Token (.type "type") = true)
    (ca_Token : PySem.W.specialIn K (.ref C_Token) "__getattribute__" = some (some (.builtin "type.__getattribute__")))
    (ci_Token_init : PySem.W.findCls K (.ref C_Token) (.type "type") "__init__" = some (.val (.ref f7)))
    (kk_BITS : PySem.W.nsIn K mainGlobals "BITS" = some (some (.int 16 tk_BITS)))
    (kk_PLACES : PySem.W.nsIn K mainGlobals "PLACES" = some (some (.int 65536 tk_PLACES)))
    (kk_FIGURES : PySem.W.nsIn K mainGlobals "FIGURES" = some (some (.str "0123456789" tk_FIGURES)))
    (kk_MOST_FIGURES : PySem.W.nsIn K mainGlobals "MOST_FIGURES" = some (some (.int 60 tk_MOST_FIGURES)))
    (z_all : PySem.W.nsIn K mainGlobals "all" = some none)
    (z_bool : PySem.W.nsIn K mainGlobals "bool" = some none)
    (z_int : PySem.W.nsIn K mainGlobals "int" = some none)
    (z_isinstance : PySem.W.nsIn K mainGlobals "isinstance" = some none)
    (z_len : PySem.W.nsIn K mainGlobals "len" = some none)
    (z_max : PySem.W.nsIn K mainGlobals "max" = some none)
    (z_min : PySem.W.nsIn K mainGlobals "min" = some none)
    (z_range : PySem.W.nsIn K mainGlobals "range" = some none)
    (z_str : PySem.W.nsIn K mainGlobals "str" = some none) :
    ∃ fd : FuncData, (∀ (s : Shared) (v : Value), BindsTo s fd ⟨[v], []⟩ [("_law_script", v)]) ∧ ∃ D : Ad, ∀ base : Heap, K.In base → base.Ns mainGlobals mg → FnOk l.prog w K mg base (L2.CX l.prog w) 8 fa fd ["_law_script"] (sp_law K D) := by
  have e := hfa.symm.trans (PySem.W.mg_of X G a31)
  cases e
  have F1 := fun_mk (st := s_BySlots_kind_word) l1 c1 k1
  have b1 := F1.binds (ps := ["self"]) fun _ _ _ _ _ _ us hl => match us, hl with | [_], _ => rfl
  have F2 := fun_mk (st := s_Down_kind_word) l2 c2 k2
  have b2 := F2.binds (ps := ["self"]) fun _ _ _ _ _ _ us hl => match us, hl with | [_], _ => rfl
  have F3 := fun_mk (st := s_Up_kind_word) l3 c3 k3
  have b3 := F3.binds (ps := ["self"]) fun _ _ _ _ _ _ us hl => match us, hl with | [_], _ => rfl
  have F4 := fun_mk (st := s_shown) l4 c4 k4
  have b4 := F4.binds (ps := ["number"]) fun _ _ _ _ _ _ us hl => match us, hl with | [_], _ => rfl
  have F5 := fun_mk (st := s_Token_words) l5 c5 k5
  have b5 := F5.binds (ps := ["self"]) fun _ _ _ _ _ _ us hl => match us, hl with | [_], _ => rfl
  have F6 := fun_mk (st := s__law_cell_at) l6 c6 k6
  have b6 := F6.binds (ps := ["_law_script", "_law_k"]) fun _ _ _ _ _ _ us hl => match us, hl with | [_, _], _ => rfl
  have F7 := fun_mk (st := s_Token_init) l7 c7 k7
  have b7 := F7.binds (ps := ["self", "at", "end"]) fun _ _ _ _ _ _ us hl => match us, hl with | [_, _, _], _ => rfl
  have F8 := fun_mk (st := s_is_whole) l8 c8 k8
  have b8 := F8.binds (ps := ["thing"]) fun _ _ _ _ _ _ us hl => match us, hl with | [_], _ => rfl
  have F9 := fun_mk (st := s_bounded) l9 c9 k9
  have b9 := F9.binds (ps := ["number", "most"]) fun _ _ _ _ _ _ us hl => match us, hl with | [_, _], _ => rfl
  have F10 := fun_mk (st := s_in_order) l10 c10 k10
  have b10 := F10.binds (ps := ["low", "high"]) fun _ _ _ _ _ _ us hl => match us, hl with | [_, _], _ => rfl
  have F11 : FunD K "__init__" "BySlots.__init__" (defArgs s_BySlots_init) (defBody s_BySlots_init) (defScope s_BySlots_init) [.int 0, .int 65536] [] f11 _ := ⟨⟨_, _, _, _, _, _, _, _, _, _, rfl, l11, c11, .inr ⟨by simp, T11, _, _, _, rfl, t11, rfl, (.cons ⟨_, rfl⟩ (.cons ⟨_, rfl⟩ .nil))⟩, .inl rfl⟩, k11⟩
  have b11_0 := F11.binds1 (ps := ["self", "at", "end"]) 3 2 (by simp) (by decide) fun _ _ _ _ _ _ _ us its h1 h2 => match us, its, h1, h2 with | [_, _, _], [_, _], _, _ => ⟨_, rfl, rfl⟩
  have b11_1 := F11.binds1 (ps := ["self", "at", "end"]) 2 1 (by simp) (by decide) fun _ _ _ _ _ _ _ us its h1 h2 => match us, its, h1, h2 with | [_, _], [_, _], _, _ => ⟨_, rfl, rfl⟩
  have b11_2 := F11.binds1 (ps := ["self", "at", "end"]) 1 0 (by simp) (by decide) fun _ _ _ _ _ _ _ us its h1 h2 => match us, its, h1, h2 with | [_], [_, _], _, _ => ⟨_, rfl, rfl⟩
  have b11 := (match b11_0 with | ⟨ds, h, b⟩ => (by cases h; exact b) : Binds K _ ["self", "at", "end"] [])
  have F12 := fun_mk (st := s_bound_or_none) l12 c12 k12
  have b12 := F12.binds (ps := ["number"]) fun _ _ _ _ _ _ us hl => match us, hl with | [_], _ => rfl
  have F13 : FunD K "__init__" "Down.__init__" (defArgs s_Down_init) (defBody s_Down_init) (defScope s_Down_init) [.non, .int 0] [] f13 _ := ⟨⟨_, _, _, _, _, _, _, _, _, _, rfl, l13, c13, .inr ⟨by simp, T13, _, _, _, rfl, t13, rfl, (.cons rfl (.cons ⟨_, rfl⟩ .nil))⟩, .inl rfl⟩, k13⟩
  have b13_0 := F13.binds1 (ps := ["self", "at", "end"]) 3 2 (by simp) (by decide) fun _ _ _ _ _ _ _ us its h1 h2 => match us, its, h1, h2 with | [_, _, _], [_, _], _, _ => ⟨_, rfl, rfl⟩
  have b13_1 := F13.binds1 (ps := ["self", "at", "end"]) 2 1 (by simp) (by decide) fun _ _ _ _ _ _ _ us its h1 h2 => match us, its, h1, h2 with | [_, _], [_, _], _, _ => ⟨_, rfl, rfl⟩
  have b13_2 := F13.binds1 (ps := ["self", "at", "end"]) 1 0 (by simp) (by decide) fun _ _ _ _ _ _ _ us its h1 h2 => match us, its, h1, h2 with | [_], [_, _], _, _ => ⟨_, rfl, rfl⟩
  have b13 := (match b13_0 with | ⟨ds, h, b⟩ => (by cases h; exact b) : Binds K _ ["self", "at", "end"] [])
  have F14 : FunD K "__init__" "Up.__init__" (defArgs s_Up_init) (defBody s_Up_init) (defScope s_Up_init) [.int 0, .non] [] f14 _ := ⟨⟨_, _, _, _, _, _, _, _, _, _, rfl, l14, c14, .inr ⟨by simp, T14, _, _, _, rfl, t14, rfl, (.cons ⟨_, rfl⟩ (.cons rfl .nil))⟩, .inl rfl⟩, k14⟩
  have b14_0 := F14.binds1 (ps := ["self", "at", "end"]) 3 2 (by simp) (by decide) fun _ _ _ _ _ _ _ us its h1 h2 => match us, its, h1, h2 with | [_, _, _], [_, _], _, _ => ⟨_, rfl, rfl⟩
  have b14_1 := F14.binds1 (ps := ["self", "at", "end"]) 2 1 (by simp) (by decide) fun _ _ _ _ _ _ _ us its h1 h2 => match us, its, h1, h2 with | [_, _], [_, _], _, _ => ⟨_, rfl, rfl⟩
  have b14_2 := F14.binds1 (ps := ["self", "at", "end"]) 1 0 (by simp) (by decide) fun _ _ _ _ _ _ _ us its h1 h2 => match us, its, h1, h2 with | [_], [_, _], _, _ => ⟨_, rfl, rfl⟩
  have b14 := (match b14_0 with | ⟨ds, h, b⟩ => (by cases h; exact b) : Binds K _ ["self", "at", "end"] [])
  have F15 := fun_mk (st := s__law_made) l15 c15 k15
  have b15 := F15.binds (ps := ["_law_kind", "_law_at", "_law_end"]) fun _ _ _ _ _ _ us hl => match us, hl with | [_, _, _], _ => rfl
  have F16 := fun_mk (st := s__law_number) l16 c16 k16
  have b16 := F16.binds (ps := ["_law_cell"]) fun _ _ _ _ _ _ us hl => match us, hl with | [_], _ => rfl
  have F17 := fun_mk (st := s__law_numbers) l17 c17 k17
  have b17 := F17.binds (ps := ["_law_script", "_law_kind"]) fun _ _ _ _ _ _ us hl => match us, hl with | [_, _], _ => rfl
  have F18 := fun_mk (st := s_mark_of) l18 c18 k18
  have b18 := F18.binds (ps := ["key"]) fun _ _ _ _ _ _ us hl => match us, hl with | [_], _ => rfl
  have F19 := fun_mk (st := s_turned) l19 c19 k19
  have b19 := F19.binds (ps := ["number"]) fun _ _ _ _ _ _ us hl => match us, hl with | [_], _ => rfl
  have F20 := fun_mk (st := s_place_of) l20 c20 k20
  have b20 := F20.binds (ps := ["key"]) fun _ _ _ _ _ _ us hl => match us, hl with | [_], _ => rfl
  have F21 := fun_mk (st := s_BySlots_holds) l21 c21 k21
  have b21 := F21.binds (ps := ["self", "key"]) fun _ _ _ _ _ _ us hl => match us, hl with | [_, _], _ => rfl
  have F22 := fun_mk (st := s_Down_holds) l22 c22 k22
  have b22 := F22.binds (ps := ["self", "key"]) fun _ _ _ _ _ _ us hl => match us, hl with | [_, _], _ => rfl
  have F23 := fun_mk (st := s_Up_holds) l23 c23 k23
  have b23 := F23.binds (ps := ["self", "key"]) fun _ _ _ _ _ _ us hl => match us, hl with | [_, _], _ => rfl
  have F24 := fun_mk (st := s__law_holds) l24 c24 k24
  have b24 := F24.binds (ps := ["_law_kind", "_law_at", "_law_end", "_law_key"]) fun _ _ _ _ _ _ us hl => match us, hl with | [_, _, _, _], _ => rfl
  have F25 := fun_mk (st := s__law_right) l25 c25 k25
  have b25 := F25.binds (ps := ["_law_token", "_law_kind", "_law_at", "_law_end", "_law_keys"]) fun _ _ _ _ _ _ us hl => match us, hl with | [_, _, _, _, _], _ => rfl
  have F26 := fun_mk (st := s__law_text) l26 c26 k26
  have b26 := F26.binds (ps := ["_law_kind", "_law_at", "_law_end"]) fun _ _ _ _ _ _ us hl => match us, hl with | [_, _, _], _ => rfl
  have F27 := fun_mk (st := s_read_whole) l27 c27 k27
  have b27 := F27.binds (ps := ["text"]) fun _ _ _ _ _ _ us hl => match us, hl with | [_], _ => rfl
  have F28 := fun_mk (st := s_read_bound) l28 c28 k28
  have b28 := F28.binds (ps := ["word"]) fun _ _ _ _ _ _ us hl => match us, hl with | [_], _ => rfl
  have F29 := fun_mk (st := s_token_of) l29 c29 k29
  have b29 := F29.binds (ps := ["words"]) fun _ _ _ _ _ _ us hl => match us, hl with | [_], _ => rfl
  have F30 := fun_mk (st := s_read_token) l30 c30 k30
  have b30 := F30.binds (ps := ["text"]) fun _ _ _ _ _ _ us hl => match us, hl with | [_], _ => rfl
  have F31 := fun_mk (st := s_law) l31 c31 k31
  have b31 := F31.binds (ps := ["_law_script"]) fun _ _ _ _ _ _ us hl => match us, hl with | [_], _ => rfl
  have T : Txt K mg { a_BySlots_kind_word := f1, d_BySlots_kind_word := _, a_Down_kind_word := f2, d_Down_kind_word := _, a_Up_kind_word := f3, d_Up_kind_word := _, a_shown := f4, d_shown := _, a_Token_words := f5, d_Token_words := _, a__law_cell_at := f6, d__law_cell_at := _, a_Token_init := f7, d_Token_init := _, a_is_whole := f8, d_is_whole := _, a_bounded := f9, d_bounded := _, a_in_order := f10, d_in_order := _, a_BySlots_init := f11, d_BySlots_init := _, a_bound_or_none := f12, d_bound_or_none := _, a_Down_init := f13, d_Down_init := _, a_Up_init := f14, d_Up_init := _, a__law_made := f15, d__law_made := _, a__law_number := f16, d__law_number := _, a__law_numbers := f17, d__law_numbers := _, a_mark_of := f18, d_mark_of := _, a_turned := f19, d_turned := _, a_place_of := f20, d_place_of := _, a_BySlots_holds := f21, d_BySlots_holds := _, a_Down_holds := f22, d_Down_holds := _, a_Up_holds := f23, d_Up_holds := _, a__law_holds := f24, d__law_holds := _, a__law_right := f25, d__law_right := _, a__law_text := f26, d__law_text := _, a_read_whole := f27, d_read_whole := _, a_read_bound := f28, d_read_bound := _, a_token_of := f29, d_token_of := _, a_read_token := f30, d_read_token := _, a_law := fa, d_law := _, c_NoToken := C_NoToken, c_NoText := C_NoText, c_Token := C_Token, c_BySlots := C_BySlots, c_Up := C_Up, c_Down := C_Down, t_BITS := tk_BITS, t_PLACES := tk_PLACES, t_FIGURES := tk_FIGURES, t_MOST_FIGURES := tk_MOST_FIGURES } := { F_BySlots_kind_word := F1, b_BySlots_kind_word := b1, F_Down_kind_word := F2, b_Down_kind_word := b2, F_Up_kind_word := F3, b_Up_kind_word := b3, F_shown := F4, b_shown := b4, g_shown := PySem.W.mg_of X G a4, F_Token_words := F5, b_Token_words := b5, F__law_cell_at := F6, b__law_cell_at := b6, g__law_cell_at := PySem.W.mg_of X G a6, F_Token_init := F7, b_Token_init := b7, F_is_whole := F8, b_is_whole := b8, g_is_whole := PySem.W.mg_of X G a8, F_bounded := F9, b_bounded := b9, g_bounded := PySem.W.mg_of X G a9, F_in_order := F10, b_in_order := b10, g_in_order := PySem.W.mg_of X G a10, F_BySlots_init := F11, b_BySlots_init := b11, b_BySlots_init_1 := b11_1, b_BySlots_init_2 := b11_2, F_bound_or_none := F12, b_bound_or_none := b12, g_bound_or_none := PySem.W.mg_of X G a12, F_Down_init := F13, b_Down_init := b13, b_Down_init_1 := b13_1, b_Down_init_2 := b13_2, F_Up_init := F14, b_Up_init := b14, b_Up_init_1 := b14_1, b_Up_init_2 := b14_2, F__law_made := F15, b__law_made := b15, g__law_made := PySem.W.mg_of X G a15, F__law_number := F16, b__law_number := b16, g__law_number := PySem.W.mg_of X G a16, F__law_numbers := F17, b__law_numbers := b17, g__law_numbers := PySem.W.mg_of X G a17, F_mark_of := F18, b_mark_of := b18, g_mark_of := PySem.W.mg_of X G a18, F_turned := F19, b_turned := b19, g_turned := PySem.W.mg_of X G a19, F_place_of := F20, b_place_of := b20, g_place_of := PySem.W.mg_of X G a20, F_BySlots_holds := F21, b_BySlots_holds := b21, F_Down_holds := F22, b_Down_holds := b22, F_Up_holds := F23, b_Up_holds := b23, F__law_holds := F24, b__law_holds := b24, g__law_holds := PySem.W.mg_of X G a24, F__law_right := F25, b__law_right := b25, g__law_right := PySem.W.mg_of X G a25, F__law_text := F26, b__law_text := b26, g__law_text := PySem.W.mg_of X G a26, F_read_whole := F27, b_read_whole := b27, g_read_whole := PySem.W.mg_of X G a27, F_read_bound := F28, b_read_bound := b28, g_read_bound := PySem.W.mg_of X G a28, F_token_of := F29, b_token_of := b29, g_token_of := PySem.W.mg_of X G a29, F_read_token := F30, b_read_token := b30, g_read_token := PySem.W.mg_of X G a30, F_law := F31, b_law := b31, g_law := PySem.W.mg_of X G a31, g_NoToken := PySem.W.mg_of X G aC_NoToken, g_NoText := PySem.W.mg_of X G aC_NoText, g_Token := PySem.W.mg_of X G aC_Token, cl_Token := ⟨pg_Token, hd_Token, po_Token, sa_Token⟩, ic_Token := ⟨⟨pg_Token, hd_Token, po_Token, sa_Token⟩, hd_Token, xt_Token, xc_Token, xs_Token, xj_Token, xm_Token, xl_Token⟩, sb_Token_BySlots := sb_Token_BySlots, sb_Token_Up := sb_Token_Up, sb_Token_Down := sb_Token_Down, sb_Token_Token := sb_Token_Token, mk_Token := ⟨mk_Token, a7, i7, kc_Token⟩, me_Token_words := ⟨a5, i5, k5⟩, na_Token_at := na_Token_at, na_Token_end := na_Token_end, g_BySlots := PySem.W.mg_of X G aC_BySlots, cl_BySlots := ⟨pg_BySlots, hd_BySlots, po_BySlots, sa_BySlots⟩, ic_BySlots := ⟨⟨pg_BySlots, hd_BySlots, po_BySlots, sa_BySlots⟩, hd_BySlots, xt_BySlots, xc_BySlots, xs_BySlots, xj_BySlots, xm_BySlots, xl_BySlots⟩, sb_BySlots_BySlots := sb_BySlots_BySlots, sb_BySlots_Up := sb_BySlots_Up, sb_BySlots_Down := sb_BySlots_Down, sb_BySlots_Token := sb_BySlots_Token, mk_BySlots := ⟨mk_BySlots, a11, i11, kc_BySlots⟩, me_BySlots_holds := ⟨a21, i21, k21⟩, me_BySlots_kind_word := ⟨a1, i1, k1⟩, me_BySlots_words := ⟨m_BySlots_words, i5, k5⟩, na_BySlots_at := na_BySlots_at, na_BySlots_end := na_BySlots_end, g_Up := PySem.W.mg_of X G aC_Up, cl_Up := ⟨pg_Up, hd_Up, po_Up, sa_Up⟩, ic_Up := ⟨⟨pg_Up, hd_Up, po_Up, sa_Up⟩, hd_Up, xt_Up, xc_Up, xs_Up, xj_Up, xm_Up, xl_Up⟩, sb_Up_BySlots := sb_Up_BySlots, sb_Up_Up := sb_Up_Up, sb_Up_Down := sb_Up_Down, sb_Up_Token := sb_Up_Token, mk_Up := ⟨mk_Up, a14, i14, kc_Up⟩, me_Up_holds := ⟨a23, i23, k23⟩, me_Up_kind_word := ⟨a3, i3, k3⟩, me_Up_words := ⟨m_Up_words, i5, k5⟩, na_Up_at := na_Up_at, na_Up_end := na_Up_end, g_Down := PySem.W.mg_of X G aC_Down, cl_Down := ⟨pg_Down, hd_Down, po_Down, sa_Down⟩, ic_Down := ⟨⟨pg_Down, hd_Down, po_Down, sa_Down⟩, hd_Down, xt_Down, xc_Down, xs_Down, xj_Down, xm_Down, xl_Down⟩, sb_Down_BySlots := sb_Down_BySlots, sb_Down_Up := sb_Down_Up, sb_Down_Down := sb_Down_Down, sb_Down_Token := sb_Down_Token, mk_Down := ⟨mk_Down, a13, i13, kc_Down⟩, me_Down_holds := ⟨a22, i22, k22⟩, me_Down_kind_word := ⟨a2, i2, k2⟩, me_Down_words := ⟨m_Down_words, i5, k5⟩, na_Down_at := na_Down_at, na_Down_end := na_Down_end, cr_Token := ⟨cg_Token, ca_Token⟩, ci_Token_init := ci_Token_init, k_BITS := PySem.W.mg_of X G kk_BITS, k_PLACES := PySem.W.mg_of X G kk_PLACES, k_FIGURES := PySem.W.mg_of X G kk_FIGURES, k_MOST_FIGURES := PySem.W.mg_of X G kk_MOST_FIGURES, n_all := PySem.W.mg_none_of X G z_all, n_bool := PySem.W.mg_none_of X G z_bool, n_int := PySem.W.mg_none_of X G z_int, n_isinstance := PySem.W.mg_none_of X G z_isinstance, n_len := PySem.W.mg_none_of X G z_len, n_max := PySem.W.mg_none_of X G z_max, n_min := PySem.W.mg_none_of X G z_min, n_range := PySem.W.mg_none_of X G z_range, n_str := PySem.W.mg_none_of X G z_str }
  exact ⟨_, fun s v => .of_eq rfl, _, fun base _ _ => ok_law T⟩
theorem walk {l : PySem.W.OpenLaw} {q : Program} {loose : List Str} {XP : (Str → Option Value) → Heap → Prop} {YP : World → Heap → Prop} {d : DefRec} {K : Params → PySem.W.Frag} (hn : l.most = some 63) (hdf : d.params.defaults = [])
    (hY : ∀ (w : World) (h : Heap), YP w h → (K w.params).In h)
    (F : ∀ (w : World) (mg : Str → Option Value) (fa : Addr) (h : Heap), (K w.params).In h → h.Ns mainGlobals mg → mg d.name = some (.ref fa) →
      ∃ fd : FuncData, (∀ (s : Shared) (u : Value), BindsTo s fd ⟨[u], []⟩ [("_law_script", u)]) ∧ ∃ D : Ad, ∀ base : Heap, (K w.params).In base → base.Ns mainGlobals mg → FnOk l.prog w (K w.params) mg base (L2.CX l.prog w) 8 fa fd ["_law_script"] (sp_law (K w.params) D)) :
    PySem.W.WalkO q loose XP YP l.row.toRowW d [] (fun f vs => PySem.call f vs) :=
  L2.walk_of (n := 63) (k := 8) (x := "_law_script") (CX := fun w => L2.CX l.prog w) (sp := fun w => spEnd (K w.params)) hn (by decide) hdf ⟨rfl, by decide, by decide⟩ hY
    (fun w mg fa h a b c => by
      obtain ⟨fd, h1, D, h2⟩ := F w mg fa h a b c
      exact ⟨fd, h1, fun base x y => (h2 base x y).imp fun vs H Q E z => sp_law_end z⟩)
    (fun _ H a ns hl hO hS => ⟨.ref a, rfl, a, ns, rfl, hS, hl, fun _ => rfl⟩) fun _ _ _ _ _ z => cx_false z
end Toy
open PySem PySem.W PyProof.Rows
set_option maxRecDepth 100000 in
set_option maxHeartbeats 0 in
theorem PySem.Challenge.cw_staywalk_k62_tokens_read_again_holds : PySem.Challenge.rw_staywalk_k62_tokens_read_again.Holds := by
  w_on; o_law; k_head; (case hw => w_witness2)
  k_fill
  refine Toy.walk (l := PySem.Challenge.rw_staywalk_k62_tokens_read_again) rfl rfl (fun w h Y => PySem.W.kIn_of Y) ?F
  case F =>
    intro w mg fa h KX G hmg
    refine' Toy.all_mk KX G hmg ?a1 ?i1 ?l1 ?c1 ?k1 ?a2 ?i2 ?l2 ?c2 ?k2 ?a3 ?i3 ?l3 ?c3 ?k3 ?a4 ?l4 ?c4 ?k4 ?a5 ?i5 ?l5 ?c5 ?k5 ?a6 ?l6 ?c6 ?k6 ?a7 ?i7 ?l7 ?c7 ?k7 ?a8 ?l8 ?c8 ?k8 ?a9 ?l9 ?c9 ?k9 ?a10 ?l10 ?c10 ?k10 ?a11 ?i11 ?l11 ?t11 ?c11 ?k11 ?a12 ?l12 ?c12 ?k12 ?a13 ?i13 ?l13 ?t13 ?c13 ?k13 ?a14 ?i14 ?l14 ?t14 ?c14 ?k14 ?a15 ?l15 ?c15 ?k15 ?a16 ?l16 ?c16 ?k16 ?a17 ?l17 ?c17 ?k17 ?a18 ?l18 ?c18 ?k18 ?a19 ?l19 ?c19 ?k19 ?a20 ?l20 ?c20 ?k20 ?a21 ?i21 ?l21 ?c21 ?k21 ?a22 ?i22 ?l22 ?c22 ?k22 ?a23 ?i23 ?l23 ?c23 ?k23 ?a24 ?l24 ?c24 ?k24 ?a25 ?l25 ?c25 ?k25 ?a26 ?l26 ?c26 ?k26 ?a27 ?l27 ?c27 ?k27 ?a28 ?l28 ?c28 ?k28 ?a29 ?l29 ?c29 ?k29 ?a30 ?l30 ?c30 ?k30 ?a31 ?l31 ?c31 ?k31 ?aC_NoToken ?aC_NoText ?aC_Token ?xt_Token ?xc_Token ?xs_Token ?xj_Token ?xm_Token ?xl_Token ?sb_Token_BySlots ?sb_Token_Up ?sb_Token_Down ?sb_Token_Token ?pg_Token ?hd_Token ?po_Token ?sa_Token ?mk_Token ?kc_Token ?na_Token_at ?na_Token_end ?aC_BySlots ?xt_BySlots ?xc_BySlots ?xs_BySlots ?xj_BySlots ?xm_BySlots ?xl_BySlots ?sb_BySlots_BySlots ?sb_BySlots_Up ?sb_BySlots_Down ?sb_BySlots_Token ?pg_BySlots ?hd_BySlots ?po_BySlots ?sa_BySlots ?mk_BySlots ?kc_BySlots ?m_BySlots_words ?na_BySlots_at ?na_BySlots_end ?aC_Up ?xt_Up ?xc_Up ?xs_Up ?xj_Up ?xm_Up ?xl_Up ?sb_Up_BySlots ?sb_Up_Up ?sb_Up_Down ?sb_Up_Token ?pg_Up ?hd_Up ?po_Up ?sa_Up ?mk_Up ?kc_Up ?m_Up_words ?na_Up_at ?na_Up_end ?aC_Down ?xt_Down ?xc_Down ?xs_Down ?xj_Down ?xm_Down ?xl_Down ?sb_Down_BySlots ?sb_Down_Up ?sb_Down_Down ?sb_Down_Token ?pg_Down ?hd_Down ?po_Down ?sa_Down ?mk_Down ?kc_Down ?m_Down_words ?na_Down_at ?na_Down_end ?cg_Token ?ca_Token ?ci_Token_init ?kk_BITS ?kk_PLACES ?kk_FIGURES ?kk_MOST_FIGURES ?z_all ?z_bool ?z_int ?z_isinstance ?z_len ?z_max ?z_min ?z_range ?z_str
    (case aC_NoToken => k_is)
    (case aC_NoText => k_is)
    (case aC_Token => k_is)
    (case aC_BySlots => k_is)
    (case aC_Up => k_is)
    (case aC_Down => k_is)
    (case a1 => k_is)
    (case i1 => k_is)
    (case l1 => k_is)
    (case c1 => k_is)
    (case k1 => k_is)
    (case a2 => k_is)
    (case i2 => k_is)
    (case l2 => k_is)
    (case c2 => k_is)
    (case k2 => k_is)
    (case a3 => k_is)
    (case i3 => k_is)
    (case l3 => k_is)
    (case c3 => k_is)
    (case k3 => k_is)
    (case a4 => k_is)
    (case l4 => k_is)
    (case c4 => k_is)
    (case k4 => k_is)
    (case a5 => k_is)
    (case i5 => k_is)
    (case l5 => k_is)
    (case c5 => k_is)
    (case k5 => k_is)
    (case a6 => k_is)
    (case l6 => k_is)
    (case c6 => k_is)
    (case k6 => k_is)
    (case a7 => k_is)
    (case i7 => k_is)
    (case l7 => k_is)
    (case c7 => k_is)
    (case k7 => k_is)
    (case a8 => k_is)
    (case l8 => k_is)
    (case c8 => k_is)
    (case k8 => k_is)
    (case a9 => k_is)
    (case l9 => k_is)
    (case c9 => k_is)
    (case k9 => k_is)
    (case a10 => k_is)
    (case l10 => k_is)
    (case c10 => k_is)
    (case k10 => k_is)
    (case a11 => k_is)
    (case i11 => k_is)
    (case l11 => k_is)
    (case t11 => k_is)
    (case c11 => k_is)
    (case k11 => k_is)
    (case a12 => k_is)
    (case l12 => k_is)
    (case c12 => k_is)
    (case k12 => k_is)
    (case a13 => k_is)
    (case i13 => k_is)
    (case l13 => k_is)
    (case t13 => k_is)
    (case c13 => k_is)
    (case k13 => k_is)
    (case a14 => k_is)
    (case i14 => k_is)
    (case l14 => k_is)
    (case t14 => k_is)
    (case c14 => k_is)
    (case k14 => k_is)
    (case a15 => k_is)
    (case l15 => k_is)
    (case c15 => k_is)
    (case k15 => k_is)
    (case a16 => k_is)
    (case l16 => k_is)
    (case c16 => k_is)
    (case k16 => k_is)
    (case a17 => k_is)
    (case l17 => k_is)
    (case c17 => k_is)
    (case k17 => k_is)
    (case a18 => k_is)
    (case l18 => k_is)
    (case c18 => k_is)
    (case k18 => k_is)
    (case a19 => k_is)
    (case l19 => k_is)
    (case c19 => k_is)
    (case k19 => k_is)
    (case a20 => k_is)
    (case l20 => k_is)
    (case c20 => k_is)
    (case k20 => k_is)
    (case a21 => k_is)
    (case i21 => k_is)
    (case l21 => k_is)
    (case c21 => k_is)
    (case k21 => k_is)
    (case a22 => k_is)
    (case i22 => k_is)
    (case l22 => k_is)
    (case c22 => k_is)
    (case k22 => k_is)
    (case a23 => k_is)
    (case i23 => k_is)
    (case l23 => k_is)
    (case c23 => k_is)
    (case k23 => k_is)
    (case a24 => k_is)
    (case l24 => k_is)
    (case c24 => k_is)
    (case k24 => k_is)
    (case a25 => k_is)
    (case l25 => k_is)
    (case c25 => k_is)
    (case k25 => k_is)
    (case a26 => k_is)
    (case l26 => k_is)
    (case c26 => k_is)
    (case k26 => k_is)
    (case a27 => k_is)
    (case l27 => k_is)
    (case c27 => k_is)
    (case k27 => k_is)
    (case a28 => k_is)
    (case l28 => k_is)
    (case c28 => k_is)
    (case k28 => k_is)
    (case a29 => k_is)
    (case l29 => k_is)
    (case c29 => k_is)
    (case k29 => k_is)
    (case a30 => k_is)
    (case l30 => k_is)
    (case c30 => k_is)
    (case k30 => k_is)
    (case a31 => k_is)
    (case l31 => k_is)
    (case c31 => k_is)
    (case k31 => k_is)
    (case xt_Token => k_is)
    (case xc_Token => k_is)
    (case xs_Token => k_is)
    (case xj_Token => k_is)
    (case xm_Token => k_is)
    (case xl_Token => k_is)
    (case sb_Token_BySlots => k_is)
    (case sb_Token_Up => k_is)
    (case sb_Token_Down => k_is)
    (case sb_Token_Token => k_is)
    (case pg_Token => k_is)
    (case hd_Token => k_is)
    (case po_Token => k_is)
    (case sa_Token => k_is)
    (case mk_Token => k_is)
    (case kc_Token => k_is)
    (case na_Token_at => k_is)
    (case na_Token_end => k_is)
    (case xt_BySlots => k_is)
    (case xc_BySlots => k_is)
    (case xs_BySlots => k_is)
    (case xj_BySlots => k_is)
    (case xm_BySlots => k_is)
    (case xl_BySlots => k_is)
    (case sb_BySlots_BySlots => k_is)
    (case sb_BySlots_Up => k_is)
    (case sb_BySlots_Down => k_is)
    (case sb_BySlots_Token => k_is)
    (case pg_BySlots => k_is)
    (case hd_BySlots => k_is)
    (case po_BySlots => k_is)
    (case sa_BySlots => k_is)
    (case mk_BySlots => k_is)
    (case kc_BySlots => k_is)
    (case m_BySlots_words => k_is)
    (case na_BySlots_at => k_is)
    (case na_BySlots_end => k_is)
    (case xt_Up => k_is)
    (case xc_Up => k_is)
    (case xs_Up => k_is)
    (case xj_Up => k_is)
    (case xm_Up => k_is)
    (case xl_Up => k_is)
    (case sb_Up_BySlots => k_is)
    (case sb_Up_Up => k_is)
    (case sb_Up_Down => k_is)
    (case sb_Up_Token => k_is)
    (case pg_Up => k_is)
    (case hd_Up => k_is)
    (case po_Up => k_is)
    (case sa_Up => k_is)
    (case mk_Up => k_is)
    (case kc_Up => k_is)
    (case m_Up_words => k_is)
    (case na_Up_at => k_is)
    (case na_Up_end => k_is)
    (case xt_Down => k_is)
    (case xc_Down => k_is)
    (case xs_Down => k_is)
    (case xj_Down => k_is)
    (case xm_Down => k_is)
    (case xl_Down => k_is)
    (case sb_Down_BySlots => k_is)
    (case sb_Down_Up => k_is)
    (case sb_Down_Down => k_is)
    (case sb_Down_Token => k_is)
    (case pg_Down => k_is)
    (case hd_Down => k_is)
    (case po_Down => k_is)
    (case sa_Down => k_is)
    (case mk_Down => k_is)
    (case kc_Down => k_is)
    (case m_Down_words => k_is)
    (case na_Down_at => k_is)
    (case na_Down_end => k_is)
    (case cg_Token => k_is)
    (case ca_Token => k_is)
    (case ci_Token_init => k_is)
    (case kk_BITS => k_is)
    (case kk_PLACES => k_is)
    (case kk_FIGURES => k_is)
    (case kk_MOST_FIGURES => k_is)
    (case z_all => k_is)
    (case z_bool => k_is)
    (case z_int => k_is)
    (case z_isinstance => k_is)
    (case z_len => k_is)
    (case z_max => k_is)
    (case z_min => k_is)
    (case z_range => k_is)
    (case z_str => k_is)
