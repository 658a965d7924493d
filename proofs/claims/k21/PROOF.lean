import PyProof.Rows.All
import Wide.All
import OpenK.AllK
import Wide.FinOn
import HandS.ForMost
import HandS.ForExc
import HandS.IsInst
import HandS.Flow
import HandS.Wide
import HandS.Style
import KE.KBits
import KE.BitLaws
import KE.KEqDict
import HandS.Iter
import HandS.SortRule
import HandS.ClsMeth
import HandS.ExcInit
import HandS.Defaults
import HandS.SortInts
import HandS.More
import HandS.WordsDict
import HandS.ExcIs
import HandS.ExcField
import HandS.ExcOwn
import KE.KExcIs
import PySem.Challenge.RW_staywalk_k21_a_few_keys_in_leaves
set_option Elab.async false
set_option linter.all false
set_option maxRecDepth 100000
set_option maxHeartbeats 4000000
/-! Z1: a small calculus over HandS: what a def may rely on is a list of cells that it owns (L) and a part that stays (B). -/
namespace Z
open PySem L2

abbrev Cell := Addr × HO
/-- B stays for ever, L is owned, both lie in H, apart -/
structure W (B : Hp) (L : List Cell) (H : Hp) : Prop where
  sub : Same B H
  has : ∀ c ∈ L, H c.1 = some c.2
  nd : (L.map (·.1)).Nodup
  out : ∀ c ∈ L, B c.1 = none
def Same' (A B : Hp) : Prop := Same A B
theorem szl {n : Nat} (h : n ≤ 100000) : n ≤ sizeLine := Nat.le_trans h (by decide)
theorem szlt {n : Nat} (h : n < 100000) : n < sizeLine := Nat.lt_of_lt_of_le h (by decide)
theorem same_refl (H : Hp) : Same H H := fun _ _ e => e
theorem same_trans {A B C : Hp} (x : Same A B) (y : Same B C) : Same A C := fun b o e => y b o (x b o e)
theorem same_new {B : Hp} {p : Addr} {o : HO} (h : B p = none) : Same B (upd B p o) := fun b u e => by
  rw [upd_ne (ne_of_none e h)]
  exact e
theorem Same.tq {K : PySem.W.Frag} {H H' : Hp} {a : Addr} {xs : List V} (e : Same H H') (h : SqT K H a xs) : SqT K H' a xs := by
  rcases h with (h | ⟨o, h⟩) | h
  · exact .inl (.inl (e _ _ h))
  · exact .inl (.inr ⟨o, e _ _ h⟩)
  · exact .inr h
theorem Same.rd {A B : Hp} {a : Addr} {o : HO} (s : Same A B) (h : A a = some o) : B a = some o := s _ _ h
theorem Same.sq {K : PySem.W.Frag} {H H' : Hp} {a : Addr} {xs : List V} (e : Same H H') (h : SqL K H a xs) : SqL K H' a xs := L2.Same.seq e h
namespace W
variable {B B' H : Hp} {L L' R : List Cell} {a p : Addr} {o o' : HO}
theorem perm (w : W B L H) (h : L.Perm L') : W B L' H :=
  ⟨w.sub, fun c hc => w.has c (h.mem_iff.mpr hc), (h.map _).nodup_iff.mp w.nd, fun c hc => w.out c (h.mem_iff.mpr hc)⟩
theorem get (w : W B L H) (h : (a, o) ∈ L) : H a = some o := w.has _ h
theorem freeB (w : W B L H) (h : H p = none) : B p = none := by
  cases e : B p with
  | none => rfl
  | some u => rw [w.sub _ _ e] at h; cases h
theorem freeL (w : W B L H) (h : H p = none) : p ∉ L.map (·.1) := fun m => by
  obtain ⟨c, hc, rfl⟩ := List.mem_map.mp m
  rw [w.has c hc] at h
  cases h
/-- a new thing that stays -/
theorem newB (w : W B L H) (h : H p = none) (o : HO) : W (upd B p o) L (upd H p o) := by
  refine ⟨fun b u e => ?_, fun c hc => ?_, w.nd, fun c hc => ?_⟩
  · by_cases q : b = p
    · subst q; rw [upd_same] at e ⊢; exact e
    · rw [upd_ne q] at e ⊢; exact w.sub _ _ e
  · have q : c.1 ≠ p := fun q => w.freeL h (List.mem_map.mpr ⟨c, hc, q⟩)
    rw [upd_ne q]; exact w.has c hc
  · have q : c.1 ≠ p := fun q => w.freeL h (List.mem_map.mpr ⟨c, hc, q⟩)
    rw [upd_ne q]; exact w.out c hc
/-- a new thing that is owned -/
theorem newL (w : W B L H) (h : H p = none) (o : HO) : W B ((p, o) :: L) (upd H p o) := by
  refine ⟨fun b u e => ?_, fun c hc => ?_, ?_, fun c hc => ?_⟩
  · rw [upd_ne (ne_of_none e (w.freeB h))]; exact w.sub _ _ e
  · rcases List.mem_cons.mp hc with rfl | hc
    · exact upd_same
    · have q : c.1 ≠ p := fun q => w.freeL h (List.mem_map.mpr ⟨c, hc, q⟩)
      rw [upd_ne q]; exact w.has c hc
  · exact List.nodup_cons.mpr ⟨w.freeL h, w.nd⟩
  · rcases List.mem_cons.mp hc with rfl | hc
    · exact w.freeB h
    · exact w.out c hc
/-- an owned thing stays from now on -/
theorem give (w : W B ((p, o) :: L) H) : W (upd B p o) L H := by
  have n := List.nodup_cons.mp w.nd
  refine ⟨fun b u e => ?_, fun c hc => w.has c (List.mem_cons_of_mem _ hc), n.2, fun c hc => ?_⟩
  · by_cases q : b = p
    · subst q; rw [upd_same] at e; cases e; exact w.has _ (List.mem_cons_self ..)
    · rw [upd_ne q] at e; exact w.sub _ _ e
  · have q : c.1 ≠ p := fun q => n.1 (List.mem_map.mpr ⟨c, hc, q⟩)
    rw [upd_ne q]; exact w.out c (List.mem_cons_of_mem _ hc)
/-- owned things stay from now on -/
theorem giveAll : ∀ {A : List Cell} {B : Hp}, W B (A ++ L) H → ∃ B', Same B B' ∧ (∀ c ∈ A, B' c.1 = some c.2) ∧ W B' L H
  | [], B, w => ⟨B, same_refl B, fun c h => (nomatch h), w⟩
  | (p, o) :: A, B, w => by
    have h0 := w.out (p, o) (List.mem_cons_self ..)
    obtain ⟨B', s, h, w'⟩ := giveAll (A := A) w.give
    refine ⟨B', same_trans (same_new h0) s, fun c hc => ?_, w'⟩
    rcases List.mem_cons.mp hc with rfl | hc
    · exact s _ _ upd_same
    · exact h c hc
theorem drop (w : W B (L ++ R) H) : W B R H :=
  ⟨w.sub, fun c hc => w.has c (List.mem_append_right _ hc), by have n := w.nd; rw [List.map_append] at n; exact (List.nodup_append.mp n).2.1, fun c hc => w.out c (List.mem_append_right _ hc)⟩
theorem drop1 (w : W B ((p, o) :: L) H) : W B L H := W.drop (L := [(p, o)]) w
theorem outB (w : W B L H) (h : (a, o) ∈ L) : B a = none := w.out _ h
/-- an owned thing is written -/
theorem put (w : W B (L ++ (a, o) :: R) H) (o' : HO) : W B (L ++ (a, o') :: R) (upd H a o') := by
  have n := w.nd
  rw [List.map_append, List.map_cons] at n
  have n1 := List.nodup_append.mp n
  have n2 := List.nodup_cons.mp n1.2.1
  have ha : ∀ c ∈ L ++ R, c.1 ≠ a := fun c hc q => by
    rcases List.mem_append.mp hc with hc | hc
    · exact n1.2.2 _ (List.mem_map.mpr ⟨c, hc, rfl⟩) _ (List.mem_cons_self ..) q
    · exact n2.1 (List.mem_map.mpr ⟨c, hc, q⟩)
  have hm : ∀ c ∈ L ++ (a, o') :: R, c = (a, o') ∨ c ∈ L ++ R := fun c hc => by
    rcases List.mem_append.mp hc with hc | hc
    · exact .inr (List.mem_append_left _ hc)
    · rcases List.mem_cons.mp hc with hc | hc
      · exact .inl hc
      · exact .inr (List.mem_append_right _ hc)
  have hi : ∀ c ∈ L ++ R, c ∈ L ++ (a, o) :: R := fun c hc => by
    rcases List.mem_append.mp hc with hc | hc
    · exact List.mem_append_left _ hc
    · exact List.mem_append_right _ (List.mem_cons_of_mem _ hc)
  have h0 : B a = none := w.out (a, o) (List.mem_append_right _ (List.mem_cons_self ..))
  refine ⟨fun b u e => ?_, fun c hc => ?_, ?_, fun c hc => ?_⟩
  · rw [upd_ne (ne_of_none e h0)]; exact w.sub _ _ e
  · rcases hm c hc with rfl | hc
    · exact upd_same
    · rw [upd_ne (ha c hc)]; exact w.has c (hi c hc)
  · rw [List.map_append, List.map_cons]; exact n
  · rcases hm c hc with rfl | hc
    · exact h0
    · exact w.out c (hi c hc)
theorem put0 (w : W B ((a, o) :: R) H) (o' : HO) : W B ((a, o') :: R) (upd H a o') := put (L := []) w o'
theorem put1 {c1 : Cell} (w : W B (c1 :: (a, o) :: R) H) (o' : HO) : W B (c1 :: (a, o') :: R) (upd H a o') := put (L := [c1]) w o'
theorem put2 {c1 c2 : Cell} (w : W B (c1 :: c2 :: (a, o) :: R) H) (o' : HO) : W B (c1 :: c2 :: (a, o') :: R) (upd H a o') := put (L := [c1, c2]) w o'
theorem put3 {c1 c2 c3 : Cell} (w : W B (c1 :: c2 :: c3 :: (a, o) :: R) H) (o' : HO) : W B (c1 :: c2 :: c3 :: (a, o') :: R) (upd H a o') := put (L := [c1, c2, c3]) w o'
theorem seq {K : PySem.W.Frag} {xs : List V} (w : W B L H) (h : SqL K B a xs) : SqL K H a xs := Same.seq w.sub h
theorem rd (w : W B L H) (h : B a = some o) : H a = some o := w.sub _ _ h
theorem sq {K : PySem.W.Frag} {xs : List V} (w : W B L H) (h : SqL K B a xs) : SqL K H a xs := L2.Same.seq w.sub h
theorem tq {K : PySem.W.Frag} {xs : List V} (w : W B L H) (h : SqT K B a xs) : SqT K H a xs := Z.Same.tq w.sub h
theorem law {K : PySem.W.Frag} {a : Addr} {xs : List V} (h : SqL K H a xs) : ∃ B, SqL K B a xs ∧ W B [] H := ⟨H, h, ⟨same_refl H, by simp, by simp, by simp⟩⟩
theorem nil (H : Hp) : W H [] H := ⟨same_refl H, by simp, by simp, by simp⟩
end W
/-! ### readings, step by step -/
def Br (b : Bool) (A C : Prop) : Prop := if b = true then A else C
def rTst (x : V) (H : Hp) (Q : Bool → Hp → Prop) : Prop := ∃ k, x = .bl k ∧ Q k H
section
variable {K : PySem.W.Frag} {σ : L2.St} {H : Hp} {D : Ends} {t u tb : TS} {te ta tx tc : TE} {tt tu tw : TT} {Q : VK} {R : Bool → Hp → Prop} {v x y : V} {b : Bool} {A C : Prop} {i : Nat} {g : TG} {r r' : R2}
theorem g_seq (h : t { D with nx := u D } σ H) : tSeq t u D σ H := h
theorem g_next (h : D.nx σ H) : tNext D σ H := h
theorem g_brk (h : D.bk σ H) : tBreak D σ H := h
theorem g_cont (h : D.ct σ H) : tCont D σ H := h
theorem g_asg (h : te σ H fun x H1 => g x σ H1 D.nx) : tAsg te g D σ H := h
theorem g_name {Q : L2.St → Hp → Prop} (h : Q (σ.set i (some v)) H) : gName i v σ H Q := h
theorem g_dropE (h : te σ H fun _ H1 => D.nx σ H1) : tDrop te D σ H := h
theorem g_ret (h : te σ H D.rt) : tRet te D σ H := h
theorem g_retN (h : D.rt .non H) : tRetN D σ H := h
theorem g_ifS (h : tt σ H fun b H1 => Br b (t D σ H1) (u D σ H1)) : tIfS tt t u D σ H := h
theorem g_ifJ (J : L2.St → Hp → Prop) (hJ : ∀ σ' H', J σ' H' → D.nx σ' H') (h : ∀ N : L2.St → Hp → Prop, (∀ σ' H', J σ' H' → N σ' H') → tt σ H fun b H1 => Br b (t { D with nx := N } σ H1) (u { D with nx := N } σ H1)) : tIfS tt t u D σ H := h D.nx hJ
theorem g_test (h : te σ H fun x H1 => rTst x H1 R) : tTest te σ H R := h
theorem g_tB (h : te σ H fun x H1 => rTst x H1 R) : tB te σ H R := h
theorem g_tst (h : R b H) : rTst (.bl b) H R := ⟨b, rfl, h⟩
theorem g_and (h : tt σ H fun b H1 => Br b (tu σ H1 R) (R false H1)) : tAnd tt tu σ H R := h
theorem g_or (h : tt σ H fun b H1 => Br b (R true H1) (tu σ H1 R)) : tOr tt tu σ H R := h
theorem g_not (h : tt σ H fun b H1 => R (!b) H1) : tNot tt σ H R := h
theorem g_andV (h : te σ H fun x H1 => rTst x H1 fun b H1 => Br b (tx σ H1 Q) (Q (.bl false) H1)) : tAndV te tx σ H Q := h
theorem g_orV (h : te σ H fun x H1 => rTst x H1 fun b H1 => Br b (Q (.bl true) H1) (tx σ H1 Q)) : tOrV te tx σ H Q := h
theorem g_notV (h : te σ H fun x H1 => rTst x H1 fun b H1 => Q (.bl (!b)) H1) : tNotV te σ H Q := h
theorem g_if (h : tt σ H fun b H1 => Br b (te σ H1 Q) (tx σ H1 Q)) : tIf tt te tx σ H Q := h
theorem g_yes (h : R true H) : tYes σ H R := h
theorem g_var (e : σ[i]? = some (some v)) (h : Q v H) : tVar i σ H Q := ⟨v, e, h⟩
theorem g_c (h : Q v H) : tC v σ H Q := h
theorem g_op (h : ta σ H fun x H1 => tx σ H1 fun y H2 => r x y H2 Q) : tOp r ta tx σ H Q := h
theorem g_un {r : V → Hp → VK → Prop} (h : ta σ H fun x H1 => r x H1 Q) : tUn r ta σ H Q := h
theorem g_chain (h : ta σ H fun x H1 => tx σ H1 fun y H2 => r x y H2 fun z H3 => rTst z H3 fun k H4 => Br k (tc σ H4 fun w' H4 => r' y w' H4 Q) (Q (.bl false) H4)) : tChain r r' ta tx tc σ H Q := h
theorem g_cb {r : List V → Hp → VK → Prop} {t : TA} (h : t σ H fun vs H1 => r vs H1 Q) : tCB r t σ H Q := h
theorem g_nil {Q : List V → Hp → Prop} (h : Q [] H) : tNil σ H Q := h
theorem g_cons {tr : TA} {Q : List V → Hp → Prop} (h : te σ H fun x H1 => tr σ H1 fun xs H2 => Q (x :: xs) H2) : tCons te tr σ H Q := h
theorem g_call {sp : Sp} {dvs : List V} {E : XK} {t : TA} (h : t σ H fun vs H1 => sp (vs ++ dvs) H1 Q E) : tCall sp dvs E t σ H Q := h
theorem g_aug {ti : TIp} (e : σ[i]? = some (some v)) (h : te σ H fun y H1 => ti v y H1 fun z H2 => D.nx (σ.set i (some z)) H2) : tAug i te ti D σ H := ⟨v, e, h⟩
theorem g_ip {f : Int → Int → Int} {m n : Int} (h : Q (.int (f m n)) H) : ipI f (.int m) (.int n) H Q := ⟨m, n, rfl, rfl, h⟩
theorem r_I {Cc : Int → Int → Prop} {gg : Int → Int → V} {m n : Int} (c : Cc m n) (h : Q (gg m n) H) : rI Cc gg (.int m) (.int n) H Q := ⟨m, n, rfl, rfl, c, h⟩
theorem r_I0 {gg : Int → Int → V} {m n : Int} (h : Q (gg m n) H) : rI0 gg (.int m) (.int n) H Q := ⟨m, n, rfl, rfl, h⟩
theorem r_U {gg : Int → V} {m : Int} (h : Q (gg m) H) : rU gg (.int m) H Q := ⟨m, rfl, h⟩
theorem dec_ii {m n : Int} : decide (V.int m = V.int n) = decide (m = n) := by simp
theorem dec_bb {m n : Bool} : decide (V.bl m = V.bl n) = decide (m = n) := by simp
theorem dec_ss {m n : Str} : decide (V.str m = V.str n) = decide (m = n) := by simp
theorem r_eqI {m n : Int} (h : Q (.bl (decide (m = n))) H) : rEq (.int m) (.int n) H Q := ⟨rfl, by rw [dec_ii]; exact h⟩
theorem r_neI {m n : Int} (h : Q (.bl (!decide (m = n))) H) : rNe (.int m) (.int n) H Q := ⟨rfl, by rw [dec_ii]; exact h⟩
theorem r_eqB {m n : Bool} (h : Q (.bl (decide (m = n))) H) : rEq (.bl m) (.bl n) H Q := ⟨rfl, by rw [dec_bb]; exact h⟩
theorem r_neB {m n : Bool} (h : Q (.bl (!decide (m = n))) H) : rNe (.bl m) (.bl n) H Q := ⟨rfl, by rw [dec_bb]; exact h⟩
theorem r_eqS {m n : Str} (h : Q (.bl (decide (m = n))) H) : rEq (.str m) (.str n) H Q := ⟨rfl, by rw [dec_ss]; exact h⟩
theorem r_neS {m n : Str} (h : Q (.bl (!decide (m = n))) H) : rNe (.str m) (.str n) H Q := ⟨rfl, by rw [dec_ss]; exact h⟩
def rTupN (Q : VK) (xs : List V) (H1 : Hp) : Prop := xs.length ≤ sizeLine ∧ ∀ p, H1 p = none → Q (.ref p) (upd H1 p (.tup xs))
def rLstN (Q : VK) (xs : List V) (H1 : Hp) : Prop := xs.length ≤ sizeLine ∧ ∀ p, H1 p = none → Q (.ref p) (upd H1 p (.lst xs))
theorem r_isB {m n : Bool} (h : Q (.bl (decide (m = n))) H) : rIsB (.bl m) (.bl n) H Q := ⟨m, n, rfl, rfl, h⟩
theorem r_notB {m n : Bool} (h : Q (.bl (!decide (m = n))) H) : rNotB (.bl m) (.bl n) H Q := ⟨m, n, rfl, rfl, h⟩
theorem r_tup {ta : TA} (h : ta σ H (rTupN Q)) : tTup ta σ H Q := h
theorem r_lst {ta : TA} (h : ta σ H (rLstN Q)) : tLst ta σ H Q := h
/-! new things that stay -/
section
variable {B : Hp} {L : List Cell} {xs ys : List V}
theorem d_tup (w : W B L H) (hl : xs.length ≤ sizeLine) (q : ∀ p B' H', H p = none → Same B B' → B' p = some (.tup xs) → W B' L H' → Q (.ref p) H') : rTupN Q xs H :=
  ⟨hl, fun p hp => q p _ _ hp (same_new (w.freeB hp)) upd_same (w.newB hp _)⟩
theorem d_lst (w : W B L H) (hl : xs.length ≤ sizeLine) (q : ∀ p B' H', H p = none → Same B B' → B' p = some (.lst xs) → W B' L H' → Q (.ref p) H') : rLstN Q xs H :=
  ⟨hl, fun p hp => q p _ _ hp (same_new (w.freeB hp)) upd_same (w.newB hp _)⟩
theorem d_dnew (w : W B L H) (q : ∀ p B' H', H p = none → Same B B' → B' p = some (.dK []) → W B' L H' → Q (.ref p) H') : tDNewK σ H Q :=
  fun p hp => q p _ _ hp (same_new (w.freeB hp)) upd_same (w.newB hp _)
theorem d_cat {a b : Addr} (w : W B L H) (h1 : H a = some (.lst xs)) (h2 : H b = some (.lst ys)) (hl : xs.length + ys.length ≤ sizeLine)
    (q : ∀ p B' H', H p = none → Same B B' → B' p = some (.lst (xs ++ ys)) → W B' L H' → Q (.ref p) H') : rCat (.ref a) (.ref b) H Q :=
  ⟨a, b, xs, ys, rfl, rfl, h1, h2, hl, fun p hp => q p _ _ hp (same_new (w.freeB hp)) upd_same (w.newB hp _)⟩
theorem d_slL {a : Addr} {lo hi : Option Int} (w : W B L H) (h : SqL K H a xs) (q : ∀ p B' H', H p = none → Same B B' → B' p = some (.lst (cutV xs lo hi)) → W B' L H' → Q (.ref p) H') : rSlL K (.ref a) lo hi H Q :=
  ⟨a, xs, rfl, h, fun p hp => q p _ _ hp (same_new (w.freeB hp)) upd_same (w.newB hp _)⟩
/-! new things that are owned -/
theorem o_lst (w : W B L H) (hl : xs.length ≤ sizeLine) (q : ∀ p H', H p = none → W B ((p, .lst xs) :: L) H' → Q (.ref p) H') : rLstN Q xs H :=
  ⟨hl, fun p hp => q p _ hp (w.newL hp _)⟩
theorem o_dnew (w : W B L H) (q : ∀ p H', H p = none → W B ((p, .dK []) :: L) H' → Q (.ref p) H') : tDNewK σ H Q :=
  fun p hp => q p _ hp (w.newL hp _)
end
section
variable {r1 r2 r3 r4 : R2} {t1 t2 t3 t4 t5 : TE}
end
/-! branches -/
theorem br {p : Prop} [Decidable p] (h1 : p → A) (h2 : ¬ p → C) : Br (decide p) A C := by
  unfold Br
  by_cases h : p
  · rw [if_pos (decide_eq_true h)]; exact h1 h
  · rw [if_neg (by simp [h])]; exact h2 h
theorem brN {p : Prop} [Decidable p] (h1 : ¬ p → A) (h2 : p → C) : Br (!decide p) A C := by
  unfold Br
  by_cases h : p
  · rw [if_neg (by simp [h])]; exact h2 h
  · rw [if_pos (by simp [h])]; exact h1 h
theorem br_pt {p : Prop} [Decidable p] (c : p) (h : A) : Br (decide p) A C := br (fun _ => h) fun n => (n c).elim
theorem br_pf {p : Prop} [Decidable p] (c : ¬ p) (h : C) : Br (decide p) A C := br (fun n => (c n).elim) fun _ => h
theorem br_nt {p : Prop} [Decidable p] (c : ¬ p) (h : A) : Br (!decide p) A C := brN (fun _ => h) fun n => (c n).elim
theorem br_nf {p : Prop} [Decidable p] (c : p) (h : C) : Br (!decide p) A C := brN (fun n => (n c).elim) fun _ => h
theorem brB (h1 : b = true → A) (h2 : b = false → C) : Br b A C := by
  unfold Br
  cases b
  · rw [if_neg (by simp)]; exact h2 rfl
  · rw [if_pos rfl]; exact h1 rfl
theorem brBN (h1 : b = false → A) (h2 : b = true → C) : Br (!b) A C := by
  cases b
  · exact brB (fun _ => h1 rfl) (fun z => nomatch z)
  · exact brB (fun z => nomatch z) (fun _ => h2 rfl)
theorem brT (h : A) : Br true A C := by unfold Br; rw [if_pos rfl]; exact h
theorem brF (h : C) : Br false A C := by unfold Br; rw [if_neg (by simp)]; exact h
theorem br_rn {p : Addr} (h : C) : Br (decide (V.ref p = V.non)) A C := br_pf nofun h
theorem br_in {n : Int} (h : C) : Br (decide (V.int n = V.non)) A C := br_pf nofun h
theorem br_sn {n : Str} (h : C) : Br (decide (V.str n = V.non)) A C := br_pf nofun h
theorem br_nn (h : A) : Br (decide (V.non = V.non)) A C := br_pt rfl h
theorem brN_rn {p : Addr} (h : A) : Br (!decide (V.ref p = V.non)) A C := br_nt nofun h
theorem brN_in {n : Int} (h : A) : Br (!decide (V.int n = V.non)) A C := br_nt nofun h
theorem brN_sn {n : Str} (h : A) : Br (!decide (V.str n = V.non)) A C := br_nt nofun h
theorem brN_nn (h : C) : Br (!decide (V.non = V.non)) A C := br_nf rfl h
theorem brNT (h : C) : Br (!true) A C := brF h
theorem brNF (h : A) : Br (!false) A C := brT h
theorem br_t (e : b = true) (h : A) : Br b A C := by rw [e]; exact brT h
theorem br_f (e : b = false) (h : C) : Br b A C := by rw [e]; exact brF h
end
/-! ### loops, by the turn -/
def FOR (J : It) (g : TG) (tb : TS) (D : Ends) (σ : L2.St) (H1 : Hp) : Prop := ∃ W : Nat → Nat → L2.St → Hp → Prop, (∃ m, W 0 m σ H1) ∧ ∀ i m σ H, W i m σ H →
  (J.stop i H ∧ D.nx σ H) ∨ (J.go i H ∧ ∃ N : L2.St → Hp → Prop, (∀ σ' H', N σ' H' → ∃ m', m' < m ∧ W (i + 1) m' σ' H') ∧ ∀ x H', J.yld i H x H' → g x σ H' fun σ2 H2 => tb { D with nx := N, ct := N, bk := D.nx } σ2 H2)
section
variable {K : PySem.W.Frag} {σ : L2.St} {H : Hp} {D : Ends} {tb : TS} {g : TG} {wi : TI} {R : It → Hp → Prop}
theorem g_for (h : wi σ H fun J H1 => FOR J g tb D σ H1) : tFor wi g tb D σ H := h
def rRng1 (R : It → Hp → Prop) (vs : List V) (H1 : Hp) : Prop := ∃ j : Int, vs = [.int j] ∧ -(2 ^ 62) ≤ j ∧ j < 2 ^ 62 ∧ R (Itr 0 j.toNat) H1
def rRng2 (R : It → Hp → Prop) (vs : List V) (H1 : Hp) : Prop := ∃ i j : Int, vs = [.int i, .int j] ∧ (-(2 ^ 62) ≤ i ∧ i < 2 ^ 62 ∧ -(2 ^ 62) ≤ j ∧ j < 2 ^ 62) ∧ R (Itr i (j - i).toNat) H1
def rIl (K : PySem.W.Frag) (R : It → Hp → Prop) (x : V) (H1 : Hp) : Prop := ∃ a, x = .ref a ∧ (∃ xs, SqL K H1 a xs) ∧ R (Itl K a) H1
def rIt (K : PySem.W.Frag) (R : It → Hp → Prop) (x : V) (H1 : Hp) : Prop := ∃ a, x = .ref a ∧ (∃ xs, SqT K H1 a xs) ∧ R (Itt K a) H1
theorem g_rng1 {ta : TA} (h : ta σ H (rRng1 R)) : iRng1 ta σ H R := h
theorem g_rng2 {ta : TA} (h : ta σ H (rRng2 R)) : iRng2 ta σ H R := h
theorem g_ilist {tl : TE} (h : tl σ H (rIl K R)) : iList K tl σ H R := h
theorem g_itup {tl : TE} (h : tl σ H (rIt K R)) : iTup K tl σ H R := h
theorem r_rng1 {m : Int} (h : -(2 ^ 62) ≤ m ∧ m < 2 ^ 62) (q : R (Itr 0 m.toNat) H) : rRng1 R [.int m] H := ⟨m, rfl, h.1, h.2, q⟩
theorem r_rng2 {i j : Int} (h : -(2 ^ 62) ≤ i ∧ i < 2 ^ 62 ∧ -(2 ^ 62) ≤ j ∧ j < 2 ^ 62) (q : R (Itr i (j - i).toNat) H) : rRng2 R [.int i, .int j] H := ⟨i, j, rfl, h, q⟩
theorem r_il {a : Addr} {xs : List V} (h : SqL K H a xs) (q : R (Itl K a) H) : rIl K R (.ref a) H := ⟨a, rfl, ⟨xs, h⟩, q⟩
theorem r_it {a : Addr} {xs : List V} (h : SqT K H a xs) (q : R (Itt K a) H) : rIt K R (.ref a) H := ⟨a, rfl, ⟨xs, h⟩, q⟩
/-- a loop over lo, lo + 1, .. -/
theorem FOR.range {lo : Int} {n : Nat} (Pv : Nat → L2.St → Hp → Prop) (h0 : Pv 0 σ H)
    (hs : ∀ i σ H, i < n → Pv i σ H → g (.int (lo + i)) σ H fun σ2 H2 => tb { D with nx := Pv (i + 1), ct := Pv (i + 1), bk := D.nx } σ2 H2) (hd : ∀ σ H, Pv n σ H → D.nx σ H) : FOR (Itr lo n) g tb D σ H :=
  for_range Pv h0 hs hd
theorem FOR.list {a : Addr} {xs : List V} (Pv : Nat → L2.St → Hp → Prop) (h0 : Pv 0 σ H) (hl : ∀ i σ H, i ≤ xs.length → Pv i σ H → SqL K H a xs)
    (hs : ∀ i x σ H, xs[i]? = some x → Pv i σ H → g x σ H fun σ2 H2 => tb { D with nx := Pv (i + 1), ct := Pv (i + 1), bk := D.nx } σ2 H2) (hd : ∀ σ H, Pv xs.length σ H → D.nx σ H) : FOR (Itl K a) g tb D σ H :=
  for_list Pv h0 hl hs hd
/-- .. both ways out (the end, a break) by one word J -/
theorem FOR.listJ {a : Addr} {xs : List V} (J : L2.St → Hp → Prop) (hJ : ∀ σ H, J σ H → D.nx σ H) (Pv : Nat → L2.St → Hp → Prop) (h0 : Pv 0 σ H) (hl : ∀ i σ H, i ≤ xs.length → Pv i σ H → SqL K H a xs)
    (hs : ∀ N : L2.St → Hp → Prop, (∀ σ' H', J σ' H' → N σ' H') → ∀ i x σ H, xs[i]? = some x → Pv i σ H → g x σ H fun σ2 H2 => tb { D with nx := Pv (i + 1), ct := Pv (i + 1), bk := N } σ2 H2) (hd : ∀ σ H, Pv xs.length σ H → J σ H) : FOR (Itl K a) g tb D σ H :=
  FOR.list (K := K) Pv h0 hl (hs D.nx hJ) fun σ H p => hJ _ _ (hd σ H p)
theorem FOR.tup {a : Addr} {xs : List V} (Pv : Nat → L2.St → Hp → Prop) (h0 : Pv 0 σ H) (hl : ∀ i σ H, i ≤ xs.length → Pv i σ H → SqT K H a xs)
    (hs : ∀ i x σ H, xs[i]? = some x → Pv i σ H → g x σ H fun σ2 H2 => tb { D with nx := Pv (i + 1), ct := Pv (i + 1), bk := D.nx } σ2 H2) (hd : ∀ σ H, Pv xs.length σ H → D.nx σ H) : FOR (Itt K a) g tb D σ H :=
  for_tup Pv h0 hl hs hd
end
def LC (J : It) (D : Addr) (g : TG) (tt : TT) (te : TE) (vs : List Nat) (σ : L2.St) (H1 : Hp) (Q : VK) : Prop := ∃ W : Nat → Nat → Hp → Prop, (∃ m, W 0 m (upd H1 D (.lst []))) ∧ ∀ i m H, W i m H →
  (J.stop i H ∧ Q (.ref D) H) ∨ (J.go i H ∧ ∃ Nx : Hp → Prop, (∀ H', Nx H' → ∃ m', m' < m ∧ W (i + 1) m' H') ∧ ∀ x H', J.yld i H x H' → g x (wipe σ vs) H' fun σ2 H2 => wipe σ2 vs = wipe σ vs ∧ tt σ2 H2 fun b H3 =>
    if b = true then te σ2 H3 fun y H4 => ∃ acc, H4 D = some (.lst acc) ∧ acc.length < sizeLine ∧ Nx (upd H4 D (.lst (acc ++ [y]))) else Nx H3)
/-- what an element's making asks: the items so far stand at D, one more comes -/
def rAcc (D : Addr) (Nx : Hp → Prop) (y : V) (H4 : Hp) : Prop := ∃ acc, H4 D = some (.lst acc) ∧ acc.length < sizeLine ∧ Nx (upd H4 D (.lst (acc ++ [y])))
theorem g_lc {wi : TI} {g : TG} {tt : TT} {te : TE} {vs : List Nat} {σ : L2.St} {H : Hp} {Q : VK} (h : wi σ H fun J H1 => ∀ D, H1 D = none → LC J D g tt te vs σ H1 Q) : tLc wi g tt te vs σ H Q := h
section
variable {K : PySem.W.Frag} {B H H1 : Hp} {L : List Cell} {D : Addr} {Q : VK} {g : TG} {tt : TT} {te : TE} {vs : List Nat} {σ : L2.St} {acc : List V} {y : V} {Nx : Hp → Prop}
theorem r_acc (w : W B ((D, .lst acc) :: L) H) (hl : acc.length < sizeLine) (h : ∀ H', W B ((D, .lst (acc ++ [y])) :: L) H' → Nx H') : rAcc D Nx y H :=
  ⟨acc, w.has _ (List.mem_cons_self ..), hl, h _ (w.put0 _)⟩
/-- a comprehension over a list of what stays: Pv i B acc, what the first i items have given -/
theorem LC.list {a : Addr} {xs : List V} (w : W B L H1) (hD : H1 D = none) (hx : SqL K B a xs) (hlen : xs.length < sizeLine) (Pv : Nat → Hp → List V → Prop) (h0 : Pv 0 B [])
    (hs : ∀ i x B' acc H (Nx : Hp → Prop), xs[i]? = some x → Same B B' → W B' ((D, .lst acc) :: L) H → Pv i B' acc → acc.length ≤ i → acc.length < sizeLine →
      (∀ B'' acc' H', Same B' B'' → W B'' ((D, .lst acc') :: L) H' → Pv (i + 1) B'' acc' → acc'.length ≤ i + 1 → Nx H') →
      g x (wipe σ vs) H fun σ2 H2 => wipe σ2 vs = wipe σ vs ∧ tt σ2 H2 fun b H3 => Br b (te σ2 H3 (rAcc D Nx)) (Nx H3))
    (hd : ∀ B' B'' acc H, Same B B'' → Same' B' B'' → B'' D = some (.lst acc) → W B'' L H → Pv xs.length B' acc → acc.length ≤ xs.length → Q (.ref D) H) : LC (Itl K a) D g tt te vs σ H1 Q := by
  refine lc_list (K := K) (a := a) (xs := xs) (fun i H => ∃ B' acc, Same B B' ∧ W B' ((D, .lst acc) :: L) H ∧ Pv i B' acc ∧ acc.length ≤ i) ⟨B, [], same_refl B, w.newL hD _, h0, Nat.le_refl _⟩
    (fun i H _ ⟨B', acc, s, w', _⟩ => Same.seq (same_trans s w'.sub) hx) ?_ (fun H ⟨B', acc, s, w', p, l⟩ => hd B' _ acc H (same_trans s (same_new (w'.out _ (List.mem_cons_self ..)))) (same_new (w'.out _ (List.mem_cons_self ..))) upd_same w'.give p l)
  rintro i x H hi ⟨B', acc, s, w', p, l⟩
  have hil := (List.getElem?_eq_some_iff.mp hi).1
  exact hs i x B' acc H _ hi s w' p l (by omega) fun B'' acc' H' s' w'' p' l' => ⟨B'', acc', same_trans s s', w'', p', l'⟩
theorem LC.range {lo : Int} {n : Nat} (w : W B L H1) (hD : H1 D = none) (hlen : n < sizeLine) (Pv : Nat → Hp → List V → Prop) (h0 : Pv 0 B [])
    (hs : ∀ (i : Nat) B' acc H (Nx : Hp → Prop), i < n → Same B B' → W B' ((D, .lst acc) :: L) H → Pv i B' acc → acc.length ≤ i → acc.length < sizeLine →
      (∀ B'' acc' H', Same B' B'' → W B'' ((D, .lst acc') :: L) H' → Pv (i + 1) B'' acc' → acc'.length ≤ i + 1 → Nx H') →
      g (.int (lo + i)) (wipe σ vs) H fun σ2 H2 => wipe σ2 vs = wipe σ vs ∧ tt σ2 H2 fun b H3 => Br b (te σ2 H3 (rAcc D Nx)) (Nx H3))
    (hd : ∀ B' B'' acc H, Same B B'' → Same' B' B'' → B'' D = some (.lst acc) → W B'' L H → Pv n B' acc → acc.length ≤ n → Q (.ref D) H) : LC (Itr lo n) D g tt te vs σ H1 Q := by
  refine lc_range (lo := lo) (n := n) (fun i H => ∃ B' acc, Same B B' ∧ W B' ((D, .lst acc) :: L) H ∧ Pv i B' acc ∧ acc.length ≤ i) ⟨B, [], same_refl B, w.newL hD _, h0, Nat.le_refl _⟩
    ?_ (fun H ⟨B', acc, s, w', p, l⟩ => hd B' _ acc H (same_trans s (same_new (w'.out _ (List.mem_cons_self ..)))) (same_new (w'.out _ (List.mem_cons_self ..))) upd_same w'.give p l)
  rintro i H hi ⟨B', acc, s, w', p, l⟩
  exact hs i B' acc H _ hi s w' p l (by omega) fun B'' acc' H' s' w'' p' l' => ⟨B'', acc', same_trans s s', w'', p', l'⟩
end
section
variable {K : PySem.W.Frag} {B H H1 : Hp} {L : List Cell} {D : Addr} {Q : VK} {g : TG} {tt : TT} {te : TE} {vs : List Nat} {σ : L2.St} {acc : List V} {y : V} {Nx : Hp → Prop}
/-- a comprehension over a list, owned or not; what it makes may be owned, too (A) -/
theorem LC.listA {a : Addr} {xs : List V} (w : W B L H1) (hD : H1 D = none) (hx : ∀ B' A acc H, Same B B' → W B' ((D, .lst acc) :: (A ++ L)) H → SqL K H a xs) (hlen : xs.length < sizeLine) (Pv : Nat → Hp → List Cell → List V → Prop) (h0 : Pv 0 B [] [])
    (hs : ∀ i x B' A acc H (Nx : Hp → Prop), xs[i]? = some x → Same B B' → W B' ((D, .lst acc) :: (A ++ L)) H → Pv i B' A acc → acc.length ≤ i → acc.length < sizeLine →
      (∀ B'' A' acc' H', Same B' B'' → W B'' ((D, .lst acc') :: (A' ++ L)) H' → Pv (i + 1) B'' A' acc' → acc'.length ≤ i + 1 → Nx H') →
      g x (wipe σ vs) H fun σ2 H2 => wipe σ2 vs = wipe σ vs ∧ tt σ2 H2 fun b H3 => Br b (te σ2 H3 (rAcc D Nx)) (Nx H3))
    (hd : ∀ B' A acc H, Same B B' → W B' ((D, .lst acc) :: (A ++ L)) H → Pv xs.length B' A acc → acc.length ≤ xs.length → Q (.ref D) H) : LC (Itl K a) D g tt te vs σ H1 Q := by
  refine lc_list (K := K) (a := a) (xs := xs) (fun i H => ∃ B' A acc, Same B B' ∧ W B' ((D, .lst acc) :: (A ++ L)) H ∧ Pv i B' A acc ∧ acc.length ≤ i) ⟨B, [], [], same_refl B, w.newL hD _, h0, Nat.le_refl _⟩
    (fun i H _ ⟨B', A, acc, s, w', _⟩ => hx B' A acc H s w') ?_ (fun H ⟨B', A, acc, s, w', p, l⟩ => hd B' A acc H s w' p l)
  rintro i x H hi ⟨B', A, acc, s, w', p, l⟩
  have hil := (List.getElem?_eq_some_iff.mp hi).1
  exact hs i x B' A acc H _ hi s w' p l (by omega) fun B'' A' acc' H' s' w'' p' l' => ⟨B'', A', acc', same_trans s s', w'', p', l'⟩
end
/-! ### slices, subscripts -/
def rPart (Q : Option Int → Hp → Prop) (x : V) (H : Hp) : Prop := ∃ i, x = .int i ∧ Q (some i) H
section
variable {K : PySem.W.Frag} {σ : L2.St} {H : Hp} {Q : VK} {te : TE} {tl th : TO}
theorem g_sl {r : V → Option Int → Option Int → Hp → VK → Prop} (h : te σ H fun x H1 => tl σ H1 fun l H2 => th σ H2 fun u H3 => r x l u H3 Q) : tSl r te tl th σ H Q := h
theorem g_nopart {Q : Option Int → Hp → Prop} (h : Q none H) : tNoPart σ H Q := h
theorem g_part {Q : Option Int → Hp → Prop} (h : te σ H (rPart Q)) : tPart te σ H Q := h
theorem r_part {Q : Option Int → Hp → Prop} {i : Int} (h : Q (some i) H) : rPart Q (.int i) H := ⟨i, rfl, h⟩
theorem r_slL {a : Addr} {xs : List V} {lo hi : Option Int} (h : SqL K H a xs) (q : ∀ p, H p = none → Q (.ref p) (upd H p (.lst (cutV xs lo hi)))) : rSlL K (.ref a) lo hi H Q := ⟨a, xs, rfl, h, q⟩
def cutI (ns : List Int) (lo hi : Option Int) : List Int := (ns.drop (HT.sIx ns.length 0 lo)).take (HT.sIx ns.length ns.length hi - HT.sIx ns.length 0 lo)
theorem cutV_int (ns : List Int) (lo hi : Option Int) : cutV (ns.map V.int) lo hi = (cutI ns lo hi).map V.int := by
  unfold cutV cutI
  rw [List.length_map, List.map_take, List.map_drop]
theorem cutI_len (ns : List Int) (lo hi : Option Int) : (cutI ns lo hi).length ≤ ns.length := by
  unfold cutI
  rw [List.length_take, List.length_drop]
  omega
theorem cutI_take (ns : List Int) (k : Nat) : cutI ns none (some (k : Int)) = ns.take k := by
  unfold cutI
  simp only [HT.sIx]
  rw [if_neg (by omega)]
  simp
theorem cutI_drop (ns : List Int) (k : Nat) : cutI ns (some (k : Int)) none = ns.drop k := by
  unfold cutI
  simp only [HT.sIx]
  rw [if_neg (by omega), Int.toNat_natCast]
  by_cases h : k ≤ ns.length
  · rw [Nat.min_eq_left h]
    exact List.take_of_length_le (by simp)
  · rw [List.drop_eq_nil_of_le (show ns.length ≤ k by omega)]
    simp
    omega
theorem r_ixL {a : Addr} {xs : List V} {i : Int} {v : V} (h : SqL K H a xs) (e : atI xs i = some v) (q : Q v H) : rIxL K (.ref a) (.int i) H Q := ⟨a, xs, i, v, rfl, rfl, h, e, q⟩
theorem r_ixT {a : Addr} {xs : List V} {i : Int} {v : V} (h : SqT K H a xs) (e : atI xs i = some v) (q : Q v H) : rIxT K (.ref a) (.int i) H Q := ⟨a, xs, i, v, rfl, rfl, h, e, q⟩
theorem r_t0 {a : Addr} {xs : List V} {v : V} (h : SqT K H a (v :: xs)) (q : Q v H) : rIxT K (.ref a) (.int 0) H Q := by
  refine ⟨a, v :: xs, 0, v, rfl, rfl, h, ?_, q⟩
  unfold atI ixN
  rw [if_pos (by decide), if_pos (by simp only [List.length_cons]; omega)]
  rfl
theorem r_t1 {a : Addr} {xs : List V} {u v : V} (h : SqT K H a (u :: v :: xs)) (q : Q v H) : rIxT K (.ref a) (.int 1) H Q := by
  refine ⟨a, u :: v :: xs, 1, v, rfl, rfl, h, ?_, q⟩
  unfold atI ixN
  rw [if_pos (by decide), if_pos (by simp only [List.length_cons]; omega)]
  rfl
theorem r_t2 {a : Addr} {xs : List V} {u z v : V} (h : SqT K H a (u :: z :: v :: xs)) (q : Q v H) : rIxT K (.ref a) (.int 2) H Q := by
  refine ⟨a, u :: z :: v :: xs, 2, v, rfl, rfl, h, ?_, q⟩
  unfold atI ixN
  rw [if_pos (by decide), if_pos (by simp only [List.length_cons]; omega)]
  rfl
theorem getV {ns : List Int} {i : Nat} {x : V} (h : (ns.map V.int)[i]? = some x) : ∃ n, x = .int n ∧ ns[i]? = some n ∧ i < ns.length := by
  rw [List.getElem?_map] at h
  cases e : ns[i]? with
  | none => rw [e] at h; cases h
  | some n => rw [e] at h; exact ⟨n, (Option.some.inj h).symm, rfl, (List.getElem?_eq_some_iff.mp e).1⟩
end
/-! ### promises by the number of arguments -/
def Sp0 (φ : Hp → VK → XK → Prop) : Sp := fun vs H Q E => vs = [] ∧ φ H Q E
def Sp1 (φ : V → Hp → VK → XK → Prop) : Sp := fun vs H Q E => ∃ x, vs = [x] ∧ φ x H Q E
def Sp2 (φ : V → V → Hp → VK → XK → Prop) : Sp := fun vs H Q E => ∃ x y, vs = [x, y] ∧ φ x y H Q E
def Sp3 (φ : V → V → V → Hp → VK → XK → Prop) : Sp := fun vs H Q E => ∃ x y z, vs = [x, y, z] ∧ φ x y z H Q E
def Sp4 (φ : V → V → V → V → Hp → VK → XK → Prop) : Sp := fun vs H Q E => ∃ x y z u, vs = [x, y, z, u] ∧ φ x y z u H Q E
def Sp5 (φ : V → V → V → V → V → Hp → VK → XK → Prop) : Sp := fun vs H Q E => ∃ x y z u v, vs = [x, y, z, u, v] ∧ φ x y z u v H Q E
section
variable {vs : List V} {H : Hp} {Q : VK} {E : XK}
theorem sp0_len {φ} (h : Sp0 φ vs H Q E) : vs.length = 0 := by obtain ⟨rfl, _⟩ := h; rfl
theorem sp1_len {φ} (h : Sp1 φ vs H Q E) : vs.length = 1 := by obtain ⟨x, rfl, _⟩ := h; rfl
theorem sp2_len {φ} (h : Sp2 φ vs H Q E) : vs.length = 2 := by obtain ⟨x, y, rfl, _⟩ := h; rfl
theorem sp3_len {φ} (h : Sp3 φ vs H Q E) : vs.length = 3 := by obtain ⟨x, y, z, rfl, _⟩ := h; rfl
theorem sp4_len {φ} (h : Sp4 φ vs H Q E) : vs.length = 4 := by obtain ⟨x, y, z, u, rfl, _⟩ := h; rfl
theorem sp5_len {φ} (h : Sp5 φ vs H Q E) : vs.length = 5 := by obtain ⟨x, y, z, u, v, rfl, _⟩ := h; rfl
end
/-- a law's own promise -/
def spEnd (K : PySem.W.Frag) : Sp := Sp1 fun x H Q E => ∃ (a : Addr) (ns : List Int), x = .ref a ∧ SqL K H a (ns.map V.int) ∧ ns.length ≤ 63 ∧ ∀ H', Q (.bl true) H'
section
variable {P : Program} {w : World} {K : PySem.W.Frag} {mg : Str → Option Value} {base : Heap} {N : List Str} {qual : Str} {scope : Scope} {f : Addr} {cd : Value} {A : Around} {outer : List Env} {s : Shared} {H : Hp} {E : XK}
theorem pX : Passes (L2.CX P w) (cxOf (L2.CX P w) P w K mg base N qual scope f cd A outer s H E) E := passes_call (takes_of rfl rfl rfl rfl) fun _ _ _ _ h => h
theorem cx_false {l : List Env} {e : Value} {s' : Shared} (h : L2.CX P w l H s (fun _ _ _ => False) e s') : False := by
  obtain ⟨_, _, _, _, _, _, _, _, _, _, _, _, z⟩ := h
  exact z
theorem passF {X : Cx} : Passes (L2.CX P w) X (fun _ _ _ => False) := fun _ _ _ _ _ _ _ h => (cx_false h).elim
end
/-! ### union of two ways -/
theorem pe_either {X : Cx} {e : Expr} {t u : TE} (h1 : PE X e t) (h2 : PE X e u) : PE X e (fun σ H Q => t σ H Q ∨ u σ H Q) :=
  ⟨fun pins s σ H Q I h => h.elim (h1.run pins s σ H Q I) (h2.run pins s σ H Q I)⟩
/-! ### len, str, fields, methods, new instances, dicts: by names -/
def rLen (K : PySem.W.Frag) : List V → Hp → VK → Prop := fun xs H Q => ∃ p ys, xs = [.ref p] ∧ (SqL K H p ys ∨ SqT K H p ys) ∧ Q (.int ys.length) H
theorem call_lenZ {X : Cx} : CallR X (.builtin "len") (rLen X.K) := call_len_seq
def rLenStr : List V → Hp → VK → Prop := fun xs H Q => ∃ z, xs = [.str z] ∧ z.length ≤ sizeLine ∧ Q (.int z.length) H
theorem call_lenS {X : Cx} : CallR X (.builtin "len") rLenStr := call_len_str
def rLenDi : List V → Hp → VK → Prop := fun xs H Q => ∃ a kvs, xs = [V.ref a] ∧ H a = some (.dK kvs) ∧ Q (.int kvs.length) H
theorem call_lenDi {X : Cx} : CallR X (.builtin "len") rLenDi := call_lenD
def rStrI : List V → Hp → VK → Prop := fun xs H Q => ∃ i, xs = [.int i] ∧ i.natAbs.log2 < 1920 ∧ Q (.str (toString i)) H
theorem call_strI {X : Cx} : CallR X (.type "str") rStrI := call_str_int
def rIsNo : R2 := fun x y H Q => y = .non ∧ Q (.bl (decide (x = .non))) H
def rNotNo : R2 := fun x y H Q => y = .non ∧ Q (.bl (!decide (x = .non))) H
theorem op_isNo {X : Cx} : OpR X (compareOp .Is) rIsNo := op_isN
theorem op_notNo {X : Cx} : OpR X (compareOp .IsNot) rNotNo := op_notN
def rAddS : R2 := fun x y H Q => ∃ i j, x = .str i ∧ y = .str j ∧ i.length + j.length ≤ sizeLine ∧ Q (.str (i ++ j)) H
theorem op_addS {X : Cx} : OpR X (binaryOp .Add) rAddS := op_add_str
def rListOf (K : PySem.W.Frag) : List V → Hp → VK → Prop := fun xs H Q => ∃ p ys, xs = [.ref p] ∧ (SqL K H p ys ∨ SqT K H p ys) ∧ ∀ l, H l = none → Q (.ref l) (upd H l (.lst ys))
theorem call_listOf {X : Cx} : CallR X (.type "list") (rListOf X.K) := call_list_of
def rFldN (K : PySem.W.Frag) (f : Str) (Q : VK) (x : V) (H1 : Hp) : Prop := ∃ a C dx fs v, x = .ref a ∧ H1 a = some (.ins C dx fs) ∧ Cls K C ∧ NoAttr K C f ∧ fs.lookup f = some v ∧ Q v H1
def rStF (K : PySem.W.Frag) (f : Str) (P : Hp → Prop) (y x : V) (H2 : Hp) : Prop := ∃ a C dx fs, x = .ref a ∧ H2 a = some (.ins C dx fs) ∧ Cls K C ∧ NoAttr K C f ∧ fs.length < 1000 ∧ P (upd H2 a (.ins C dx (putF f y fs)))
def rMe (C : Addr) (m : Str) (P : Prop) (x : V) (H1 : Hp) : Prop := ∃ a dx fs, x = .ref a ∧ H1 a = some (.ins C dx fs) ∧ fs.lookup m = none ∧ P
def rMk (C : Addr) (sp : Sp) (dvs : List V) (E : XK) (Q : VK) (vs : List V) (H1 : Hp) : Prop := ∀ x dx, H1 x = none → H1 dx = none → dx ≠ x → sp (.ref x :: (vs ++ dvs)) (upd (upd H1 dx (.own x)) x (.ins C dx [])) (fun v H2 => v = .non ∧ Q (.ref x) H2) E
def rDIn (Q : VK) (y x : V) (H2 : Hp) : Prop := ∃ a o, x = .ref a ∧ DGet H2 a y o ∧ Q (.bl o.isSome) H2
def rDNi (Q : VK) (y x : V) (H2 : Hp) : Prop := ∃ a o, x = .ref a ∧ DGet H2 a y o ∧ Q (.bl (!o.isSome)) H2
def rDGe (Q : VK) (x y : V) (H2 : Hp) : Prop := ∃ a v, x = .ref a ∧ DGet H2 a y (some v) ∧ Q v H2
def rDPu (P : Hp → Prop) (v x y : V) (H3 : Hp) : Prop := ∃ a H4, x = .ref a ∧ DPut H3 a y v H4 ∧ P H4
def rDPo (Q : VK) (x y : V) (H2 : Hp) : Prop := ∃ kvs k v, ∃ a, x = .ref a ∧ H2 a = some (.dK kvs) ∧ y = kV k ∧ valV kvs k = some v ∧ Q v (upd H2 a (.dK (dropK kvs k)))
section
variable {K : PySem.W.Frag} {σ : L2.St} {H : Hp} {Q : VK} {ta tb tv td ty : TE} {t : TA} {D : Ends} {f m : Str} {a p C dx : Addr} {fs : List (Str × V)} {v x y : V} {xs : List V} {sp : Sp} {dvs : List V} {E : XK} {P : Hp → Prop} {R : Prop} {i : Int} {z u : Str} {kvs : List (Key × V)} {n : Int}
theorem r_lenL (h : SqL K H p xs) (q : Q (.int xs.length) H) : rLen K [.ref p] H Q := ⟨p, xs, rfl, .inl h, q⟩
theorem r_lenT (h : SqT K H p xs) (q : Q (.int xs.length) H) : rLen K [.ref p] H Q := ⟨p, xs, rfl, .inr h, q⟩
theorem r_lenS (h : z.length ≤ sizeLine) (q : Q (.int z.length) H) : rLenStr [.str z] H Q := ⟨z, rfl, h, q⟩
theorem r_lenD (h : H p = some (.dK kvs)) (q : Q (.int kvs.length) H) : rLenDi [.ref p] H Q := ⟨p, kvs, rfl, h, q⟩
theorem r_strI (h : i.natAbs.log2 < 1920) (q : Q (.str (toString i)) H) : rStrI [.int i] H Q := ⟨i, rfl, h, q⟩
theorem r_isNo (q : Q (.bl (decide (x = .non))) H) : rIsNo x .non H Q := ⟨rfl, q⟩
theorem r_notNo (q : Q (.bl (!decide (x = .non))) H) : rNotNo x .non H Q := ⟨rfl, q⟩
theorem r_addS (h : z.length + u.length ≤ sizeLine) (q : Q (.str (z ++ u)) H) : rAddS (.str z) (.str u) H Q := ⟨z, u, rfl, rfl, h, q⟩
theorem r_listOf {B : Hp} {L : List Cell} (h : SqL K H p xs) (w : W B L H) (q : ∀ l H', W B ((l, .lst xs) :: L) H' → Q (.ref l) H') : rListOf K [.ref p] H Q := ⟨p, xs, rfl, .inl h, fun l hl => q l _ (w.newL hl _)⟩
theorem g_fld (h : ta σ H (rFldN K f Q)) : tFld K ta f σ H Q := h
theorem r_fld (h : H a = some (.ins C dx fs)) (c : Cls K C) (no : NoAttr K C f) (l : fs.lookup f = some v) (q : Q v H) : rFldN K f Q (.ref a) H := ⟨a, C, dx, fs, v, rfl, h, c, no, l, q⟩
theorem g_sfld (h : tv σ H fun y H1 => ta σ H1 (rStF K f (D.nx σ) y)) : sFld K ta tv f D σ H := h
theorem r_sfld (h : H a = some (.ins C dx fs)) (c : Cls K C) (no : NoAttr K C f) (l : fs.length < 1000) (q : P (upd H a (.ins C dx (putF f y fs)))) : rStF K f P y (.ref a) H := ⟨a, C, dx, fs, rfl, h, c, no, l, q⟩
theorem g_meth (h : ta σ H fun x H1 => rMe C m (t σ H1 fun vs H2 => sp (x :: (vs ++ dvs)) H2 Q E) x H1) : tMeth C m sp dvs E ta t σ H Q := h
theorem r_meth (h : H a = some (.ins C dx fs)) (l : fs.lookup m = none) (q : R) : rMe C m R (.ref a) H := ⟨a, dx, fs, rfl, h, l, q⟩
theorem g_make (h : t σ H (rMk C sp dvs E Q)) : tMake C sp dvs E t σ H Q := h
theorem g_din (h : ty σ H fun y H1 => td σ H1 (rDIn Q y)) : tDIn ty td σ H Q := h
theorem g_dni (h : ty σ H fun y H1 => td σ H1 (rDNi Q y)) : tDNotIn ty td σ H Q := h
theorem g_dge (h : td σ H fun x H1 => ty σ H1 (rDGe Q x)) : tDGet td ty σ H Q := h
theorem g_dpu (h : tv σ H fun v H1 => td σ H1 fun x H2 => ty σ H2 (rDPu (D.nx σ) v x)) : sDPut td ty tv D σ H := h
theorem r_din (h : H a = some (.dK kvs)) (q : Q (.bl (valV kvs (Sum.inl n)).isSome) H) : rDIn Q (.int n) (.ref a) H := ⟨a, _, rfl, DGet.k (k := Sum.inl n) h, q⟩
theorem r_dni (h : H a = some (.dK kvs)) (q : Q (.bl (!(valV kvs (Sum.inl n)).isSome)) H) : rDNi Q (.int n) (.ref a) H := ⟨a, _, rfl, DGet.k (k := Sum.inl n) h, q⟩
theorem r_dge (h : H a = some (.dK kvs)) (e : valV kvs (Sum.inl n) = some v) (q : Q v H) : rDGe Q (.ref a) (.int n) H := ⟨a, v, rfl, by have := DGet.k (k := Sum.inl n) h; rw [e] at this; exact this, q⟩
theorem r_dpu (h : H a = some (.dK kvs)) (l : kvs.length < sizeLine) (q : P (upd H a (.dK (putK kvs (Sum.inl n) v)))) : rDPu P v (.ref a) (.int n) H := ⟨a, _, rfl, DPut.k (k := Sum.inl n) h l, q⟩
end
/-! ### a list of numbers, by its place -/
theorem atI_nat' {xs : List V} {i : Int} (h0 : 0 ≤ i) (h1 : i < xs.length) : atI xs i = xs[i.toNat]? := by
  unfold atI ixN
  rw [if_pos h0, if_pos h1]
  rfl
theorem atI_ex {ns : List Int} {i : Int} (h0 : 0 ≤ i) (h1 : i < ns.length) : ∃ v, v ∈ ns ∧ atI (ns.map V.int) i = some (.int v) := by
  have hl : i.toNat < ns.length := by omega
  refine ⟨ns[i.toNat], List.getElem_mem _, ?_⟩
  rw [atI_nat' h0 (by rw [List.length_map]; exact h1), List.getElem?_map, List.getElem?_eq_getElem hl]
  rfl
section
variable {K : PySem.W.Frag} {H : Hp} {σ : L2.St} {a : Addr} {u v x : V} {n : Nat} {t1 t2 t3 : TG} {Q : L2.St → Hp → Prop}
theorem g_tup2 (h : SqT K H a [u, v]) (hn : n = 2) (q : t1 u σ H fun σ' H' => t2 v σ' H' Q) : gTup K n (gCons t1 (gCons t2 gNil)) (.ref a) σ H Q :=
  ⟨a, _, rfl, h, hn.symm, u, _, rfl, (show t1 u σ H fun σ' H' => gCons t2 gNil [v] σ' H' Q from by
    have e : (fun σ' H' => gCons t2 gNil [v] σ' H' Q) = fun σ' H' => t2 v σ' H' Q := by
      funext σ' H'
      refine propext ⟨fun ⟨v', r, e, h⟩ => ?_, fun h => ⟨v, [], rfl, ?_⟩⟩
      · cases e
        have e2 : (fun σ' H' => gNil [] σ' H' Q) = Q := by funext a b; exact propext ⟨fun h => h.2, fun h => ⟨rfl, h⟩⟩
        rwa [e2] at h
      · have e2 : (fun σ' H' => gNil [] σ' H' Q) = Q := by funext a b; exact propext ⟨fun h => h.2, fun h => ⟨rfl, h⟩⟩
        rwa [e2]
    rw [e]
    exact q)⟩
end
section
variable {c : TT} {tb : TS} {D : Ends} {σ : L2.St} {H : Hp} {m : Nat}
def WhB (Pv : Nat → L2.St → Hp → Prop) (m : Nat) (tb : TS) (D : Ends) (σ : L2.St) (H1 : Hp) : Prop := ∃ N : L2.St → Hp → Prop, (∀ σ' H', N σ' H' → ∃ m', m' < m ∧ Pv m' σ' H') ∧ tb { D with nx := N, ct := N, bk := D.nx } σ H1
theorem g_while (m : Nat) (Pv : Nat → L2.St → Hp → Prop) (h0 : Pv m σ H) (hs : ∀ m σ H, Pv m σ H → c σ H fun b H1 => Br b (WhB Pv m tb D σ H1) (D.nx σ H1)) : tWhile c tb D σ H := ⟨Pv, ⟨m, h0⟩, hs⟩
theorem g_whb {Pv : Nat → L2.St → Hp → Prop} (h : tb { D with nx := fun σ' H' => ∃ m', m' < m ∧ Pv m' σ' H', ct := fun σ' H' => ∃ m', m' < m ∧ Pv m' σ' H', bk := D.nx } σ H) : WhB Pv m tb D σ H := ⟨_, fun _ _ h => h, h⟩
end
/-! ### == of data -/
theorem eqvAll_ints : ∀ ns ms : List Int, PyData.eqvAll (ns.map PyData.int) (ms.map PyData.int) = decide (ns = ms)
  | [], [] => by simp [PyData.eqvAll]
  | [], _ :: _ => by simp [PyData.eqvAll]
  | _ :: _, [] => by simp [PyData.eqvAll]
  | a :: r, b :: t => by
    simp only [List.map_cons, PyData.eqvAll, PyData.eqv, eqvAll_ints r t]
    by_cases h : a = b <;> by_cases h' : r = t <;> simp [h, h']
theorem canAll_ints : ∀ ns : List Int, PyData.canLayAll0 (ns.map PyData.int) = true
  | [] => by simp [PyData.canLayAll0]
  | _ :: r => by simp [PyData.canLayAll0, PyData.canLay0, canAll_ints r]
theorem depAll_ints : ∀ ns : List Int, PyData.depthAll (ns.map PyData.int) = 0
  | [] => by simp [PyData.depthAll]
  | _ :: r => by simp [PyData.depthAll, PyData.depth, depAll_ints r]
theorem sh_lints (ns : List Int) : SeqAt.shaped (.list (ns.map PyData.int)) = true := by simp [SeqAt.shaped, PyData.canLay0, PyData.depth, canAll_ints, depAll_ints]
theorem sh_tints (ns : List Int) : SeqAt.shaped (.tuple (ns.map PyData.int)) = true := by simp [SeqAt.shaped, PyData.canLay0, PyData.depth, canAll_ints, depAll_ints]
section
variable {K : PySem.W.Frag} {H : Hp} {Q : VK} {a b : Addr} {ns ms : List Int} {x y : V} {d : PyData}
theorem dp_ints : ∀ ns : List Int, DpAll K H (ns.map V.int) (ns.map PyData.int)
  | [] => .nil
  | _ :: r => .cons (.int _) (dp_ints r)
theorem eqv_self (h : SeqAt.shaped d = true) : PyData.eqv d d = true := SeqAt.eqv_refl d (SeqAt.canLay_of_shaped h)
theorem r_eqD (h1 : Dp K H x d) (h2 : Dp K H y d) (sh : SeqAt.shaped d = true) (q : Q (.bl true) H) : rEqD K x y H Q := ⟨d, d, h1, h2, sh, sh, by rw [eqv_self sh]; exact q⟩
theorem r_neD (h1 : Dp K H x d) (h2 : Dp K H y d) (sh : SeqAt.shaped d = true) (q : Q (.bl false) H) : rNeD K x y H Q := ⟨d, d, h1, h2, sh, sh, by rw [eqv_self sh]; exact q⟩
theorem r_eqLI (h1 : SqL K H a (ns.map V.int)) (h2 : SqL K H b (ms.map V.int)) (q : Q (.bl (decide (ns = ms))) H) : rEqD K (.ref a) (.ref b) H Q :=
  ⟨_, _, .lst h1 (dp_ints ns), .lst h2 (dp_ints ms), sh_lints ns, sh_lints ms, by rw [PyData.eqv, eqvAll_ints]; exact q⟩
theorem r_neLI (h1 : SqL K H a (ns.map V.int)) (h2 : SqL K H b (ms.map V.int)) (q : Q (.bl (!decide (ns = ms))) H) : rNeD K (.ref a) (.ref b) H Q :=
  ⟨_, _, .lst h1 (dp_ints ns), .lst h2 (dp_ints ms), sh_lints ns, sh_lints ms, by rw [PyData.eqv, eqvAll_ints]; exact q⟩
theorem r_eqTI (h1 : SqT K H a (ns.map V.int)) (h2 : SqT K H b (ms.map V.int)) (q : Q (.bl (decide (ns = ms))) H) : rEqD K (.ref a) (.ref b) H Q :=
  ⟨_, _, .tup h1 (dp_ints ns), .tup h2 (dp_ints ms), sh_tints ns, sh_tints ms, by rw [PyData.eqv, eqvAll_ints]; exact q⟩
theorem r_neTI (h1 : SqT K H a (ns.map V.int)) (h2 : SqT K H b (ms.map V.int)) (q : Q (.bl (!decide (ns = ms))) H) : rNeD K (.ref a) (.ref b) H Q :=
  ⟨_, _, .tup h1 (dp_ints ns), .tup h2 (dp_ints ms), sh_tints ns, sh_tints ms, by rw [PyData.eqv, eqvAll_ints]; exact q⟩
theorem r_eqDI (h1 : Dp K H x d) (sh : SeqAt.shaped d = true) (n : Int) (q : Q (.bl (PyData.eqv d (.int n))) H) : rEqD K x (.int n) H Q := ⟨d, _, h1, .int n, sh, rfl, q⟩
end
/-! ### isinstance -/
theorem kb_int_int : kitB "int" "int" = some true := by decide +kernel
theorem kb_int_bool : kitB "int" "bool" = some false := by decide +kernel
theorem kb_int_str : kitB "int" "str" = some false := by decide +kernel
theorem kb_int_tuple : kitB "int" "tuple" = some false := by decide +kernel
theorem kb_int_list : kitB "int" "list" = some false := by decide +kernel
theorem kb_bool_int : kitB "bool" "int" = some true := by decide +kernel
theorem kb_bool_bool : kitB "bool" "bool" = some true := by decide +kernel
theorem kb_bool_str : kitB "bool" "str" = some false := by decide +kernel
theorem kb_non_int : kitB "NoneType" "int" = some false := by decide +kernel
theorem kb_non_bool : kitB "NoneType" "bool" = some false := by decide +kernel
theorem kb_non_str : kitB "NoneType" "str" = some false := by decide +kernel
theorem kb_str_int : kitB "str" "int" = some false := by decide +kernel
theorem kb_str_bool : kitB "str" "bool" = some false := by decide +kernel
theorem kb_str_str : kitB "str" "str" = some true := by decide +kernel
theorem kb_tup_int : kitB "tuple" "int" = some false := by decide +kernel
theorem kb_tup_bool : kitB "tuple" "bool" = some false := by decide +kernel
theorem kb_tup_str : kitB "tuple" "str" = some false := by decide +kernel
theorem kb_tup_tup : kitB "tuple" "tuple" = some true := by decide +kernel
theorem kb_tup_list : kitB "tuple" "list" = some false := by decide +kernel
theorem kb_list_int : kitB "list" "int" = some false := by decide +kernel
theorem kb_list_bool : kitB "list" "bool" = some false := by decide +kernel
theorem kb_list_str : kitB "list" "str" = some false := by decide +kernel
theorem kb_list_list : kitB "list" "list" = some true := by decide +kernel
theorem kb_list_tup : kitB "list" "tuple" = some false := by decide +kernel
theorem kb_dict_int : kitB "dict" "int" = some false := by decide +kernel
theorem kb_dict_bool : kitB "dict" "bool" = some false := by decide +kernel
section
variable {K : PySem.W.Frag} {H : Hp} {Q : VK} {x : V} {t n : String} {b : Bool} {i : Int} {z : Str}
theorem r_isi (ty : TyX K H x (.type t)) (h : kitB t n = some b) (q : Q (.bl b) H) : rIsi K [x, .ty n] H Q := ⟨x, .ty n, .type t, .type n, b, rfl, .ty n, ty, kit_ty h, q⟩
theorem isi_ii (q : Q (.bl true) H) : rIsi K [.int i, .ty "int"] H Q := r_isi (.base (.int i)) kb_int_int q
theorem isi_ib (q : Q (.bl false) H) : rIsi K [.int i, .ty "bool"] H Q := r_isi (.base (.int i)) kb_int_bool q
theorem isi_bi (q : Q (.bl true) H) : rIsi K [.bl b, .ty "int"] H Q := r_isi (.base (.bl b)) kb_bool_int q
theorem isi_bb (q : Q (.bl true) H) : rIsi K [.bl b, .ty "bool"] H Q := r_isi (.base (.bl b)) kb_bool_bool q
theorem isi_ni (q : Q (.bl false) H) : rIsi K [.non, .ty "int"] H Q := r_isi (.base .non) kb_non_int q
theorem isi_si (q : Q (.bl false) H) : rIsi K [.str z, .ty "int"] H Q := r_isi (.base (.str z)) kb_str_int q
end
/-! ### names of built-ins -/
theorem bt_len : bootBuiltins "len" = some (.builtin "len") := by decide +kernel
theorem bt_isinstance : bootBuiltins "isinstance" = some (.builtin "isinstance") := by decide +kernel
theorem bt_int : bootBuiltins "int" = some (.type "int") := by decide +kernel
theorem bt_bool : bootBuiltins "bool" = some (.type "bool") := by decide +kernel
theorem bt_str : bootBuiltins "str" = some (.type "str") := by decide +kernel
theorem bt_list : bootBuiltins "list" = some (.type "list") := by decide +kernel
theorem bt_tuple : bootBuiltins "tuple" = some (.type "tuple") := by decide +kernel
theorem bt_dict : bootBuiltins "dict" = some (.type "dict") := by decide +kernel
theorem bt_min : bootBuiltins "min" = some (.builtin "min") := by decide +kernel
theorem bt_max : bootBuiltins "max" = some (.builtin "max") := by decide +kernel
theorem bt_sum : bootBuiltins "sum" = some (.builtin "sum") := by decide +kernel
theorem bt_all : bootBuiltins "all" = some (.builtin "all") := by decide +kernel
theorem bt_any : bootBuiltins "any" = some (.builtin "any") := by decide +kernel
theorem bt_sorted : bootBuiltins "sorted" = some (.builtin "sorted") := by decide +kernel
theorem bt_ValueError : bootBuiltins "ValueError" = some (.type "ValueError") := by decide +kernel
end Z

/-! Mbits: the bits of a number the other way round, in plain Lean. -/
namespace Z
open PySem PySem.W PyProof.Rows
/-- the k lowest bits of n, turned about -/
def rv : Nat → Nat → Nat
  | 0, _ => 0
  | k + 1, n => 2 * rv k n + n / 2 ^ k % 2
theorem rv_lt (k n : Nat) : rv k n < 2 ^ k := by
  induction k with
  | zero => simp [rv]
  | succ k ih => simp only [rv, Nat.pow_succ]; omega
theorem pow_pos2 (k : Nat) : 0 < 2 ^ k := Nat.pow_pos (by decide)
theorem rv_add (j k n : Nat) : rv (j + k) n = rv j n * 2 ^ k + rv k (n / 2 ^ j) := by
  induction k with
  | zero => simp [rv]
  | succ k ih =>
    have e : n / 2 ^ (j + k) = n / 2 ^ j / 2 ^ k := by rw [Nat.div_div_eq_div_mul, ← Nat.pow_add]
    show 2 * rv (j + k) n + n / 2 ^ (j + k) % 2 = _
    rw [ih, e, Nat.pow_succ]
    show _ = rv j n * (2 ^ k * 2) + (2 * rv k (n / 2 ^ j) + n / 2 ^ j / 2 ^ k % 2)
    rw [Nat.mul_add, ← Nat.mul_assoc (rv j n), Nat.mul_comm (rv j n * 2 ^ k) 2, Nat.mul_comm 2 (rv j n * 2 ^ k)]
    omega
theorem rv_one (n : Nat) : rv 1 n = n % 2 := by simp [rv]
theorem rv_succ (k n : Nat) : rv (k + 1) n = (n % 2) * 2 ^ k + rv k (n / 2) := by
  rw [Nat.add_comm k 1, rv_add, rv_one, Nat.pow_one]
theorem rv_zero (k : Nat) : rv k 0 = 0 := by
  induction k with
  | zero => rfl
  | succ k ih => simp [rv, ih]
theorem rv_congr {k a b : Nat} (h : a % 2 ^ k = b % 2 ^ k) : rv k a = rv k b := by
  induction k generalizing a b with
  | zero => rfl
  | succ k ih =>
    rw [rv_succ, rv_succ]
    have h2 : a % 2 = b % 2 := by
      have := congrArg (· % 2) h
      simp only [Nat.pow_succ, Nat.mod_mul_left_mod] at this
      exact this
    have h3 : a / 2 % 2 ^ k = b / 2 % 2 ^ k := by
      have q : ∀ x : Nat, x % 2 ^ (k + 1) / 2 = x / 2 % 2 ^ k := fun x => by
        rw [Nat.pow_succ, Nat.mul_comm, Nat.mod_mul_right_div_self]
      rw [← q a, ← q b, h]
    rw [h2, ih h3]
theorem rv_mod (k n : Nat) : rv k (n % 2 ^ k) = rv k n := rv_congr (Nat.mod_mod _ _)
theorem rv_rv (k n : Nat) : rv k (rv k n) = n % 2 ^ k := by
  induction k generalizing n with
  | zero => simp [rv, Nat.mod_one]
  | succ k ih =>
    have e : rv (k + 1) n = 2 * rv k n + n / 2 ^ k % 2 := rfl
    rw [rv_succ, e]
    have e1 : (2 * rv k n + n / 2 ^ k % 2) % 2 = n / 2 ^ k % 2 := by omega
    have e2 : (2 * rv k n + n / 2 ^ k % 2) / 2 = rv k n := by omega
    rw [e1, e2, ih, Nat.pow_succ, Nat.mod_mul]
    rw [Nat.mul_comm, Nat.add_comm]
theorem rv_bit {k d : Nat} (n : Nat) (h : d < k) : rv k n / 2 ^ (k - 1 - d) % 2 = n / 2 ^ d % 2 := by
  have e : k = (d + 1) + (k - 1 - d) := by omega
  have q : rv k n = rv (d + 1) n * 2 ^ (k - 1 - d) + rv (k - 1 - d) (n / 2 ^ (d + 1)) := by
    conv => lhs; rw [e]
    exact rv_add _ _ _
  have l := rv_lt (k - 1 - d) (n / 2 ^ (d + 1))
  rw [q, Nat.mul_comm, Nat.mul_add_div (pow_pos2 _), Nat.div_eq_of_lt l, Nat.add_zero]
  show (2 * rv d n + n / 2 ^ d % 2) % 2 = _
  omega
theorem rv_inj {k a b : Nat} (h : rv k a = rv k b) : a % 2 ^ k = b % 2 ^ k := by rw [← rv_rv, ← rv_rv, h]
/-- sixteen bits turned about -/
@[irreducible] def r16 (n : Nat) : Nat := rv 16 n
theorem r16_eq (n : Nat) : r16 n = rv 16 n := by unfold r16; rfl
theorem r16_lt (n : Nat) : r16 n < 65536 := by rw [r16_eq]; exact rv_lt 16 n
theorem r16_r16 (n : Nat) : r16 (r16 n) = n % 65536 := by rw [r16_eq, r16_eq]; exact rv_rv 16 n
/-! by the program's own operators -/
theorem bor_even (a : Int) {b : Int} (h0 : 0 ≤ b) (h1 : b ≤ 1) : Builtin.bitOr (a * 2) b = a * 2 + b := by
  have e : Builtin.bitAnd (a * 2) b = 0 := by
    rw [kbt_halves]
    have e1 : a * 2 % 2 = 0 := by omega
    have e2 : b / 2 = 0 := by omega
    rw [e1, e2]
    have e3 : Builtin.bitAnd (a * 2 / 2) 0 = 0 := by
      have := kbt_mask (a * 2 / 2) 0
      simpa using this
    rw [e3]
    simp
  have x := bitXor_and (a * 2) b
  unfold Builtin.bitXor at x
  rw [e] at x
  omega
def tnI (n : Int) : Nat → Int
  | 0 => 0
  | k + 1 => Builtin.bitOr (tnI n k * 2 ^ (1 : Int).toNat) (Builtin.bitAnd (n / 2 ^ ((0 : Int) + (k : Nat)).toNat) 1)
theorem tnI_eq (n k : Nat) : tnI (n : Int) k = (rv k n : Nat) := by
  induction k with
  | zero => rfl
  | succ k ih =>
    show Builtin.bitOr (tnI n k * 2 ^ (1 : Int).toNat) (Builtin.bitAnd ((n : Int) / 2 ^ ((0 : Int) + (k : Nat)).toNat) 1) = ((2 * rv k n + n / 2 ^ k % 2 : Nat) : Int)
    have e1 : ((0 : Int) + (k : Nat)).toNat = k := by omega
    have e2 : (1 : Int).toNat = 1 := rfl
    rw [bitAnd_m1, e1, e2, ih, Int.pow_succ, Int.pow_zero, Int.one_mul, bor_even _ (by omega) (by omega)]
    have e3 : (n : Int) / 2 ^ k = ((n / 2 ^ k : Nat) : Int) := by simp
    rw [e3]
    omega
theorem tnI_small (n : Nat) {k : Nat} (h : k ≤ 16) : (tnI (n : Int) k).natAbs < 2 ^ 64 := by
  rw [tnI_eq, Int.natAbs_natCast]
  exact Nat.lt_of_lt_of_le (rv_lt k n) (Nat.pow_le_pow_right (by decide) (by omega))
end Z
namespace Z
open PySem PySem.W PyProof.Rows
theorem r16_mod (k : Nat) : r16 (k % 65536) = r16 k := by
  rw [r16_eq, r16_eq]
  exact rv_mod 16 k
theorem and_pow (k s : Nat) : Builtin.bitAnd (k : Int) (((2 ^ s : Nat) : Int) - 1) = ((k % 2 ^ s : Nat) : Int) := by
  have h := kbt_mask (k : Int) s
  have e : ((2 ^ s : Nat) : Int) = (2 : Int) ^ s := by simp
  rw [e, h, ← e]
  simp
theorem and_mark (k : Nat) : Builtin.bitAnd (k : Int) (65536 - 1) = ((k % 65536 : Nat) : Int) := and_pow k 16
theorem pow_dvd16 {s : Nat} (h : s ≤ 16) : 2 ^ s ∣ 65536 := (Nat.pow_dvd_pow_iff_le_right (by decide : 1 < 2)).mpr h
theorem pow_mul16 {s : Nat} (h : s ≤ 16) : 2 ^ s * 2 ^ (16 - s) = 65536 := by
  rw [← Nat.pow_add, Nat.add_sub_cancel' h]
theorem mod16 {s : Nat} (k : Nat) (h : s ≤ 16) : k % 65536 % 2 ^ s = k % 2 ^ s := Nat.mod_mod_of_dvd k (pow_dvd16 h)
theorem div16 {s : Nat} (h : s ≤ 16) : 65536 / 2 ^ s = 2 ^ (16 - s) := by
  rw [← pow_mul16 h]
  exact Nat.mul_div_cancel_left _ (pow_pos2 s)
theorem pow_le16 {s : Nat} (h : s ≤ 16) : 2 ^ s ≤ 65536 := Nat.le_of_dvd (by decide) (pow_dvd16 h)
/-- a place: its block, and where in it -/
theorem r16_split {s : Nat} (k : Nat) (h : s ≤ 16) : r16 k = rv s k * 2 ^ (16 - s) + rv (16 - s) (k / 2 ^ s) := by
  rw [r16_eq]
  have := rv_add s (16 - s) k
  rwa [Nat.add_sub_cancel' h] at this
theorem r16_slot {s n : Nat} (h : s ≤ 16) (hn : n < 2 ^ s) : r16 n = rv s n * 2 ^ (16 - s) := by
  rw [r16_split n h, Nat.div_eq_of_lt hn, rv_zero, Nat.add_zero]
theorem r16_div {s : Nat} (k : Nat) (h : s ≤ 16) : r16 k / 2 ^ (16 - s) = rv s k := by
  rw [r16_split k h, Nat.mul_comm, Nat.mul_add_div (pow_pos2 _), Nat.div_eq_of_lt (rv_lt _ _), Nat.add_zero]
theorem slotAt_eq {s : Nat} (p : Nat) (h : s ≤ 16) : r16 p % 2 ^ s = rv s (p / 2 ^ (16 - s)) := by
  have e := rv_add (16 - s) s p
  rw [Nat.sub_add_cancel h] at e
  rw [r16_eq, e, Nat.mul_comm, Nat.mul_add_mod, Nat.mod_eq_of_lt (rv_lt _ _)]
/-- the place lies in the stretch of just that slot -/
theorem in_stretch {s n : Nat} (k : Nat) (h : s ≤ 16) (hn : n < 2 ^ s) : (r16 n ≤ r16 k ∧ r16 k < r16 n + 2 ^ (16 - s)) ↔ k % 2 ^ s = n := by
  have e1 := r16_split k h
  have e2 := r16_slot h hn
  have l := rv_lt (16 - s) (k / 2 ^ s)
  constructor
  · rintro ⟨h1, h2⟩
    have q : rv s k = rv s n := by
      have d := r16_div k h
      rw [← d]
      apply Nat.div_eq_of_lt_le
      · rw [← e2]; exact h1
      · rw [Nat.succ_mul, ← e2]; exact h2
    have := rv_inj q
    rwa [Nat.mod_eq_of_lt hn] at this
  · intro e
    have q : rv s k = rv s n := by rw [← e, rv_mod]
    rw [e1, e2, q]
    omega
theorem at_stretch {s n p : Nat} (h : s ≤ 16) (hn : n < 2 ^ s) (h1 : r16 n ≤ p) (h2 : p < r16 n + 2 ^ (16 - s)) : r16 p % 2 ^ s = n := by
  have e2 := r16_slot h hn
  have q : p / 2 ^ (16 - s) = rv s n := by
    apply Nat.div_eq_of_lt_le
    · rw [← e2]; exact h1
    · rw [Nat.succ_mul, ← e2]; exact h2
  rw [slotAt_eq p h, q, rv_rv, Nat.mod_eq_of_lt hn]
theorem stretch_end {s n : Nat} (h : s ≤ 16) (hn : n < 2 ^ s) : r16 n + 2 ^ (16 - s) ≤ 65536 := by
  rw [r16_slot h hn, ← pow_mul16 h]
  have := rv_lt s n
  calc rv s n * 2 ^ (16 - s) + 2 ^ (16 - s) = (rv s n + 1) * 2 ^ (16 - s) := by rw [Nat.succ_mul]
    _ ≤ 2 ^ s * 2 ^ (16 - s) := Nat.mul_le_mul_right _ this
theorem r16_inj {a b : Nat} (h : r16 a = r16 b) : a % 65536 = b % 65536 := by
  rw [r16_eq, r16_eq] at h
  exact rv_inj h
end Z
namespace Z
open PySem PySem.W PyProof.Rows
theorem and_half (b : Nat) : ∀ a : Int, 0 < b → (b : Int) ≠ 2 * Builtin.bitAnd a b := by
  induction b using Nat.strongRecOn with
  | _ b ih =>
    intro a hb e
    have hh := kbt_halves a b
    by_cases o : b % 2 = 1
    · omega
    · have e2 : ((b : Int) / 2) = ((b / 2 : Nat) : Int) := by omega
      rw [if_neg (by omega), e2] at hh
      exact ih (b / 2) (by omega) (a / 2) (by omega) (by omega)
theorem xor_other {a b : Nat} (h0 : 0 < b) (h1 : b < 65536) : ∃ m : Nat, Builtin.bitXor (a : Int) (b : Int) = (m : Int) ∧ m % 65536 ≠ a % 65536 := by
  have x := bitXor_and (a : Int) (b : Int)
  have r1 := bitAnd_range (a : Int) (y := (b : Int)) (by omega)
  have r2 := bitAnd_range (b : Int) (y := (a : Int)) (by omega)
  rw [bitAnd_comm] at r2
  have n := and_half b (a : Int) h0
  refine ⟨(Builtin.bitXor (a : Int) (b : Int)).toNat, by omega, fun h => ?_⟩
  omega
end Z
namespace Z
open PySem PySem.W PyProof.Rows
theorem pow4 (d : Nat) : (4 : Int) * 2 ^ d = ((2 ^ (d + 2) : Nat) : Int) := by
  rw [Nat.pow_add, Nat.mul_comm]; simp
theorem st_e {n s : Nat} (hs : s ≤ 16) : ((r16 n : Nat) : Int) + 65536 / ((2 ^ s : Nat) : Int) = ((r16 n + 2 ^ (16 - s) : Nat) : Int) := by
  rw [← div16 hs, Int.natCast_add, Int.natCast_ediv]; simp
theorem rv_one1 (k : Nat) : rv (k + 1) 1 = 2 ^ k := by
  rw [rv_succ]
  show 1 % 2 * 2 ^ k + rv k 0 = _
  rw [rv_zero]
  omega
theorem half_second {s n : Nat} (hs : s ≤ 15) (hn : n < 2 ^ s) : r16 (n + 2 ^ s) = r16 n + 2 ^ (16 - (s + 1)) := by
  have h : s ≤ 16 := by omega
  have e1 := r16_split (n + 2 ^ s) h
  have e2 := r16_slot h hn
  have e3 : rv s (n + 2 ^ s) = rv s n := rv_congr (Nat.add_mod_right _ _)
  have e4 : (n + 2 ^ s) / 2 ^ s = 1 := by rw [Nat.add_div_right _ (pow_pos2 s), Nat.div_eq_of_lt hn]
  have e5 : 16 - s = 16 - (s + 1) + 1 := by omega
  rw [e1, e2, e3, e4]
  congr 1
  rw [e5]
  exact rv_one1 _
theorem half_pow {s : Nat} (hs : s ≤ 15) : 2 ^ (16 - s) = 2 ^ (16 - (s + 1)) + 2 ^ (16 - (s + 1)) := by
  have e5 : 16 - s = 16 - (s + 1) + 1 := by omega
  rw [e5, Nat.pow_succ]
  omega
theorem pow_two2 (s : Nat) : (2 : Int) * ((2 ^ s : Nat) : Int) = ((2 ^ (s + 1) : Nat) : Int) := by
  rw [Nat.pow_succ]; omega
theorem rv_perm (s : Nat) : ((List.range (2 ^ s)).map (rv s)).Perm (List.range (2 ^ s)) := by
  have n1 : ((List.range (2 ^ s)).map (rv s)).Nodup := by
    refine List.pairwise_map.mpr (List.Pairwise.imp_of_mem ?_ List.nodup_range)
    intro a b ha hb hne h
    have := rv_inj h
    rw [Nat.mod_eq_of_lt (List.mem_range.mp ha), Nat.mod_eq_of_lt (List.mem_range.mp hb)] at this
    exact hne this
  refine (List.perm_ext_iff_of_nodup n1 List.nodup_range).mpr fun x => ?_
  rw [List.mem_range, List.mem_map]
  constructor
  · rintro ⟨y, _, rfl⟩
    exact rv_lt s y
  · intro h
    exact ⟨rv s x, List.mem_range.mpr (rv_lt s x), by rw [rv_rv, Nat.mod_eq_of_lt h]⟩
theorem sorted_places {s : Nat} (hs : s ≤ 16) {l : List Int} (hp : l.Perm ((List.range (2 ^ s)).map fun i => ((r16 i : Nat) : Int))) (ho : l.Pairwise (· ≤ ·)) :
    l = (List.range (2 ^ s)).map fun i => ((i * 2 ^ (16 - s) : Nat) : Int) := by
  have e : ((List.range (2 ^ s)).map fun i => ((r16 i : Nat) : Int)) = ((List.range (2 ^ s)).map (rv s)).map fun i => ((i * 2 ^ (16 - s) : Nat) : Int) := by
    rw [List.map_map]
    refine List.map_congr_left fun i hi => ?_
    show ((r16 i : Nat) : Int) = ((rv s i * 2 ^ (16 - s) : Nat) : Int)
    rw [r16_slot hs (List.mem_range.mp hi)]
  rw [e] at hp
  have hp2 := hp.trans ((rv_perm s).map _)
  refine List.Perm.eq_of_pairwise (le := (· ≤ ·)) (fun a b _ _ h1 h2 => Int.le_antisymm h1 h2) ho ?_ hp2
  refine List.pairwise_map.mpr ((List.pairwise_lt_range).imp fun {a b} h => ?_)
  have : a * 2 ^ (16 - s) ≤ b * 2 ^ (16 - s) := Nat.mul_le_mul_right _ (Nat.le_of_lt h)
  omega
theorem r16_at {s p : Nat} (hs : s ≤ 16) (hp : p < 65536) : r16 (r16 p % 2 ^ s) = p / 2 ^ (16 - s) * 2 ^ (16 - s) := by
  have l : p / 2 ^ (16 - s) < 2 ^ s := (Nat.div_lt_iff_lt_mul (pow_pos2 _)).mpr (by rw [pow_mul16 hs]; exact hp)
  rw [r16_slot hs (Nat.mod_lt _ (pow_pos2 s)), slotAt_eq p hs, rv_rv, Nat.mod_eq_of_lt l]
theorem next_slot {s n : Nat} (hs : s ≤ 16) (hn : n < 2 ^ s) (h : r16 n + 2 ^ (16 - s) < 65536) : r16 (r16 (r16 n + 2 ^ (16 - s)) % 2 ^ s) = r16 n + 2 ^ (16 - s) := by
  rw [r16_at hs h, r16_slot hs hn]
  have e : rv s n * 2 ^ (16 - s) + 2 ^ (16 - s) = (rv s n + 1) * 2 ^ (16 - s) := by rw [Nat.succ_mul]
  rw [e, Nat.mul_div_cancel _ (pow_pos2 _)]
theorem prev_slot {s n : Nat} (hs : s ≤ 16) (hn : n < 2 ^ s) (h : 0 < r16 n) : r16 (r16 (r16 n - 1) % 2 ^ s) + 2 ^ (16 - s) = r16 n := by
  have l := r16_lt n
  rw [r16_at hs (by omega)]
  rw [r16_slot hs hn] at h ⊢
  have hw := pow_pos2 (16 - s)
  generalize 2 ^ (16 - s) = w at h hw ⊢
  cases e : rv s n with
  | zero => rw [e] at h; simp at h
  | succ q =>
    have e2 : (q + 1) * w - 1 = q * w + (w - 1) := by rw [Nat.succ_mul]; omega
    rw [e2, Nat.mul_comm q w, Nat.mul_add_div hw, Nat.div_eq_of_lt (by omega), Nat.add_zero, Nat.succ_mul]
theorem pow_split {s g : Nat} (hs : s ≤ g) (hg : g ≤ 16) : 2 ^ (16 - s) = 2 ^ (g - s) * 2 ^ (16 - g) := by
  rw [← Nat.pow_add]
  congr 1
  omega
theorem sub_stretch {s g n m : Nat} (hs : s ≤ g) (hg : g ≤ 16) (hm : m < 2 ^ g) (hn : n < 2 ^ s) (hmn : m % 2 ^ s = n) : r16 n ≤ r16 m ∧ r16 m + 2 ^ (16 - g) ≤ r16 n + 2 ^ (16 - s) := by
  have h := (in_stretch m (show s ≤ 16 by omega) hn).mpr hmn
  refine ⟨h.1, ?_⟩
  have h2 := h.2
  rw [r16_slot hg hm, r16_slot (show s ≤ 16 by omega) hn, pow_split hs hg] at h2 ⊢
  have hv := pow_pos2 (16 - g)
  generalize 2 ^ (16 - g) = v at h2 hv ⊢
  rw [← Nat.mul_assoc, ← Nat.add_mul] at h2 ⊢
  have h3 := Nat.lt_of_mul_lt_mul_right h2
  have h4 : (rv g m + 1) * v ≤ (rv s n * 2 ^ (g - s) + 2 ^ (g - s)) * v := Nat.mul_le_mul_right v h3
  rwa [Nat.succ_mul] at h4
theorem slot_mono {s a b : Nat} (hs : s ≤ 16) (h : r16 a ≤ r16 b) : r16 (a % 2 ^ s) ≤ r16 (b % 2 ^ s) := by
  rw [r16_slot hs (Nat.mod_lt _ (pow_pos2 s)), r16_slot hs (Nat.mod_lt _ (pow_pos2 s)), rv_mod, rv_mod, ← r16_div a hs, ← r16_div b hs]
  exact Nat.mul_le_mul_right _ (Nat.div_le_div_right h)
theorem mod_mod_pow {s g : Nat} (k : Nat) (hs : s ≤ g) : k % 2 ^ g % 2 ^ s = k % 2 ^ s := Nat.mod_mod_of_dvd k ((Nat.pow_dvd_pow_iff_le_right (by decide : 1 < 2)).mpr hs)
/-- the j-th slot of the greater row in a stretch -/
theorem inner_slot {s g n j : Nat} (hs : s ≤ g) (hg : g ≤ 16) (hn : n < 2 ^ s) (hj : j < 2 ^ (g - s)) :
    r16 (r16 n + j * 2 ^ (16 - g)) % 2 ^ g % 2 ^ s = n ∧ r16 (r16 (r16 n + j * 2 ^ (16 - g)) % 2 ^ g) = r16 n + j * 2 ^ (16 - g) := by
  have e := pow_split hs hg
  have hv := pow_pos2 (16 - g)
  have l : (j + 1) * 2 ^ (16 - g) ≤ 2 ^ (g - s) * 2 ^ (16 - g) := Nat.mul_le_mul_right _ hj
  rw [Nat.succ_mul] at l
  have se := stretch_end (show s ≤ 16 by omega) hn
  rw [e] at se
  constructor
  · rw [mod_mod_pow _ hs]
    exact at_stretch (by omega) hn (by omega) (by rw [e]; omega)
  · rw [r16_at hg (by omega), r16_slot (show s ≤ 16 by omega) hn, e, ← Nat.mul_assoc, ← Nat.add_mul, Nat.mul_div_cancel _ hv]
end Z

/-! Z2: rules of my own: chains of three and four, d.update(e). -/
namespace Z
open PySem PySem.Spec PyProof.Rows L2
section
variable {X : Cx} {a b c d f : Expr} {ta tb tc td tf : TE} {pos : Pos} {pins : List (Addr × Obj)} {σ : L2.St} {H : Hp}
def tLink (r : R2) (y : V) (tc : TE) (nxt : V → L2.St → Hp → VK → Prop) : V → L2.St → Hp → VK → Prop := fun x σ H Q => r x y H fun z H3 => rTst z H3 fun k H4 => Br k (tc σ H4 fun w H5 => nxt w σ H5 Q) (Q (.bl false) H4)
def tChain3 (r r' r'' : R2) (ta tb tc td : TE) : TE := fun σ H Q => ta σ H fun x H1 => tb σ H1 fun y H2 => r x y H2 fun z H3 => rTst z H3 fun k H4 => Br k (tc σ H4 fun z' H5 => r' y z' H5 fun u H6 => rTst u H6 fun k' H7 => Br k' (td σ H7 fun w' H8 => r'' z' w' H8 Q) (Q (.bl false) H7)) (Q (.bl false) H4)
theorem pe_chain3 {op op' op'' : CmpOp} {r r' r'' : R2} (ho : OpR X (compareOp op) r) (ho' : OpR X (compareOp op') r') (ho'' : OpR X (compareOp op'') r'') (ha : PE X a ta) (hb : PE X b tb) (hc : PE X c tc) (hd : PE X d td)
    (hm : lastMarks [op, op', op''] [b, c, d] = false := by with_unfolding_all rfl) : PE X (.Compare a [op, op', op''] [b, c, d] pos) (tChain3 r r' r'' ta tb tc td) := by
  refine ⟨fun pins s σ H Q I h => ?_⟩
  refine Compare_chain (thn (ha.run pins s σ H _ I h) fun v s1 ⟨x, H1, I1, r1, q1⟩ => chain_link (thn (hb.run pins s1 σ H1 _ I1 q1) fun u s2 ⟨y, H2, I2, r2, q2⟩ =>
    thn (ho pins s2 σ H2 x y v u _ I2 r1 r2 q2) fun d s3 ⟨z, H3, I3, r3, k, e, q3⟩ => ?_)) hm
  subst e
  cases r3
  refine wpAny_truthy_bool ?_
  unfold Br at q3
  cases k with
  | false => exact ite_ff ⟨.bl false, H3, I3, rfl, q3⟩
  | true =>
    refine ite_tt (chain_link (thn (hc.run pins s3 σ H3 _ I3 q3) fun w' s4 ⟨z', H4, I4, r4, q4⟩ => thn (ho' pins s4 σ H4 y z' u w' _ I4 r2 r4 q4) fun d' s5 ⟨u2, H5, I5, r5, k2, e2, q5⟩ => ?_))
    subst e2
    cases r5
    refine wpAny_truthy_bool ?_
    cases k2 with
    | false => exact ite_ff ⟨.bl false, H5, I5, rfl, q5⟩
    | true => exact ite_tt (chain_last (thn (hd.run pins s5 σ H5 _ I5 q5) fun w2 s6 ⟨z2, H6, I6, r6, q6⟩ => ho'' pins s6 σ H6 z' z2 w' w2 Q I6 r4 r6 q6))
def tChain4 (r1 r2 r3 r4 : R2) (ta tb tc td tf : TE) : TE := fun σ H Q => ta σ H fun x H1 => tb σ H1 fun y H2 => r1 x y H2 fun z H3 => rTst z H3 fun k H4 => Br k (tc σ H4 fun z' H5 => r2 y z' H5 fun u H6 => rTst u H6 fun k' H7 => Br k' (td σ H7 fun w' H8 => r3 z' w' H8 fun u H6 => rTst u H6 fun k' H7 => Br k' (tf σ H7 fun w2 H8 => r4 w' w2 H8 Q) (Q (.bl false) H7)) (Q (.bl false) H7)) (Q (.bl false) H4)
theorem pe_chain4 {o1 o2 o3 o4 : CmpOp} {q1 q2 q3 q4 : R2} (h1 : OpR X (compareOp o1) q1) (h2 : OpR X (compareOp o2) q2) (h3 : OpR X (compareOp o3) q3) (h4 : OpR X (compareOp o4) q4) (ha : PE X a ta) (hb : PE X b tb) (hc : PE X c tc) (hd : PE X d td) (hf : PE X f tf)
    (hm : lastMarks [o1, o2, o3, o4] [b, c, d, f] = false := by with_unfolding_all rfl) : PE X (.Compare a [o1, o2, o3, o4] [b, c, d, f] pos) (tChain4 q1 q2 q3 q4 ta tb tc td tf) := by
  refine ⟨fun pins s σ H Q I h => ?_⟩
  refine Compare_chain (thn (ha.run pins s σ H _ I h) fun v s1 ⟨x, H1, I1, r1, q1⟩ => chain_link (thn (hb.run pins s1 σ H1 _ I1 q1) fun u s2 ⟨y, H2, I2, r2, q2⟩ =>
    thn (h1 pins s2 σ H2 x y v u _ I2 r1 r2 q2) fun d s3 ⟨z, H3, I3, r3, k, e, q3⟩ => ?_)) hm
  subst e
  cases r3
  refine wpAny_truthy_bool ?_
  unfold Br at q3
  cases k with
  | false => exact ite_ff ⟨.bl false, H3, I3, rfl, q3⟩
  | true =>
    refine ite_tt (chain_link (thn (hc.run pins s3 σ H3 _ I3 q3) fun w' s4 ⟨z', H4, I4, r4, q4⟩ => thn (h2 pins s4 σ H4 y z' u w' _ I4 r2 r4 q4) fun d' s5 ⟨u2, H5, I5, r5, k2, e2, q5⟩ => ?_))
    subst e2
    cases r5
    refine wpAny_truthy_bool ?_
    cases k2 with
    | false => exact ite_ff ⟨.bl false, H5, I5, rfl, q5⟩
    | true =>
      refine ite_tt (chain_link (thn (hd.run pins s5 σ H5 _ I5 q5) fun w2 s6 ⟨z2, H6, I6, r6, q6⟩ => thn (h3 pins s6 σ H6 z' z2 w' w2 _ I6 r4 r6 q6) fun d' s7 ⟨u2, H7, I7, r7, k2, e2, q7⟩ => ?_))
      subst e2
      cases r7
      refine wpAny_truthy_bool ?_
      cases k2 with
      | false => exact ite_ff ⟨.bl false, H7, I7, rfl, q7⟩
      | true => exact ite_tt (chain_last (thn (hf.run pins s7 σ H7 _ I7 q7) fun w3 s8 ⟨z3, H8, I8, r8, q8⟩ => h4 pins s8 σ H8 z2 z3 w2 w3 Q I8 r6 r8 q8))
end
section
variable {σ : L2.St} {H : Hp} {Q : VK} {r1 r2 r3 r4 : R2} {ta tb tc td tf : TE}
theorem g_chain3 (h : ta σ H fun x H1 => tb σ H1 fun y H2 => r1 x y H2 fun z H3 => rTst z H3 fun k H4 => Br k (tc σ H4 fun z' H5 => r2 y z' H5 fun u H6 => rTst u H6 fun k' H7 => Br k' (td σ H7 fun w' H8 => r3 z' w' H8 Q) (Q (.bl false) H7)) (Q (.bl false) H4)) : tChain3 r1 r2 r3 ta tb tc td σ H Q := h
theorem g_chain4 (h : ta σ H fun x H1 => tb σ H1 fun y H2 => r1 x y H2 fun z H3 => rTst z H3 fun k H4 => Br k (tc σ H4 fun z' H5 => r2 y z' H5 fun u H6 => rTst u H6 fun k' H7 => Br k' (td σ H7 fun w' H8 => r3 z' w' H8 fun u H6 => rTst u H6 fun k' H7 => Br k' (tf σ H7 fun w2 H8 => r4 w' w2 H8 Q) (Q (.bl false) H7)) (Q (.bl false) H7)) (Q (.bl false) H4)) : tChain4 r1 r2 r3 r4 ta tb tc td tf σ H Q := h
end
section
variable {X : Cx}
def rUpd : V → List V → Hp → VK → Prop := fun x vs H Q => ∃ a b kvs more, x = .ref a ∧ vs = [.ref b] ∧ b ≠ a ∧ H a = some (.dK kvs) ∧ H b = some (.dK more) ∧ kvs.length + more.length ≤ sizeLine ∧ Q .non (upd H a (.dK (mergeK kvs more)))
theorem mt_update : MtR X "dict.update" rUpd := by
  intro pins s σ H x vs v us Q I rx rv h
  obtain ⟨a, b, kvs, more, rfl, rfl, hab, hA, hB, hz, q⟩ := h
  cases rx
  obtain ⟨u, rfl, ru⟩ := vals1 rv
  cases ru
  obtain ⟨z, hd, vs, rel, dd⟩ := dk_of I.hok hA
  obtain ⟨z2, hd2, vs2, rel2, dd2⟩ := dk_of I.hok hB
  refine call_meetsIn PySem.F.slot_dict_update dd.typeIs PySem.F.entry_dict_update (PySem.F.args_dict_update_2 _ _) (meets_dict_update (mixKind X.prog X.w) a b (Ne.symm hab) hd2)
    ⟨vs, vs2, dd, dd2, by rw [← rel.length, ← rel2.length]; exact hz, fun h' dd' _ hs => ?_⟩
  have he : ∃ q, h'.get? a = some q := let ⟨q, _, _, hq, _⟩ := dd'; ⟨q, hq⟩
  refine ⟨.non, _, d_write (t' := s.toks) I (by rw [hA]; exact True.intro) hs he (dk_new (Nat.le_trans (length_mergeK more kvs) hz) hd (rel2.merge rel) dd'), rfl, q⟩
end
end Z

/-! Z3: sorted of pairs of ints. -/
namespace Z
open PySem PySem.Spec PyProof.Rows L2
def pairOf (B : Hp) (p : Addr) : Int × Int := match B p with | some (.tup [.int i, .int j]) => (i, j) | _ => (0, 0)
theorem pairOf_eq {B : Hp} {p : Addr} {i j : Int} (h : B p = some (.tup [.int i, .int j])) : pairOf B p = (i, j) := by unfold pairOf; rw [h]
def vAd : V → Addr | .ref a => a | _ => 0
def rSortP (K : PySem.W.Frag) : List V → Hp → VK → Prop := rSortedPO K
theorem call_sortP {X : Cx} : CallR X (.builtin "sorted") (rSortP X.K) := cr_sortedPO
theorem refs_of : ∀ {ys : List V}, (∀ y ∈ ys, ∃ p, y = V.ref p) → ∃ qs : List Addr, ys = qs.map V.ref
  | [], _ => ⟨[], rfl⟩
  | y :: ys, h => by
    obtain ⟨p, rfl⟩ := h y (List.mem_cons_self ..)
    obtain ⟨qs, rfl⟩ := refs_of fun z hz => h z (List.mem_cons_of_mem _ hz)
    exact ⟨p :: qs, rfl⟩
theorem map_ref_perm {ps qs : List Addr} (h : (ps.map V.ref).Perm (qs.map V.ref)) : ps.Perm qs := by
  have := h.map vAd
  rwa [List.map_map, List.map_map, show (vAd ∘ V.ref) = id from rfl, List.map_id, List.map_id] at this
theorem r_sortP {K : PySem.W.Frag} {B H : Hp} {L : List Cell} {a : Addr} {ps : List Addr} {Q : VK} (w : W B L H) (h : SqL K B a (ps.map V.ref)) (hp : ∀ p ∈ ps, ∃ i j, B p = some (.tup [.int i, .int j]))
    (q : ∀ (p : Addr) (B' H' : Hp) (qs : List Addr), Same B B' → qs.Perm ps → (qs.map fun p => (pairOf B p).1).Pairwise (· ≤ ·) → qs.Pairwise (fun x y => ¬ ((pairOf B y).1 < (pairOf B x).1 ∨ ((pairOf B y).1 = (pairOf B x).1 ∧ (pairOf B y).2 < (pairOf B x).2))) → B' p = some (.lst (qs.map V.ref)) → W B' L H' → Q (.ref p) H') : rSortP K [.ref a] H Q := by
  refine ⟨a, ps.map V.ref, fun v => pairOf B (vAd v), rfl, w.sq h, fun x hx => ?_, fun ys p hs hb hn => ?_⟩
  · obtain ⟨t, ht, rfl⟩ := List.mem_map.mp hx
    obtain ⟨i, j, e⟩ := hp t ht
    refine ⟨t, rfl, ?_⟩
    show H t = some (.tup [.int (pairOf B t).1, .int (pairOf B t).2])
    rw [pairOf_eq e]
    exact w.rd e
  · obtain ⟨qs, rfl⟩ := refs_of (ys := ys) fun y hy => by
      obtain ⟨t, _, e⟩ := List.mem_map.mp (hb.perm.mem_iff.mp hy)
      exact ⟨t, e.symm⟩
    have pm := map_ref_perm hb.perm
    have pw : qs.Pairwise (fun x y => ¬ ((pairOf B y).1 < (pairOf B x).1 ∨ ((pairOf B y).1 = (pairOf B x).1 ∧ (pairOf B y).2 < (pairOf B x).2))) := by
      have := List.pairwise_map.mp hs
      exact this.imp fun {x y} hxy => SrtO.lexB_no.mp hxy
    refine q p _ _ qs (same_new (w.freeB hn)) pm (List.pairwise_map.mpr (pw.imp fun {x y} hxy => by omega)) pw upd_same (w.newB hn _)
end Z

/-! Z5: C.__init__(self, ..) of an own class C, by its name; what is never reached. -/
namespace Z
open PySem PySem.Spec PyProof.Rows L2
section
variable {X : Cx} {CX : CXT} {k : Nat} {x m : Str} {C0 fI : Addr} {mc : Value} {fd : FuncData} {ps : List Str} {sp : Sp} {ds : List Value} {dvs : List V} {E : XK} {e : Expr} {es : List Expr} {ta t : TA} {p1 p2 pos : Pos} {st : Stmt} {pl : Sem Bool}
theorem ps_dead : PS X st (fun _ _ _ => False) := ⟨fun _ _ _ _ _ _ h => h.elim⟩
/-- WalkError.__init__(self, ..): nothing of it is told -/
theorem pe_weinit (hg : Gl X x) (hm : X.mg x = some (.ref C0)) (r : ClX.CRead X.K C0 mc) (vV : PySem.W.findCls X.K (.ref C0) mc "__init__" = some (.val (.builtin "ValueError.__init__"))) (ha : PA X (e :: es) ta)
    (hdb : (x == ("__debug__" : Str)) = false := by decide)
    (hc : eval (.Call (.Attribute (.Name x p1) "__init__" p2) (e :: es) [] pos) X.env = (do
      let ov ← eval (.Name x p1) X.env
      standAt p2.atName
      let (f, first) ← holding [ov] (getMethod ov "__init__" pl)
      callWith pos f first (backTo pos (starEach (e :: es) X.env)) (backToKw pos (keywordEach [] X.env))) := by rfl)
    (he : starEach (e :: es) X.env = (false, eval e X.env) :: starEach es X.env := by rfl) (hpl : (backTo pos (starEach es X.env)).any (·.1) = false := by rfl) :
    PE X (.Call (.Attribute (.Name x p1) "__init__" p2) (e :: es) [] pos) (tVeI X.K ta) := by
  refine ⟨fun pins s σ H Q I h => ?_⟩
  refine PySem.W.methodCall_KW (ld_glob I hg hm ?_ hdb) hc
  refine PySem.W.method_cls I.kIn r.ga (PySem.W.cls_value I.kIn r.rd vV (by decide +kernel) ?_)
  show wpAny _ _ (callWith pos (Value.builtin "ValueError.__init__") [] (backTo pos (starEach (e :: es) X.env)) []) _ _ _
  refine PyProof.Rows.callWith_method1 (thn (ha.run pos pins _ σ H _ (I.tok _) h) fun us s1 ⟨vs, H1, I1, r1, a, C, ws, ev, hl, T, ea, q⟩ => ?_) he hpl
  subst ev
  cases r1 with
  | @cons _ u0 _ ur ra rw' =>
    obtain rfl : u0 = Value.ref a := ra
    have hlen : ur.length ≤ sizeLine := by
      rw [← Paired.length rw', sizeLine_eq]
      omega
    exact oinit_ok T I1 ea hlen fun s' J => ⟨.non, H1, J, rfl, q⟩
/-- C.m(a, ..), m a def of the class at C0 -/
theorem pe_cinit (hg : Gl X x) (hm : X.mg x = some (.ref C0)) (r : ClX.CRead X.K C0 mc) (vV : PySem.W.findCls X.K (.ref C0) mc m = some (.val (.ref fI))) (hh : PySem.W.handedIn (.ref fI) = true)
    (F : FnOk X.prog X.w X.K X.mg X.base CX k fI fd ps sp) (hr : Room k X.A) (hk : PySem.W.keepIn X.K (.ref fI) = true) (hb : Binds X.K fd ps ds) (hd : Vals dvs ds) (hx : Passes CX X E) (ha : PA X (e :: es) t)
    (hdb : (x == ("__debug__" : Str)) = false := by decide)
    (hc : eval (.Call (.Attribute (.Name x p1) m p2) (e :: es) [] pos) X.env = (do
      let ov ← eval (.Name x p1) X.env
      standAt p2.atName
      let (f, first) ← holding [ov] (getMethod ov m pl)
      callWith pos f first (backTo pos (starEach (e :: es) X.env)) (backToKw pos (keywordEach [] X.env))) := by rfl)
    (he : starEach (e :: es) X.env = (false, eval e X.env) :: starEach es X.env := by rfl) (hpl : (backTo pos (starEach es X.env)).any (·.1) = false := by rfl) :
    PE X (.Call (.Attribute (.Name x p1) m p2) (e :: es) [] pos) (tCall sp dvs E t) := by
  refine ⟨fun pins s σ H Q I h => ?_⟩
  refine PySem.W.methodCall_KW (ld_glob I hg hm ?_ hdb) hc
  refine PySem.W.method_cls I.kIn r.ga (PySem.W.cls_value I.kIn r.rd vV hh ?_)
  show wpAny _ _ (callWith pos (Value.ref fI) [] (backTo pos (starEach (e :: es) X.env)) []) _ _ _
  refine PySem.W.callWith_K (h₀ := X.base) I.ok.mod.kin hk (thn (ha.run pos pins _ σ H _ (I.tok _) h) fun us s1 ⟨vs, H1, I1, r, q⟩ => ⟨I1.kIn, ?_⟩) he hpl
  exact run_fn F hr hb hd hx I1 r q
end
end Z

/-! Z6: readings of lists: methods, stores, in, sum, sorted. -/
namespace Z
open PySem PySem.Spec PyProof.Rows L2
def rBm (K : PySem.W.Frag) (T : String) (r : V → List V → Hp → VK → Prop) (t : TA) (σ : L2.St) (x : V) (H1 : Hp) (Q : VK) : Prop := tyV K T x H1 ∧ t σ H1 fun xs H2 => r x xs H2 Q
section
variable {K : PySem.W.Frag} {T : String} {r : V → List V → Hp → VK → Prop} {t : TA} {to ti : TE} {σ : L2.St} {H : Hp} {Q : VK} {x y v : V} {l p : Addr} {xs : List V} {ns : List Int} {n : Int} {k : Nat} {ts : TSet} {QS : L2.St → Hp → Prop} {P : Hp → Prop}
theorem g_bm (h : to σ H fun x H1 => rBm K T r t σ x H1 Q) : tBM K T r to t σ H Q := h
theorem g_bm0 (h : to σ H fun x H1 => tyV K T x H1 ∧ r x [] H1 Q) : tBM0 K T r to σ H Q := h
theorem r_bmL (h : SqL K H l xs) (q : t σ H fun xs H2 => r (.ref l) xs H2 Q) : rBm K "list" r t σ (.ref l) H Q := ⟨.inl ⟨rfl, _, h⟩, q⟩
theorem r_append (h : H l = some (.lst xs)) (z : xs.length < sizeLine) (q : Q .non (upd H l (.lst (xs ++ [y])))) : rAppend (.ref l) [y] H Q := ⟨l, xs, y, rfl, rfl, h, z, q⟩
theorem r_extend {zs : List V} (h : H l = some (.lst xs)) (h2 : H p = some (.lst zs)) (z : xs.length + zs.length ≤ sizeLine) (q : Q .non (upd H l (.lst (xs ++ zs)))) : rExtend (.ref l) [.ref p] H Q := ⟨l, p, xs, zs, rfl, rfl, h, h2, z, q⟩
theorem seqIx (h : k < xs.length) : seqIndex? (k : Int) xs.length = some k := by
  unfold seqIndex?
  have e : (if (k : Int) < 0 then (k : Int) + (xs.length : Nat) else (k : Int)) = (k : Int) := if_neg (by omega)
  simp only [e]
  rw [if_pos (by simp; omega)]
  simp
theorem r_popAt (h : H l = some (.lst xs)) (z : xs.length < 2 ^ 62) (e : xs[k]? = some y) (q : Q y (upd H l (.lst (xs.eraseIdx k)))) : rPopAt (.ref l) [.int (k : Nat)] H Q := by
  have hk := (List.getElem?_eq_some_iff.mp e).1
  exact ⟨l, xs, k, k, y, rfl, rfl, h, by omega, by omega, seqIx hk, e, q⟩
def rInsert : V → List V → Hp → VK → Prop := fun x vs H Q => ∃ (l : Addr) (xs : List V) (i : Int) (y : V), x = .ref l ∧ vs = [.int i, y] ∧ H l = some (.lst xs) ∧ xs.length < sizeLine ∧ 0 ≤ i ∧ i < 2 ^ 63 ∧ Q .non (upd H l (.lst (xs.take i.toNat ++ [y] ++ xs.drop i.toNat)))
theorem mt_insertZ {X : Cx} : MtR X "list.insert" rInsert := mt_insert
theorem r_insert (h : H l = some (.lst xs)) (z : xs.length < sizeLine) (hk : k < 2 ^ 62) (q : Q .non (upd H l (.lst (xs.take k ++ [y] ++ xs.drop k)))) : rInsert (.ref l) [.int (k : Nat), y] H Q :=
  ⟨l, xs, k, y, rfl, rfl, h, z, by omega, by omega, q⟩
def rSubS (ts : TSet) (v : V) (QS : Hp → Prop) (o i : V) (H2 : Hp) : Prop := ts o i v H2 QS
theorem g_sub (h : to σ H fun o H1 => ti σ H1 fun i H2 => rSubS ts v (QS σ) o i H2) : gSub to ti ts v σ H QS := h
theorem r_setL (h : H l = some (.lst xs)) (hk : k < xs.length) (q : P (upd H l (.lst (xs.set k v)))) : rSubS rSetL v P (.ref l) (.int (k : Nat)) H := by
  refine ⟨l, xs, k, k, rfl, rfl, h, ?_, q⟩
  unfold ixN
  rw [if_pos (by omega), if_pos (by omega)]
  simp
theorem flat_ints : ∀ ns : List Int, (ns.map V.int).all flatV = true
  | [] => rfl
  | _ :: r => by rw [List.map_cons, List.all_cons, flat_ints r]; rfl
theorem in_ints (n : Int) : ∀ ns : List Int, inV (.int n) (ns.map V.int) = decide (n ∈ ns)
  | [] => by simp [inV]
  | m :: r => by
    have h := in_ints n r
    unfold inV at h ⊢
    rw [List.map_cons, List.any_cons, h]
    show (m == n || decide (n ∈ r)) = decide (n ∈ m :: r)
    by_cases e : n = m
    · subst e; simp
    · have e2 : (m == n) = false := by simpa using fun h : m = n => e h.symm
      rw [e2]
      simp [e]
theorem r_inL (h : SqL K H p (ns.map V.int)) (q : Q (.bl (decide (n ∈ ns))) H) : rIn K false (.int n) (.ref p) H Q := ⟨p, _, rfl, .inl h, rfl, flat_ints ns, by rw [in_ints]; exact q⟩
theorem r_ninL (h : SqL K H p (ns.map V.int)) (q : Q (.bl (!decide (n ∈ ns))) H) : rIn K true (.int n) (.ref p) H Q := ⟨p, _, rfl, .inl h, rfl, flat_ints ns, by rw [in_ints]; exact q⟩
theorem r_sum (h : SqL K H p (ns.map V.int)) (q : Q (.int ns.sum) H) : rSum K [.ref p] H Q := ⟨p, ns, rfl, h, q⟩
theorem r_sortI {B : Hp} {L : List Cell} (w : W B L H) (h : SqL K H p (ns.map V.int)) (q : ∀ (p' : Addr) (B' H' : Hp) (ms : List Int), ms.Perm ns → ms.Pairwise (· ≤ ·) → Same B B' → B' p' = some (.lst (ms.map V.int)) → W B' L H' → Q (.ref p') H') : rSortedI K [.ref p] H Q :=
  ⟨p, ns, rfl, h, fun ms p' h1 h2 hn => q p' _ _ ms h1 h2 (same_new (w.freeB hn)) upd_same (w.newB hn _)⟩
end
end Z

/-! Z7: sorted of a dict's keys, whole numbers, any number of them. -/
namespace Z
open PySem PySem.Spec PyProof.Rows L2
def rSortDI : List V → Hp → VK → Prop := fun xs H Q => ∃ (a : Addr) (kvs : List (Key × V)) (ns : List Int), xs = [.ref a] ∧ Rd H a (.dK kvs) ∧ kvs.map (·.1) = ns.map Sum.inl ∧
  ∀ (ms : List Int) (p : Addr), ms.Perm ns → ms.Pairwise (· ≤ ·) → H p = none → Q (.ref p) (upd H p (.lst (ms.map V.int)))
theorem call_sortDI {X : Cx} (hcalm : X.calm = true) : CallR X (.builtin "sorted") rSortDI := by
  intro pins s σ H xs us Q I r q
  obtain ⟨a, kvs, ns, ex, hd, hks, q⟩ := q
  subst ex
  obtain ⟨u, eu, rx⟩ := vals1 r
  subst eu
  cases rx
  obtain ⟨z, lo, vs, rel, dd⟩ := dk_rd I.hok hd
  obtain ⟨ep, hat⟩ := dd.dictAt
  have hkeys : vs.map (·.1) = ns.map Sum.inl := rel.keys.symm.trans hks
  have hl : vs.length = ns.length := by
    have e := congrArg List.length hkeys
    rw [List.length_map, List.length_map] at e
    exact e
  have h16 : vs.length ≤ sizeLine := by rw [← rel.length]; exact z
  refine Calls.call_function_entry PyProof.Rows.kind_sorted PyProof.Rows.plain_sorted PyProof.Rows.entry_sorted (PyProof.Rows.args_sorted1 _) ?_
  unfold Builtin.«sorted»
  refine wpAny_bind (m := checkCount "sorted" 1 1 _) (wpAny_pure ?_)
  refine wpAny_bind (PySem.W.kdu_collect (A := X.A.in1) (PySem.W.kdl_dict (knd := mixKind X.prog X.w) (kvs := vs) (ep := ep) lo) (I.ok.hd hcalm) hat h16 fun h' tk acc hk hacc => ?_)
  have hv : Vals (vs.map fun p => kV p.1) acc.toList := keys_at (by rw [Array.length_toList]; exact hacc.1) fun j v e => hacc.2 j v (by rw [← Array.getElem?_toList]; exact e)
  have ek : (vs.map fun p => kV p.1) = ns.map V.int := by
    have e := congrArg (List.map kV) hkeys
    rw [List.map_map, List.map_map] at e
    exact e
  rw [ek] at hv
  have hi := hv.ints
  have hal : acc.toList.length = ns.length := by rw [Array.length_toList, hacc.1, hl]
  have hz : acc.toList.length ≤ sizeLine := by rw [hal, ← hl]; exact h16
  have I1 : Inv X pins σ H { s with heap := h', toks := tk } := I.kept hk
  refine wpAny_bind (wpAny_newList ?_ hz)
  have hoL : (h'.push (seqObj "list" acc.toList.toArray 0)).get? h'.objs.size = some (seqObj "list" acc.toList.toArray 0) := Heap.get?_push_size _ rfl
  show wpAny _ _ _ _ _ { s with heap := h'.push (seqObj "list" acc.toList.toArray 0), toks := tk }
  refine wpAny_bind (wpAny_holding (wpAny_call_entry PyProof.Rows.slot_list_sort ⟨_, hoL, rfl⟩ PyProof.Rows.entry_list_sort
    (SrtO.list_sort_ord SrtO.swo_int (s := { s with heap := h'.push (seqObj "list" acc.toList.toArray 0), toks := tk }) hoL hz (fun h2 => SrtO.ints_sortable hi h2) fun out h1 h2 => ⟨_, rfl, ?_⟩)
    (PyProof.Rows.args_list_sort _)))
  obtain ⟨k1, k2, k3⟩ := SrtO.ints_out hi h1 h2
  obtain ⟨e', he'⟩ := PyProof.Rows.sortedHeap_at (vs := acc.toList) (out := out.toArray) hoL
  have hlen : ((out.map SrtO.iv).map V.int).length ≤ sizeLine := by
    rw [List.length_map, k2.length_eq, ← hl]
    exact h16
  refine wpAny_pure ⟨_, rfl, .ref h'.objs.size, upd H h'.objs.size (.lst ((out.map SrtO.iv).map V.int)), I1.laid (t' := tk) (fun b u e => ?_) (Nat.le_refl _)
    (show ObjOk X.prog X.w _ _ _ (.lst ((out.map SrtO.iv).map V.int)) from ⟨hlen, out, e', vals_of_ints k1, he'⟩), rfl, q _ _ k2 k3 (I1.hok.fresh (Nat.le_refl _))⟩
  have hb : b < h'.objs.size := Heap.lt_size e
  rw [PyProof.Rows.sortedHeap_old (Nat.ne_of_lt hb) (by rw [size_push']; exact Nat.lt_succ_of_lt hb)]
  exact Heap.get?_push_of_some _ e
end Z

/-! Z8: slices by a step of two or more. -/
namespace Z
open PySem PySem.Spec PyProof.Rows L2
theorem vals_pick {xs : List V} {us : List Value} (r : Vals xs us) : ∀ js : List Nat, Vals (js.filterMap (xs[·]?)) (js.filterMap (us.toArray[·]?))
  | [] => .nil
  | j :: js => by
    have ih := vals_pick r js
    cases e : xs[j]? with
    | none =>
      have e2 : us[j]? = none := r.none_of e
      have e3 : us.toArray[j]? = none := by simpa using e2
      rw [List.filterMap_cons_none e, List.filterMap_cons_none e3]
      exact ih
    | some x =>
      obtain ⟨u, e2, ru⟩ := r.get e
      have e3 : us.toArray[j]? = some u := by simpa using e2
      rw [List.filterMap_cons_some e, List.filterMap_cons_some e3]
      exact .cons ru ih
theorem range_up {a b c : Int} (ha : 0 ≤ a) (hc : 0 < c) : (sliceRange a b c).Pairwise (· < ·) := by
  unfold sliceRange
  refine List.pairwise_map.mpr ?_
  refine List.pairwise_lt_range.imp ?_
  intro i j hij
  have h1 : 0 ≤ c * (i : Int) := Int.mul_nonneg (by omega) (by omega)
  have h2 : c * (i : Int) < c * (j : Int) := Int.mul_lt_mul_of_pos_left (by omega) hc
  omega
def rStep (K : PySem.W.Frag) (Q : VK) (x : V) (H : Hp) : Prop := ∃ a xs, x = .ref a ∧ SqL K H a xs ∧ ∀ (js : List Nat) p, js.Pairwise (· < ·) → (js.filterMap (xs[·]?)).length ≤ xs.length → H p = none → Q (.ref p) (upd H p (.lst (js.filterMap (xs[·]?))))
def tStep0 (K : PySem.W.Frag) (te : TE) : TE := fun σ H Q => te σ H (rStep K Q)
def tStepL (K : PySem.W.Frag) (te : TE) (lo : Int) : TE := fun σ H Q => te σ H (rStep K Q)
section
variable {X : Cx}
theorem pe_step {e : Expr} {te : TE} {low : Option Expr} {tl : TO} {lo : Option Int} {c : Int} {k : Nat} {p1 p3 pos : Pos} (hc : 0 < c) (hp : PO X low tl) (htl : ∀ σ H (Q : Option Int → Hp → Prop), Q lo H → tl σ H Q) (he : PE X e te) : PE X (.Subscript e (.Slice low none (some (.Constant (.int c) k p1)) p3) pos) (tStep0 X.K te) := by
  refine ⟨fun pins s σ H Q I h => ?_⟩
  refine Subscript_ (thn (he.run pins s σ H _ I h) fun v s1 ⟨x, H1, I1, r1, q1⟩ => ?_)
  obtain ⟨a, xs, ex, hx, q⟩ := q1
  subst ex
  cases r1
  have hst : PO X (some (.Constant (.int c) k p1)) (tPart (tC (.int c))) := po_some pe_int
  refine wpAny_Slice (thn (hp.run pins s1 σ H1 (fun o H2 => o = lo ∧ H2 = H1) I1 (htl _ _ _ ⟨rfl, rfl⟩)) fun vl s2 ⟨l, H2, I2, pl, el, e2⟩ => ?_)
  subst el e2
  refine thn (po_none.run pins s2 σ H2 (fun o H3 => o = none ∧ H3 = H2) I2 ⟨rfl, rfl⟩) fun vu s3 ⟨u, H3, I3, pu, eu, e3⟩ => ?_
  subst eu e3
  refine thn (hst.run pins s3 σ H3 (fun o H4 => o = some c ∧ H4 = H3) I3 ⟨c, rfl, rfl, rfl⟩) fun vs s4 ⟨o, H4, I4, ps, eo, e4⟩ => ?_
  subst eo e4
  have I5 : Inv X pins σ H4 { s4 with heap := s4.heap.push { cls := .type "slice", data := .fields #[vl, vu, vs] } } := I4.kept (t' := s4.toks) fun b ob q => Heap.get?_push_of_some _ q
  obtain ⟨its, r, ht, hz⟩ := I5.list hx
  have hlen := r.length
  show wpAny (model X.prog X.w) X.A (subscriptTail e (.Slice low none (some (.Constant (.int c) k p1)) p3) (.ref a) (.ref s4.heap.objs.size)) (EP X pins σ Q) X.xe { s4 with heap := s4.heap.push { cls := .type "slice", data := .fields #[vl, vu, vs] } }
  refine tail_any (ops := [.ref a, .ref s4.heap.objs.size]) ht.isList.typeIs (PySem.slot_list_getitem.lookup) ?_ (by with_unfolding_all rfl)
  refine wpAny_getItem_list_slice ht.isList (Heap.IsSliceOf.new _ vl vu vs) pl pu ps (by simp; omega) ?_ (by rw [List.size_toArray]; omega)
  have h1 := slicePick_size_le its.toArray l none (some c)
  have hv := vals_pick r (sliceRange (sliceBounds l none (some c) its.toArray.size).1 (sliceBounds l none (some c) its.toArray.size).2.1 (sliceBounds l none (some c) its.toArray.size).2.2)
  have hj : (sliceRange (sliceBounds l none (some c) its.toArray.size).1 (sliceBounds l none (some c) its.toArray.size).2.1 (sliceBounds l none (some c) its.toArray.size).2.2).Pairwise (· < ·) := by
    have h3 : (sliceBounds l none (some c) its.toArray.size).2.2 = c := rfl
    rw [h3]
    refine range_up ?_ hc
    simp only [sliceBounds, Option.getD_some, gt_iff_lt, hc, if_true]
    cases l with
    | none => simp
    | some i => dsimp only; omega
  unfold slicePick at h1 ⊢
  generalize sliceRange (sliceBounds l none (some c) its.toArray.size).1 (sliceBounds l none (some c) its.toArray.size).2.1 (sliceBounds l none (some c) its.toArray.size).2.2 = js at h1 hv hj ⊢
  have hl2 : (js.filterMap (xs[·]?)).length ≤ xs.length := by rw [hv.length]; rw [List.size_toArray, List.size_toArray] at h1; omega
  refine ⟨.ref _, _, I5.laid (t' := s4.toks) (o := .lst (js.filterMap (xs[·]?))) (fun b ob q => Heap.get?_push_of_some _ q) (Nat.le_refl _) ?_, rfl, q js _ hj hl2 (I5.hok.fresh (Nat.le_refl _))⟩
  exact ⟨by omega, _, 0, hv, Heap.get?_push_size _ rfl⟩
theorem pe_step0 {e : Expr} {te : TE} {c : Int} {k : Nat} {p1 p3 pos : Pos} (hc : 0 < c) (he : PE X e te) : PE X (.Subscript e (.Slice none none (some (.Constant (.int c) k p1)) p3) pos) (tStep0 X.K te) :=
  pe_step (lo := none) hc po_none (fun _ _ _ h => h) he
theorem pe_stepL {e : Expr} {te : TE} {c lo : Int} {k k2 : Nat} {p1 p2 p3 pos : Pos} (hc : 0 < c) (he : PE X e te) : PE X (.Subscript e (.Slice (some (.Constant (.int lo) k2 p2)) none (some (.Constant (.int c) k p1)) p3) pos) (tStep0 X.K te) :=
  pe_step (lo := some lo) (tl := tPart (tC (.int lo))) hc (po_some pe_int) (fun _ _ _ h => ⟨lo, rfl, h⟩) he
end
section
variable {K : PySem.W.Frag} {σ : L2.St} {B H : Hp} {L : List Cell} {te : TE} {a : Addr} {ns : List Int} {Q : VK}
theorem g_step0 (h : te σ H (rStep K Q)) : tStep0 K te σ H Q := h
theorem pick_int (ns : List Int) : ∀ js : List Nat, js.filterMap ((ns.map V.int)[·]?) = (js.filterMap (ns[·]?)).map V.int
  | [] => rfl
  | j :: js => by
    have ih := pick_int ns js
    cases e : ns[j]? with
    | none => rw [List.filterMap_cons_none (by rw [List.getElem?_map, e]; rfl), List.filterMap_cons_none e, ih]
    | some n => rw [List.filterMap_cons_some (b := V.int n) (by rw [List.getElem?_map, e]; rfl), List.filterMap_cons_some e, ih]; rfl
theorem pick_mem {ns : List Int} {js : List Nat} {n : Int} (h : n ∈ js.filterMap (ns[·]?)) : n ∈ ns := by
  obtain ⟨j, _, e⟩ := List.mem_filterMap.mp h
  exact List.mem_of_getElem? e
theorem pick_nd {ns : List Int} {js : List Nat} (h : ns.Nodup) (hj : js.Pairwise (· < ·)) : (js.filterMap (ns[·]?)).Nodup := by
  unfold List.Nodup
  refine List.pairwise_filterMap.mpr (hj.imp ?_)
  intro i j hij x hx y hy e
  subst e
  obtain ⟨h1, e1⟩ := List.getElem?_eq_some_iff.mp hx
  obtain ⟨h2, e2⟩ := List.getElem?_eq_some_iff.mp hy
  have := List.pairwise_iff_getElem.mp h i j h1 h2 hij
  rw [e1, e2] at this
  exact this rfl
/-- every so many of a list of numbers: some of them, none twice where none stood twice -/
theorem d_step (w : W B L H) (h : SqL K H a (ns.map V.int)) (q : ∀ (ms : List Int) p B' H', (∀ n ∈ ms, n ∈ ns) → (ns.Nodup → ms.Nodup) → ms.length ≤ ns.length → H p = none → Same B B' → B' p = some (.lst (ms.map V.int)) → W B' L H' → Q (.ref p) H') : rStep K Q (.ref a) H := by
  refine ⟨a, _, rfl, h, fun js p hj hl hp => ?_⟩
  rw [pick_int] at hl ⊢
  rw [List.length_map, List.length_map] at hl
  exact q _ p _ _ (fun n => pick_mem) (fun hn => pick_nd hn hj) hl hp (same_new (w.freeB hp)) upd_same (w.newB hp _)
end
section
variable {K : PySem.W.Frag} {σ : L2.St} {B H : Hp} {L : List Cell} {te : TE} {a : Addr} {xs : List V} {Q : VK}
def rRevL (K : PySem.W.Frag) (Q : VK) (x : V) (H1 : Hp) : Prop := ∃ a xs, x = .ref a ∧ SqL K H1 a xs ∧ ∀ p, H1 p = none → Q (.ref p) (upd H1 p (.lst xs.reverse))
theorem g_revL (h : te σ H (rRevL K Q)) : tRevL K te σ H Q := h
theorem d_revL (w : W B L H) (h : SqL K H a xs) (q : ∀ p B' H', H p = none → Same B B' → B' p = some (.lst xs.reverse) → W B' L H' → Q (.ref p) H') : rRevL K Q (.ref a) H :=
  ⟨a, xs, rfl, h, fun p hp => q p _ _ hp (same_new (w.freeB hp)) upd_same (w.newB hp _)⟩
end
end Z

/-! Z9: dicts with whole numbers as keys; enumerate. -/
namespace Z
open PySem PySem.Spec PyProof.Rows L2
/-- the keys of a dict, in their order -/
def Ks (kvs : List (Key × V)) (ns : List Int) : Prop := kvs.map (·.1) = ns.map Sum.inl
section
variable {kvs : List (Key × V)} {ns : List Int} {n : Int} {v : V}
theorem Ks.nil : Ks [] [] := rfl
theorem Ks.len (h : Ks kvs ns) : kvs.length = ns.length := by
  have e := congrArg List.length h
  rwa [List.length_map, List.length_map] at e
theorem inl_mem {ns : List Int} {n : Int} : (Sum.inl n : Key) ∈ ns.map Sum.inl ↔ n ∈ ns := by
  rw [List.mem_map]
  constructor
  · rintro ⟨m, h, e⟩; cases e; exact h
  · exact fun h => ⟨n, h, rfl⟩
theorem Ks.isSome (h : Ks kvs ns) : (valV kvs (Sum.inl n)).isSome = decide (n ∈ ns) := by
  cases e : valV kvs (Sum.inl n) with
  | none =>
    have h1 := valV_not e
    rw [h, inl_mem] at h1
    exact (decide_eq_false h1).symm
  | some v =>
    have h1 := valV_in e
    rw [h, inl_mem] at h1
    exact (decide_eq_true h1).symm
theorem Ks.some (h : Ks kvs ns) (hn : n ∈ ns) : ∃ v, valV kvs (Sum.inl n) = some v := by
  have e := h.isSome (n := n)
  rw [decide_eq_true hn] at e
  exact Option.isSome_iff_exists.mp e
theorem Ks.none (h : Ks kvs ns) (hn : n ∉ ns) : valV kvs (Sum.inl n) = none := by
  have e := h.isSome (n := n)
  rw [decide_eq_false hn] at e
  cases e2 : valV kvs (Sum.inl n) with
  | none => rfl
  | some u => rw [e2] at e; cases e
theorem Ks.new (h : Ks kvs ns) (hn : n ∉ ns) : Ks (putK kvs (Sum.inl n) v) (ns ++ [n]) := by
  rw [putK_new v (h.none hn)]
  unfold Ks at h ⊢
  rw [List.map_append, h, List.map_append]
  rfl
theorem Ks.old (h : Ks kvs ns) (hn : n ∈ ns) : Ks (putK kvs (Sum.inl n) v) ns := by
  have e : (kvs.any fun kv => decide (kv.1 = Sum.inl n)) = true := by rw [valV_any, h.isSome, decide_eq_true hn]
  unfold Ks putK at *
  rw [if_pos e, List.map_map, ← h]
  refine List.map_congr_left fun p _ => ?_
  show (if p.1 = Sum.inl n then (p.1, v) else p).1 = p.1
  split <;> rfl
theorem Ks.drop : ∀ {kvs : List (Key × V)} {ns : List Int}, Ks kvs ns → Ks (dropK kvs (Sum.inl n)) (ns.filter fun m => !decide (m = n))
  | [], [], _ => rfl
  | [], _ :: _, h => nomatch h
  | _ :: _, [], h => nomatch h
  | p :: r, m :: ms, h => by
    unfold Ks at h
    rw [List.map_cons, List.map_cons] at h
    injection h with h1 h2
    have ih := Ks.drop (show Ks r ms from h2)
    by_cases e : m = n
    · subst e
      rw [dropK_pos h1, List.filter_cons_of_neg (by simp)]
      exact ih
    · rw [dropK_neg (by rw [h1]; intro z; cases z; exact e rfl), List.filter_cons_of_pos (by simpa using e)]
      unfold Ks at ih ⊢
      rw [List.map_cons, List.map_cons, h1, ih]
end
section
variable {K : PySem.W.Frag} {σ : L2.St} {H : Hp} {Q : VK} {td ty tx : TE} {a : Addr} {kvs : List (Key × V)} {n : Int} {v z : V}
def rDPop1 (Q : VK) (ty : TE) (σ : L2.St) (x : V) (H1 : Hp) : Prop := ∃ a, x = .ref a ∧ IsD H1 a ∧ ty σ H1 fun y H2 => ∃ kvs k v, H2 a = some (.dK kvs) ∧ y = kV k ∧ valV kvs k = some v ∧ Q v (upd H2 a (.dK (dropK kvs k)))
def rDP1 (Q : VK) (a : Addr) (y : V) (H2 : Hp) : Prop := ∃ kvs k v, H2 a = some (.dK kvs) ∧ y = kV k ∧ valV kvs k = some v ∧ Q v (upd H2 a (.dK (dropK kvs k)))
theorem g_dpop1 (h : td σ H (rDPop1 Q ty σ)) : tDPop1 td ty σ H Q := h
theorem r_dpop1 (h : IsD H a) (q : ty σ H (rDP1 Q a)) : rDPop1 Q ty σ (.ref a) H := ⟨a, rfl, h, q⟩
theorem r_dp1 (h : H a = some (.dK kvs)) (e : valV kvs (Sum.inl n) = some v) (q : Q v (upd H a (.dK (dropK kvs (Sum.inl n))))) : rDP1 Q a (.int n) H := ⟨kvs, Sum.inl n, v, h, rfl, e, q⟩
theorem isD_of (h : H a = some (.dK kvs)) : IsD H a := .inl ⟨kvs, .inl h⟩
end
section
variable {K : PySem.W.Frag} {σ : L2.St} {H : Hp} {D : Ends} {tb : TS} {g : TG} {R : It → Hp → Prop} {ta : TA} {a : Addr} {xs : List V}
def rEnum (K : PySem.W.Frag) (R : It → Hp → Prop) (vs : List V) (H1 : Hp) : Prop := ∃ a xs, vs = [.ref a] ∧ SqL K H1 a xs ∧ R (Ite K a) H1
theorem g_enum (h : ta σ H (rEnum K R)) : iEnum K ta σ H R := h
theorem r_enum (h : SqL K H a xs) (q : R (Ite K a) H) : rEnum K R [.ref a] H := ⟨a, xs, rfl, h, q⟩
theorem FOR.enum (Pv : Nat → L2.St → Hp → Prop) (h0 : Pv 0 σ H) (hl : ∀ i σ H, i ≤ xs.length → Pv i σ H → SqL K H a xs)
    (hs : ∀ i x σ H T, xs[i]? = some x → Pv i σ H → H T = none → g (.ref T) σ (upd H T (.tup [.int (i : Nat), x])) fun σ2 H2 => tb { D with nx := Pv (i + 1), ct := Pv (i + 1), bk := D.nx } σ2 H2) (hd : ∀ σ H, Pv xs.length σ H → D.nx σ H) : FOR (Ite K a) g tb D σ H := by
  refine ⟨fun i m σ H => m + i = xs.length ∧ Pv i σ H, ⟨xs.length, by omega, h0⟩, fun i m σ H ⟨hm, p⟩ => ?_⟩
  have hq := hl i σ H (by omega) p
  by_cases c : i = xs.length
  · subst c
    exact .inl ⟨⟨xs, hq, Nat.le_refl _⟩, hd _ _ p⟩
  · have hi : i < xs.length := by omega
    refine .inr ⟨⟨xs, xs[i], hq, List.getElem?_eq_getElem hi⟩, Pv (i + 1), fun σ' H' h' => ⟨m - 1, by omega, by omega, h'⟩, fun x H' hy => ?_⟩
    obtain ⟨T, y, rfl, hT, rfl, hx⟩ := hy
    exact hs i y σ H T (hx _ hq) p hT
end
section
variable {K : PySem.W.Frag} {B H : Hp} {L : List Cell} {Q : VK} {a : Addr} {kvs : List (Key × V)} {ns : List Int}
theorem r_sortD (w : W B L H) (h : H a = some (.dK kvs)) (ks : Ks kvs ns) (q : ∀ (ms : List Int) (p : Addr) (B' H' : Hp), ms.Perm ns → ms.Pairwise (· ≤ ·) → Same B B' → B' p = some (.lst (ms.map V.int)) → W B' L H' → Q (.ref p) H') : rSortDI [.ref a] H Q :=
  ⟨a, kvs, ns, rfl, .inl h, ks, fun ms p h1 h2 hn => q ms p _ _ h1 h2 (same_new (w.freeB hn)) upd_same (w.newB hn _)⟩
end
end Z

/-! Z12: exceptions of the program's own classes: made, raised, caught, asked. -/
namespace Z
open PySem PySem.Spec PyProof.Rows L2
/-- what the written part says of an exception's class -/
structure XC (K : PySem.W.Frag) (C : Addr) : Prop where
  ox : OexC K C
  ex : ExcC K C
  sl : PySem.W.subIn K (.ref C) (.ref C) = some true
section
variable {K : PySem.W.Frag} {A B C : Addr} {b : Bool}
theorem XC.xf (h : XC K C) : XfC K C := ⟨h.ex.hg, h.ex.hk, h.ex.hs, h.ex.hd⟩
theorem XC.exm (h : XC K C) (s : PySem.W.subIn K (.ref A) (.ref C) = some b) : PySem.W.exmOne K (.ref A) (.ref C) = some b := PySem.W.exm_ref h.ex.hs h.ex.hd h.ox.tyC s
theorem XC.kit (hA : XC K A) (h : XC K C) (s : PySem.W.subIn K (.ref A) (.ref C) = some b) : PySem.W.kitOne K (.ref A) (.ref C) = some b := by
  obtain ⟨cd, hc, _⟩ := PySem.W.any_some h.ex.hd
  unfold PySem.W.kitOne
  by_cases e : A = C
  · subst e
    rw [hA.sl] at s
    cases s
    simp
  · have e2 : (Value.ref A == Value.ref C) = false := by
      refine Bool.eq_false_iff.mpr fun q => e (Value.ref.inj (beq_iff_eq.mp q))
    rw [e2, if_neg Bool.false_ne_true]
    show (if ((PySem.W.clsIn K C).isSome && PySem.W.typeIn K (.ref C) == some (.type "type")) = true then PySem.W.subIn K (.ref A) (.ref C) else none) = some b
    have e3 : ((PySem.W.clsIn K C).isSome && PySem.W.typeIn K (.ref C) == some (.type "type")) = true := by rw [hc, h.ox.tyC] <;> rfl
    rw [if_pos e3, s]
theorem kitVE (s : PySem.W.subIn K (.ref A) (.type "ValueError") = some b) : PySem.W.kitOne K (.ref A) (.type "ValueError") = some b := by
  unfold PySem.W.kitOne
  have e2 : (Value.ref A == Value.type "ValueError") = false := Bool.eq_false_iff.mpr fun q => nomatch (beq_iff_eq.mp q)
  rw [e2, if_neg Bool.false_ne_true]
  have e3 : PySem.W.kitMeta "ValueError" = true := by decide +kernel
  show (if PySem.W.kitMeta "ValueError" = true then PySem.W.subIn K (.ref A) (.type "ValueError") else none) = some b
  rw [if_pos e3, s]
end
/-! ### isinstance(e, c), e.f in a suite -/
def rIsX (K : PySem.W.Frag) (a : Addr) (cls : Value) (d : Option Addr) : List V → Hp → VK → Prop := fun xs H Q => ∃ (D : Addr) (c : V) (cv : Value) (b : Bool), xs = [.ref a, c] ∧ cls = .ref D ∧ XC K D ∧ (d = none ∨ ∃ dd fs, d = some dd ∧ H dd = some (.xd fs)) ∧ (∀ u, RelV c u → u = cv) ∧ PySem.W.kitOne K (.ref D) cv = some b ∧ Q (.bl b) H
theorem call_isX {X : Cx} {a : Addr} {oe : Obj} {cls : Value} {d : Option Addr} {pn : List (Addr × Obj)} (hz : Zc cls d oe) (hf : ∃ vs, oe.data = .fields vs) : CallR (X.suite a ((a, oe) :: pn)) (.builtin "isinstance") (rIsX X.K a cls d) := by
  intro pins s σ H xs us Q I r h
  obtain ⟨D, c, cv, b, rfl, rfl, C, hd, hcv, e, q⟩ := h
  cases r with
  | cons rx rr =>
    cases rr with
    | cons rt rr =>
      cases rr
      cases rx
      have ec := hcv _ rt
      subst ec
      obtain ⟨hget, _⟩ := I.pin (a, oe) (List.mem_append.mpr (.inl List.mem_cons_self))
      obtain ⟨vs, hv⟩ := hf
      have hcl : (PySem.W.clsIn X.K D).isSome = true := by
        obtain ⟨cd, hc, _⟩ := PySem.W.any_some C.ex.hd
        rw [hc]
        rfl
      obtain ⟨od, J⟩ : ∃ od : Option Obj, PySem.W.InstAt s.heap a oe D od := by
        rcases hd with rfl | ⟨dd, fs, rfl, ed⟩
        · refine ⟨none, ?_⟩
          obtain ⟨oc, od, oda, osl⟩ := oe
          obtain ⟨h1, h2⟩ := hz
          dsimp only at h1 h2 hv
          subst h1 h2 hv
          exact ⟨hget, rfl, rfl, trivial⟩
        · have hx : ObjOk X.prog X.w H s.heap dd (.xd fs) := I.hok dd _ ed
          obtain ⟨mA, hns, hr⟩ := hx
          obtain ⟨od, ho, hl⟩ := lookIn_ns hns
          exact ⟨some od, hget, hz.1, by unfold PySem.W.notCls; rw [hv] <;> rfl, by rw [hz.2]; exact ho⟩
      exact PySem.W.kia_one (PySem.W.kitx_exc hcl C.ex.hg C.ex.hk C.ex.hs C.ex.ha C.ex.hn C.ex.ht C.ex.hm) I.kIn J e (fun z => nomatch z) fun tk => ⟨.bl b, H, I.kept (t' := tk) fun _ _ z => z, rfl, q⟩
def rXf (K : PySem.W.Frag) (a : Addr) (cls : Value) (d : Option Addr) (f : Str) (Q : VK) (x : V) (H1 : Hp) : Prop := x = .ref a ∧ ∃ (C dd : Addr) (fs : List (Str × V)) (v : V), cls = .ref C ∧ XC K C ∧ PySem.W.findIn K (.ref C) f = some none ∧ d = some dd ∧ H1 dd = some (.xd fs) ∧ fs.lookup f = some v ∧ Q v H1
def tXfA (K : PySem.W.Frag) (a : Addr) (cls : Value) (d : Option Addr) (f : Str) (te : TE) : TE := fun σ H Q => te σ H (rXf K a cls d f Q)
theorem pe_xfA {X : Cx} {a : Addr} {oe : Obj} {cls : Value} {d : Option Addr} {pn : List (Addr × Obj)} {e : Expr} {te : TE} {pos : Pos} {n : Str}
    (hz : Zc cls d oe) (hf : ∃ vs, oe.data = .fields vs) (he : PE (X.suite a ((a, oe) :: pn)) e te) (hb : attributeBase e n X.env (eval e X.env) = eval e X.env := by rfl) :
    PE (X.suite a ((a, oe) :: pn)) (.Attribute e n pos) (tXfA X.K a cls d n te) := by
  refine ⟨fun pins s σ H Q I h => ?_⟩
  refine attr_of hb (thn (he.run pins s σ H _ I h) fun u s1 hh => ?_)
  obtain ⟨x, H1, I1, rx, ex, C, dd, fs, v, ec, T, hno, ed, ea, l, q⟩ := hh
  subst ex
  obtain rfl : u = Value.ref a := rx
  subst ec
  subst ed
  obtain ⟨ha, _⟩ := I1.pin (a, oe) (List.mem_append_left _ List.mem_cons_self)
  obtain ⟨vs, hd⟩ := hf
  have hx : ObjOk X.prog X.w H1 s1.heap dd (.xd fs) := I1.hok dd _ ea
  obtain ⟨mA, hns, hr⟩ := hx
  obtain ⟨od, ho, hl⟩ := lookIn_ns hns
  obtain ⟨u, hu, ru⟩ := RelO.some_of (v := v) (o := mA n) (by rw [← l]; exact hr n)
  have J : PySem.W.InstAt s1.heap a oe C (some od) := ⟨ha, hz.1, by unfold PySem.W.notCls; rw [hd] <;> rfl, by rw [hz.2]; exact ho⟩
  exact HandSPX.exc_get I1.kIn J T.ex.hg T.ex.hk T.ex.hs (PySem.W.findObj_own T.ex.hd hno rfl (by rw [hl, hu])) (handed_of ru) ⟨v, H1, I1.tok _, ru, q⟩
/-! ### calls in a try's body -/
section
variable {X : Cx} {CX : CXT} {k : Nat} {f C : Addr} {fd : FuncData} {ps : List Str} {sp : Sp} {E : L2.St → XK} {x m : Str} {p pos apos : Pos} {e o : Expr} {es : List Expr} {ta : TE} {t : TA} {ds : List Value} {dvs : List V}
theorem run_fnW {pins : List (Addr × Obj)} {σ : L2.St} {H : Hp} {s : Shared} {Q : VK} {us : List Value} {vs : List V} (F : FnOk X.prog X.w X.K X.mg X.base CX k f fd ps sp) (hr : Room k X.A) (hb : Binds X.K fd ps ds) (hd : Vals dvs ds) (hx : PassesAt CX X σ (E σ))
    (I : Inv X pins σ H s) (r : Vals vs us) (h : sp (vs ++ dvs) H Q (E σ)) : wpAny (model X.prog X.w) X.A (call (.ref f) us) (EP X pins σ Q) X.xe s := by
  have r2 : Vals (vs ++ dvs) (us ++ ds) := r.append hd
  have hl : (us ++ ds).length = ps.length := by rw [← r2.length]; exact F.len _ _ _ _ h
  refine wpAny_call (codeAny_mono (F.run X.A X.stack s H ⟨us, []⟩ (us ++ ds) (vs ++ dvs) Q (E σ) hr I.env0 (hb s us I.kIn hl) r2 h) fun r s' hq => ?_)
  cases r with
  | error e => exact hx pins H s e s' I hq
  | ok fl =>
    cases fl with
    | ret u => exact I.after hq
    | next => exact False.elim hq
    | brk => exact False.elim hq
    | cont => exact False.elim hq
def tCallW (sp : Sp) (dvs : List V) (E : L2.St → XK) (t : TA) : TE := fun σ H Q => t σ H fun vs H1 => sp (vs ++ dvs) H1 Q (E σ)
def tMethW (C : Addr) (m : Str) (sp : Sp) (dvs : List V) (E : L2.St → XK) (ta : TE) (t : TA) : TE := fun σ H Q => ta σ H fun x H1 => rMe C m (t σ H1 fun vs H2 => sp (x :: (vs ++ dvs)) H2 Q (E σ)) x H1
theorem pe_callW (F : FnOk X.prog X.w X.K X.mg X.base CX k f fd ps sp) (hr : Room k X.A) (hg : Gl X x) (hm : X.mg x = some (.ref f)) (hk : PySem.W.keepIn X.K (.ref f) = true) (hb : Binds X.K fd ps ds) (hd : Vals dvs ds) (hx : ∀ σ, PassesAt CX X σ (E σ))
    (ha : PA X (e :: es) t) (hdb : (x == ("__debug__" : Str)) = false := by decide) (he : starEach (e :: es) X.env = (false, eval e X.env) :: starEach es X.env := by rfl) (hpl : (backTo pos (starEach es X.env)).any (·.1) = false := by rfl) :
    PE X (.Call (.Name x p) (e :: es) [] pos) (tCallW sp dvs E t) := by
  refine ⟨fun pins s σ H Q I h => ?_⟩
  refine wpAny_Call_Name_kw (ld_glob I hg hm ?_ hdb)
  refine PySem.W.callWith_K (h₀ := X.base) I.ok.mod.kin hk (thn (ha.run pos pins s σ H _ I h) fun us s1 ⟨vs, H1, I1, r, q⟩ => ⟨I1.kIn, ?_⟩) he hpl
  exact run_fnW F hr hb hd (hx σ) I1 r q
theorem pe_methW {pl : Sem Bool} (he : PE X o ta) (c : Cls X.K C) (hm : Meth X.K C m f) (F : FnOk X.prog X.w X.K X.mg X.base CX k f fd ps sp) (hr : Room k X.A) (hb : Binds X.K fd ps ds) (hd : Vals dvs ds) (hx : ∀ σ, PassesAt CX X σ (E σ)) (ha : PA X (e :: es) t)
    (hst : starEach (e :: es) X.env = (false, eval e X.env) :: starEach es X.env := by rfl) (hpl : (backTo pos (starEach es X.env)).any (·.1) = false := by rfl)
    (ht : eval (.Call (.Attribute o m apos) (e :: es) [] pos) X.env = (do
      let ov ← eval o X.env
      standAt apos.atName
      let (f, first) ← holding [ov] (getMethod ov m pl)
      callWith pos f first (backTo pos (starEach (e :: es) X.env)) (backToKw pos (keywordEach [] X.env))) := by rfl) :
    PE X (.Call (.Attribute o m apos) (e :: es) [] pos) (tMethW C m sp dvs E ta t) := by
  refine ⟨fun pins s σ H Q I h => ?_⟩
  refine PySem.W.methodCall_KW (pl := pl) (thn (he.run pins s σ H _ I h) fun u s1 ⟨x, H1, I1, rx, a, dx, fs, ex, ea, l, q⟩ => ?_) ht
  subst ex
  obtain rfl : u = Value.ref a := rx
  refine getmeth_ok I1 ea c hm l ?_
  refine PySem.W.callWith_K (first := [.ref a]) (h₀ := X.base) I.ok.mod.kin hm.kp (thn (ha.run pos pins s1 σ H1 _ I1 q) fun us s2 ⟨vs, H2, I2, r, q2⟩ => ⟨I2.kIn, ?_⟩) hst hpl
  exact run_fnW (us := .ref a :: us) (vs := .ref a :: vs) F hr hb hd (hx σ) I2 (.cons rfl r) q2
theorem pe_meth0W {pl : Sem Bool} (he : PE X o ta) (c : Cls X.K C) (hm : Meth X.K C m f) (F : FnOk X.prog X.w X.K X.mg X.base CX k f fd ps sp) (hr : Room k X.A) (hb : Binds X.K fd ps ds) (hd : Vals dvs ds) (hx : ∀ σ, PassesAt CX X σ (E σ))
    (ht : eval (.Call (.Attribute o m apos) [] [] pos) X.env = (do
      let ov ← eval o X.env
      standAt apos.atName
      let (f, first) ← holding [ov] (getMethod ov m pl)
      callWith pos f first (backTo pos (starEach [] X.env)) (backToKw pos (keywordEach [] X.env))) := by rfl) :
    PE X (.Call (.Attribute o m apos) [] [] pos) (tMethW C m sp dvs E ta tNil) := by
  refine ⟨fun pins s σ H Q I h => ?_⟩
  refine PySem.W.methodCall_KW (pl := pl) (thn (he.run pins s σ H _ I h) fun u s1 ⟨x, H1, I1, rx, a, dx, fs, ex, ea, l, q⟩ => ?_) ht
  subst ex
  obtain rfl : u = Value.ref a := rx
  refine getmeth_ok I1 ea c hm l ?_
  exact PySem.W.callWith_K0 (first := [.ref a]) I1.kIn hm.kp (run_fnW (us := [.ref a]) (vs := [.ref a]) F hr hb hd (hx σ) I1 (.cons rfl .nil) q)
end
/-! ### raise C(e), C's __init__ keeping one field -/
def rMkO (C : Addr) (sp : Sp) (dvs : List V) (Q : XK) (vs : List V) (H1 : Hp) : Prop := vs.length ≤ 1000 ∧ ∀ a, H1 a = none → sp (.ref a :: (vs ++ dvs)) (upd H1 a (exo a C none))
  (fun v H2 => v = .non ∧ ∃ (d : Addr) (fs : List (Str × V)), H2 a = some (exo a C (some d)) ∧ H2 d = some (exd d fs) ∧ H1 d = none ∧ Q (.ref C) (some d) (upd (del H2 a) d (.xd fs))) (fun _ _ _ => False)
def tRaiseO (C : Addr) (sp : Sp) (dvs : List V) (WW : WX) (ta : TA) : TS := fun _ σ H => ta σ H (rMkO C sp dvs fun cls d H' => WW cls d σ H')
section
variable {X : Cx} {WW : WX} {x : Str} {C fI : Addr} {k : Nat} {fd : FuncData} {ps : List Str} {sp : Sp} {ds : List Value} {dvs : List V} {CX : CXT} {e : Expr} {es : List Expr} {ta : TA} {p pos pos2 : Pos}
theorem ps_raiseO (hc : X.calm = true) (tk : Takes X WW) (T : XC X.K C) (iC : PySem.W.findIn X.K (.ref C) "__init__" = some (some (.ref fI))) (tI : PySem.W.typeIn X.K (.ref fI) = some (.type "function"))
    (F1 : FnOk X.prog X.w X.K X.mg X.base CX k fI fd ps sp) (hr : Room (k + 1) X.A) (hb : Binds X.K fd ps ds) (hd : Vals dvs ds) (hx : Passes CX X (fun _ _ _ => False)) (hg : Gl X x) (hm : X.mg x = some (.ref C)) (ha : PA X (e :: es) ta)
    (hdb : (x == ("__debug__" : Str)) = false := by decide) (he : starEach (e :: es) X.env = (false, eval e X.env) :: starEach es X.env := by rfl) (hpl : (backTo pos (starEach es X.env)).any (·.1) = false := by rfl) :
    PS X (.Raise (some (.Call (.Name x p) (e :: es) [] pos)) none pos2) (tRaiseO C sp dvs WW ta) :=
  ps_raise hc tk (pmk_oex T.ox iC tI F1 hr hb hd hx hg hm ha hdb he hpl)
end
section
variable {K : PySem.W.Frag} {σ : L2.St} {B H : Hp} {L : List Cell} {C a : Addr} {sp : Sp} {dvs : List V} {WW Wout : WX} {ta : TA} {te to : TE} {D : Ends} {Q : VK} {QX : XK} {f : Str} {v y : V} {cls c : Value} {d : Option Addr} {i : Nat} {ts : Addr → Value → Option Addr → TS} {tb : WX → TS} {P : Hp → Prop}
theorem g_raiseO (h : ta σ H (rMkO C sp dvs fun cls d H' => WW cls d σ H')) : tRaiseO C sp dvs WW ta D σ H := h
/-- the promise of an __init__ that keeps one field -/
def spX1 (C : Addr) (f : Str) : Sp := Sp2 fun x y H Q _ => ∃ a, x = .ref a ∧ H a = some (exo a C none) ∧ ∀ d, H d = none → d ≠ a → Q .non (upd (upd H d (exd d [(f, y)])) a (exo a C (some d)))
theorem r_raiseX1 (w : W B L H) (q : ∀ d B' H', Same B B' → B' d = some (.xd [(f, v)]) → W B' L H' → QX (.ref C) (some d) H') : rMkO C (spX1 C f) [] QX [v] H := by
  refine ⟨by simp, fun a ha => ⟨_, _, rfl, a, rfl, upd_same, fun d hd hda => ⟨rfl, d, [(f, v)], upd_same, by rw [upd_ne hda, upd_same], ?_, ?_⟩⟩⟩
  · rw [upd_ne hda] at hd; exact hd
  · have hd0 : H d = none := by rw [upd_ne hda] at hd; exact hd
    have e : upd (del (upd (upd (upd H a (exo a C none)) d (exd d [(f, v)])) a (exo a C (some d))) a) d (.xd [(f, v)]) = upd H d (.xd [(f, v)]) := by
      funext b
      by_cases hb : b = d
      · subst hb; rw [upd_same, upd_same]
      · rw [upd_ne hb, upd_ne hb]
        by_cases hb2 : b = a
        · subst hb2; rw [del_same, ha]
        · rw [del_ne hb2, upd_ne hb2, upd_ne hb, upd_ne hb2]
    rw [e]
    exact q d _ _ (same_new (w.freeB hd0)) upd_same (w.newB hd0 _)
def rOst (K : PySem.W.Frag) (f : Str) (P : Hp → Prop) (y x : V) (H2 : Hp) : Prop := ∃ a C : Addr, x = .ref a ∧ OexC K C ∧ PySem.W.findIn K (.ref C) f = some none ∧
  ((H2 a = some (exo a C none) ∧ ∀ dx, H2 dx = none → dx ≠ a → P (upd (upd H2 dx (exd dx [(f, y)])) a (exo a C (some dx)))) ∨
    ∃ (dx : Addr) (fs : List (Str × V)), H2 a = some (exo a C (some dx)) ∧ H2 dx = some (exd dx fs) ∧ fs.length ≤ 900 ∧ P (upd H2 dx (exd dx ((f, y) :: fs))))
theorem g_ost (h : te σ H fun y H1 => to σ H1 (rOst K f (D.nx σ) y)) : tOst K f to te D σ H := h
theorem r_ost (T : OexC K C) (hno : PySem.W.findIn K (.ref C) f = some none) (h : H a = some (exo a C none)) (q : ∀ dx, H dx = none → dx ≠ a → P (upd (upd H dx (exd dx [(f, y)])) a (exo a C (some dx)))) : rOst K f P y (.ref a) H :=
  ⟨a, C, rfl, T, hno, .inl ⟨h, q⟩⟩
def rVei (K : PySem.W.Frag) (Q : VK) (vs : List V) (H1 : Hp) : Prop := ∃ (a C : Addr) (ws : List V), vs = .ref a :: ws ∧ ws.length ≤ 1000 ∧ OexC K C ∧ H1 a = some (exo a C none) ∧ Q .non H1
theorem g_vei (h : ta σ H (rVei K Q)) : tVeI K ta σ H Q := h
theorem r_vei {ws : List V} (T : OexC K C) (hl : ws.length ≤ 1000) (h : H a = some (exo a C none)) (q : Q .non H) : rVei K Q (.ref a :: ws) H := ⟨a, C, ws, rfl, hl, T, h, q⟩
/-! ### try: .. except C as e: .. -/
def tTryAs (K : PySem.W.Frag) (c : Value) (i : Nat) (tb : WX → TS) (ts : Addr → Value → Option Addr → TS) (Wout : WX) : TS := fun D σ H => tb (wAs K c i ts Wout D) D σ H
theorem g_tryAs (h : tb (wAs K c i ts Wout D) D σ H) : tTryAs K c i tb ts Wout D σ H := h
theorem r_caught (hx : PySem.W.exmOne K cls c = some true) (h : ∀ a, H a = none → ts a cls d { nx := fun σ' H' => D.nx (σ'.set i none) H', rt := D.rt, bk := fun σ' H' => D.bk (σ'.set i none) H', ct := fun σ' H' => D.ct (σ'.set i none) H' } (σ.set i (some (.ref a))) H) : wAs K c i ts Wout D cls d σ H :=
  ⟨true, hx, fun _ => h, nofun⟩
theorem r_passed (hx : PySem.W.exmOne K cls c = some false) (h : Wout cls d σ H) : wAs K c i ts Wout D cls d σ H := ⟨false, hx, nofun, fun _ => h⟩
theorem g_xfA (h : te σ H (rXf K a cls d f Q)) : tXfA K a cls d f te σ H Q := h
theorem r_xf {fs : List (Str × V)} {dd : Addr} (T : XC K C) (hno : PySem.W.findIn K (.ref C) f = some none) (h : H dd = some (.xd fs)) (l : fs.lookup f = some v) (q : Q v H) : rXf K a (.ref C) (some dd) f Q (.ref a) H :=
  ⟨rfl, C, dd, fs, v, rfl, T, hno, rfl, h, l, q⟩
theorem r_isXC {fs : List (Str × V)} {dd A : Addr} {b : Bool} (TA : XC K A) (TC : XC K C) (s : PySem.W.subIn K (.ref A) (.ref C) = some b) (h : H dd = some (.xd fs)) (q : Q (.bl b) H) : rIsX K a (.ref A) (some dd) [.ref a, .ref C] H Q :=
  ⟨A, .ref C, .ref C, b, rfl, rfl, TA, .inr ⟨dd, fs, rfl, h⟩, fun u r => r, TA.kit TC s, q⟩
theorem r_isXV {fs : List (Str × V)} {dd A : Addr} {b : Bool} (TA : XC K A) (s : PySem.W.subIn K (.ref A) (.type "ValueError") = some b) (h : H dd = some (.xd fs)) (q : Q (.bl b) H) : rIsX K a (.ref A) (some dd) [.ref a, .ty "ValueError"] H Q :=
  ⟨A, .ty "ValueError", .type "ValueError", b, rfl, rfl, TA, .inr ⟨dd, fs, rfl, h⟩, fun u r => r, kitVE s, q⟩
theorem g_callW {E : L2.St → XK} {t : TA} (h : t σ H fun vs H1 => sp (vs ++ dvs) H1 Q (E σ)) : tCallW sp dvs E t σ H Q := h
theorem g_methW {E : L2.St → XK} {t : TA} {ta0 : TE} {m : Str} (h : ta0 σ H fun x H1 => rMe C m (t σ H1 fun vs H2 => sp (x :: (vs ++ dvs)) H2 Q (E σ)) x H1) : tMethW C m sp dvs E ta0 t σ H Q := h
end
end Z
namespace Z
open PySem PySem.Spec PyProof.Rows L2
section
variable {X : Cx} {x n : Str} {c : Value} {i : Nat} {body suite : List Stmt} {b₀ : Stmt} {np pos pos' : Pos} {tb : WX → TS} {ts : Addr → Value → Option Addr → TS} {Wout : WX}
theorem ps_tryAs (hs : X.stack = X.env :: X.outer) (hf : X.env.frame = some X.env.locals) (hN : X.N.Nodup) (hi : X.N[i]? = some n) (hln : X.env.kindOf n = some .local) (hc : Names X x c) (tk : Takes X Wout)
    (hb : ∀ (W : WX) (pn : List (Addr × Obj)) (xe : Value → Shared → Prop), Takes (X.tr pn xe) W → PassesOwn (model X.prog X.w) X.A X.env xe → PSs (X.tr pn xe) body (tb W))
    (hsu : ∀ (a : Addr) (oe : Obj) (cls : Value) (d : Option Addr) (pn : List (Addr × Obj)), Zc cls d oe → (∃ vs, oe.data = .fields vs) → PSs (X.suite a ((a, oe) :: pn)) (b₀ :: suite) (ts a cls d)) :
    PS X (.Try body [.ExceptHandler (some (.Name x np)) (some n) (b₀ :: suite) pos'] [] [] pos) (tTryAs X.K c i tb ts Wout) := ps_try_as hs hf hN hi hln hc tk hb hsu
end
end Z

/-! Mlv: leaves in plain Lean. -/
namespace Z
/-- the head of the i-th leaf -/
def hdL (ls : List (List Int)) (i : Nat) : Int := (ls.getD i []).headD 0
/-- how many leaves begin at a key or ahead of it, as long as they do so -/
def cnL (ls : List (List Int)) (key : Int) : Nat := (ls.takeWhile fun l => decide (l.headD 0 ≤ key)).length
def laL (ls : List (List Int)) (key : Int) : Nat := cnL ls key - 1
theorem cnL_le (key : Int) : ∀ ls : List (List Int), cnL ls key ≤ ls.length
  | [] => Nat.le_refl _
  | l :: ls => by
    unfold cnL
    rw [List.takeWhile_cons]
    have := cnL_le key ls
    unfold cnL at this
    split
    · simp only [List.length_cons]; omega
    · simp
theorem cnL_lt (key : Int) : ∀ (ls : List (List Int)) (i : Nat), i < cnL ls key → hdL ls i ≤ key
  | [], i, h => by simp [cnL] at h
  | l :: ls, i, h => by
    unfold cnL at h
    rw [List.takeWhile_cons] at h
    split at h
    · rename_i c
      cases i with
      | zero => simpa [hdL] using c
      | succ i =>
        have := cnL_lt key ls i (by unfold cnL; simp only [List.length_cons] at h; omega)
        simpa [hdL] using this
    · simp at h
theorem cnL_at (key : Int) : ∀ ls : List (List Int), cnL ls key < ls.length → key < hdL ls (cnL ls key)
  | [], h => by simp [cnL] at h
  | l :: ls, h => by
    unfold cnL at h ⊢
    rw [List.takeWhile_cons] at h ⊢
    split
    · rename_i c
      rw [if_pos c] at h
      have := cnL_at key ls (by unfold cnL; simp only [List.length_cons] at h; omega)
      unfold cnL at this
      simpa [hdL] using this
    · rename_i c
      simp [hdL] at c ⊢
      omega
/-- the heads do not fall -/
def HdUp (ls : List (List Int)) : Prop := ∀ i j, i ≤ j → j < ls.length → hdL ls i ≤ hdL ls j
theorem laL_of {ls : List (List Int)} {key : Int} {lo hi : Nat} (up : HdUp ls) (h1 : lo = 0 ∨ (lo < ls.length ∧ hdL ls lo ≤ key)) (h2 : hi = ls.length ∨ (hi < ls.length ∧ key < hdL ls hi)) (h3 : hi ≤ lo + 1) : lo = laL ls key := by
  have c1 := cnL_le key ls
  have c2 := cnL_lt key ls
  have c3 := cnL_at key ls
  have a : cnL ls key ≤ hi := by
    rcases h2 with rfl | ⟨h2, h4⟩
    · exact c1
    · rcases Nat.lt_or_ge hi (cnL ls key) with h | h
      · have := c2 hi h; omega
      · exact h
  unfold laL
  rcases h1 with rfl | ⟨h1, h4⟩
  · omega
  · rcases Nat.lt_or_ge lo (cnL ls key) with h | h
    · omega
    · have := c3 (by omega)
      have := up _ _ h h1
      omega
end Z

/-! Mlv2: what keeps leaves fit. -/
namespace Z
/-- two neighbours have five or more -/
def nbL : List (List Int) → Prop
  | a :: b :: r => 5 ≤ a.length + b.length ∧ nbL (b :: r)
  | _ => True
theorem nbL_tail {a : List Int} {r : List (List Int)} (h : nbL (a :: r)) : nbL r := by
  cases r with
  | nil => exact True.intro
  | cons b r => exact h.2
theorem nbL_app {a : List Int} {r : List (List Int)} : ∀ pre : List (List Int), nbL (pre ++ a :: r) ↔ nbL (pre ++ [a]) ∧ nbL (a :: r)
  | [] => by simp [nbL]
  | [x] => by show (5 ≤ _ ∧ nbL (a :: r)) ↔ (5 ≤ _ ∧ True) ∧ _; simp
  | x :: y :: pre => by
    have h := nbL_app (a := a) (r := r) (y :: pre)
    show (5 ≤ _ ∧ nbL ((y :: pre) ++ a :: r)) ↔ (5 ≤ _ ∧ nbL ((y :: pre) ++ [a])) ∧ _
    rw [h, and_assoc]
theorem nbL_end {a b : List Int} (hab : a.length ≤ b.length) : ∀ pre : List (List Int), nbL (pre ++ [a]) → nbL (pre ++ [b])
  | [], _ => True.intro
  | [x], h => ⟨by have := h.1; omega, True.intro⟩
  | x :: y :: pre, h => ⟨h.1, nbL_end hab (y :: pre) h.2⟩
theorem nbL_beg {a b : List Int} (hab : a.length ≤ b.length) : ∀ {r : List (List Int)}, nbL (a :: r) → nbL (b :: r)
  | [], _ => True.intro
  | _ :: _, h => ⟨by have := h.1; omega, h.2⟩
theorem nbL_get : ∀ {ls : List (List Int)}, nbL ls → ∀ i, i + 1 < ls.length → 5 ≤ (ls.getD i []).length + (ls.getD (i + 1) []).length
  | [], _, i, h => by simp at h
  | [_], _, i, h => by simp at h
  | a :: b :: r, hn, 0, _ => hn.1
  | a :: b :: r, hn, i + 1, h => nbL_get (ls := b :: r) hn.2 i (by simpa using h)
/-- join_at at a place from nought on -/
def jnL' (ls : List (List Int)) (k : Nat) : List (List Int) := if k + 1 < ls.length ∧ (ls.getD k [] ++ ls.getD (k + 1) []).length < 5 then (ls.set k (ls.getD k [] ++ ls.getD (k + 1) [])).eraseIdx (k + 1) else ls
structure LInv (ls : List (List Int)) : Prop where
  ne : ∀ l ∈ ls, l ≠ []
  l8 : ∀ l ∈ ls, l.length ≤ 8
  up : ∀ l ∈ ls, l.Pairwise (· < ·)
  far : ls.Pairwise fun a b => ∀ x ∈ a, ∀ y ∈ b, x < y
  nb : nbL ls
theorem LInv.nil : LInv [] := ⟨by simp, by simp, by simp, by simp, True.intro⟩
theorem LInv.srt {ls : List (List Int)} (h : LInv ls) : ls.flatten.Pairwise (· < ·) := List.pairwise_flatten.mpr ⟨h.up, h.far⟩
theorem getD_mem {ls : List (List Int)} {i : Nat} (h : i < ls.length) : ls.getD i [] ∈ ls := by
  rw [List.getD_eq_getElem?_getD, List.getElem?_eq_getElem h]
  exact List.getElem_mem h
theorem getD_get {ls : List (List Int)} {i : Nat} (h : i < ls.length) : ls.getD i [] = ls[i] := by
  rw [List.getD_eq_getElem?_getD, List.getElem?_eq_getElem h]
  rfl
theorem hd_mem {ls : List (List Int)} (h : LInv ls) {i : Nat} (hi : i < ls.length) : hdL ls i ∈ ls.getD i [] := by
  have := h.ne _ (getD_mem hi)
  unfold hdL
  cases e : ls.getD i [] with
  | nil => exact absurd e this
  | cons x r => exact List.mem_cons_self ..
theorem hd_le {ls : List (List Int)} (h : LInv ls) {i : Nat} (hi : i < ls.length) {x : Int} (hx : x ∈ ls.getD i []) : hdL ls i ≤ x := by
  have hp := h.up _ (getD_mem hi)
  unfold hdL
  cases e : ls.getD i [] with
  | nil => rw [e] at hx; cases hx
  | cons y r =>
    rw [e] at hx hp
    show y ≤ x
    rcases List.mem_cons.mp hx with rfl | hx
    · exact Int.le_refl _
    · exact Int.le_of_lt ((List.pairwise_cons.mp hp).1 x hx)
theorem far_at {ls : List (List Int)} (h : LInv ls) {i j : Nat} (hij : i < j) (hj : j < ls.length) {x y : Int} (hx : x ∈ ls.getD i []) (hy : y ∈ ls.getD j []) : x < y := by
  have hi : i < ls.length := by omega
  rw [getD_get hi] at hx
  rw [getD_get hj] at hy
  exact List.pairwise_iff_getElem.mp h.far i j hi hj hij x hx y hy
theorem LInv.hdUp {ls : List (List Int)} (h : LInv ls) : HdUp ls := fun i j hij hj => by
  rcases Nat.lt_or_ge i j with c | c
  · exact Int.le_of_lt (far_at h c hj (hd_mem h (by omega)) (hd_mem h hj))
  · have : i = j := by omega
    subst this
    exact Int.le_refl _
theorem LInv.neD {ls : List (List Int)} (h : LInv ls) (i : Nat) (hi : i < ls.length) : ls.getD i [] ≠ [] := h.ne _ (getD_mem hi)
theorem split3 {α : Type} (ls : List α) (i : Nat) (h : i < ls.length) : ls = ls.take i ++ ls[i] :: ls.drop (i + 1) := by
  rw [List.getElem_cons_drop h, List.take_append_drop]
theorem set3 {α : Type} (ls : List α) (i : Nat) (m : α) (h : i < ls.length) : ls.set i m = ls.take i ++ m :: ls.drop (i + 1) := by
  rw [List.set_eq_take_append_cons_drop, if_pos h]
theorem erase3 {α : Type} (ls : List α) (i : Nat) : ls.eraseIdx i = ls.take i ++ ls.drop (i + 1) := List.eraseIdx_eq_take_drop_succ ..
/-- where a key's leaf stands: what lies ahead is less, what lies behind is greater -/
theorem la_ahead {ls : List (List Int)} (h : LInv ls) {key : Int} {j : Nat} (hj : j < laL ls key) {x : Int} (hx : x ∈ ls.getD j []) : x < key := by
  have c1 := cnL_le key ls
  unfold laL at hj
  have := cnL_lt key ls (cnL ls key - 1) (by omega)
  have := far_at h (show j < cnL ls key - 1 by omega) (by omega) hx (hd_mem h (by omega))
  omega
theorem la_behind {ls : List (List Int)} (h : LInv ls) {key : Int} {j : Nat} (hj : laL ls key < j) (hl : j < ls.length) {x : Int} (hx : x ∈ ls.getD j []) : key < x := by
  unfold laL at hj
  have c3 := cnL_at key ls (by omega)
  have h1 := h.hdUp (cnL ls key) j (by omega) hl
  have h2 := hd_le h hl hx
  omega
theorem mem_fl {ls : List (List Int)} {x : Int} : x ∈ ls.flatten ↔ ∃ j, j < ls.length ∧ x ∈ ls.getD j [] := by
  rw [List.mem_flatten]
  constructor
  · rintro ⟨l, hl, hx⟩
    obtain ⟨j, hj, rfl⟩ := List.getElem_of_mem hl
    exact ⟨j, hj, by rw [getD_get hj]; exact hx⟩
  · rintro ⟨j, hj, hx⟩
    exact ⟨_, getD_mem hj, hx⟩
theorem la_mem {ls : List (List Int)} (h : LInv ls) (key : Int) : (ls ≠ [] ∧ key ∈ ls.getD (laL ls key) []) ↔ key ∈ ls.flatten := by
  rw [mem_fl]
  constructor
  · rintro ⟨hn, hk⟩
    refine ⟨_, ?_, hk⟩
    have := cnL_le key ls
    have : 0 < ls.length := List.length_pos_iff.mpr hn
    unfold laL
    omega
  · rintro ⟨j, hj, hx⟩
    refine ⟨fun e => by rw [e] at hj; simp at hj, ?_⟩
    rcases Nat.lt_trichotomy j (laL ls key) with c | c | c
    · have := la_ahead h c hx; omega
    · rw [← c]; exact hx
    · have := la_behind h c hj hx; omega
theorem LInv.of {ls : List (List Int)} (ne : ∀ l ∈ ls, l ≠ []) (l8 : ∀ l ∈ ls, l.length ≤ 8) (s : ls.flatten.Pairwise (· < ·)) (nb : nbL ls) : LInv ls :=
  ⟨ne, l8, (List.pairwise_flatten.mp s).1, (List.pairwise_flatten.mp s).2, nb⟩
theorem set_mid {α : Type} {x a : α} {r : List α} : ∀ pre : List α, (pre ++ a :: r).set pre.length x = pre ++ x :: r
  | [] => rfl
  | y :: pre => by rw [List.cons_append, List.length_cons, List.set_cons_succ, set_mid pre, List.cons_append]
theorem erase_mid {α : Type} {x b : α} {r : List α} : ∀ pre : List α, (pre ++ x :: b :: r).eraseIdx (pre.length + 1) = pre ++ x :: r
  | [] => rfl
  | y :: pre => by rw [List.cons_append, List.length_cons, List.eraseIdx_cons_succ, erase_mid pre, List.cons_append]
/-- a joined pair -/
theorem jn_two {pre r : List (List Int)} {a b : List Int} : jnL' (pre ++ a :: b :: r) pre.length = if (a ++ b).length < 5 then pre ++ (a ++ b) :: r else pre ++ a :: b :: r := by
  unfold jnL'
  have e1 : (pre ++ a :: b :: r).getD pre.length [] = a := by simp [List.getD_eq_getElem?_getD]
  have e2 : (pre ++ a :: b :: r).getD (pre.length + 1) [] = b := by simp [List.getD_eq_getElem?_getD]
  rw [e1, e2]
  by_cases c : (a ++ b).length < 5
  · rw [if_pos ⟨by simp, c⟩, if_pos c, set_mid, erase_mid]
  · rw [if_neg fun h => c h.2, if_neg c]
theorem jn_last {pre : List (List Int)} {a : List Int} : jnL' (pre ++ [a]) pre.length = pre ++ [a] := by
  unfold jnL'
  rw [if_neg (by simp)]
theorem nb_join {pre r : List (List Int)} {a b : List Int} (h1 : nbL (pre ++ [a])) (h2 : nbL (b :: r)) : nbL (jnL' (pre ++ a :: b :: r) pre.length) := by
  rw [jn_two]
  by_cases c : (a ++ b).length < 5
  · rw [if_pos c]
    exact (nbL_app pre).mpr ⟨nbL_end (by simp) pre h1, nbL_beg (by simp) h2⟩
  · rw [if_neg c]
    rw [List.length_append] at c
    exact (nbL_app pre).mpr ⟨h1, by omega, h2⟩
theorem fl_jn {ls : List (List Int)} {k : Nat} : (jnL' ls k).flatten = ls.flatten := by
  by_cases h : k + 1 < ls.length
  · have e := split3 ls k (by omega)
    have e2 := split3 (ls.drop (k + 1)) 0 (by rw [List.length_drop]; omega)
    rw [List.take_zero, List.nil_append] at e2
    rw [e2] at e
    have hk : (ls.take k).length = k := by rw [List.length_take]; omega
    generalize ls.take k = pre at e hk
    generalize ls[k] = a at e
    generalize (ls.drop (k + 1))[0]'_ = b at e
    subst hk
    rw [e, jn_two]
    split <;> simp
  · unfold jnL'
    rw [if_neg fun c => h c.1]
def hsL (ls : List (List Int)) (key : Int) : Bool := decide (ls ≠ [] ∧ key ∈ ls.getD (laL ls key) [])
theorem hsL_eq {ls : List (List Int)} (h : LInv ls) (key : Int) : hsL ls key = decide (key ∈ ls.flatten) := by
  unfold hsL
  rw [decide_eq_decide]
  exact la_mem h key
theorem laL_lt {ls : List (List Int)} {key : Int} (h : ls ≠ []) : laL ls key < ls.length := by
  have := cnL_le key ls
  have : 0 < ls.length := List.length_pos_iff.mpr h
  unfold laL
  omega
/-- what an added key makes of the leaves -/
def AddR (ls : List (List Int)) (key : Int) (ls' : List (List Int)) : Prop := (ls = [] ∧ ls' = [[key]]) ∨ (ls ≠ [] ∧ ∃ ms : List Int, ms.Perm (ls.getD (laL ls key) [] ++ [key]) ∧ ms.Pairwise (· ≤ ·) ∧
  ls' = if 8 < ms.length then (ls.set (laL ls key) (ms.take 4)).take (laL ls key + 1) ++ [ms.drop 4] ++ (ls.set (laL ls key) (ms.take 4)).drop (laL ls key + 1) else ls.set (laL ls key) ms)
/-- two neighbours become one, where they are small -/
def jnL (ls : List (List Int)) (k : Int) : List (List Int) := if 0 ≤ k ∧ k + 1 < ls.length ∧ (ls.getD k.toNat [] ++ ls.getD (k.toNat + 1) []).length < 5 then (ls.set k.toNat (ls.getD k.toNat [] ++ ls.getD (k.toNat + 1) [])).eraseIdx (k.toNat + 1) else ls
theorem jnL_nat (ls : List (List Int)) (k : Nat) : jnL ls (k : Int) = jnL' ls k := by
  unfold jnL jnL'
  rw [Int.toNat_natCast]
  by_cases c : k + 1 < ls.length ∧ (ls.getD k [] ++ ls.getD (k + 1) []).length < 5
  · rw [if_pos c, if_pos ⟨by omega, by omega, c.2⟩]
  · rw [if_neg c, if_neg fun h => c ⟨by omega, h.2.2⟩]
theorem jnL_neg (ls : List (List Int)) {k : Int} (h : k < 0) : jnL ls k = ls := by
  unfold jnL
  rw [if_neg fun c => by omega]
theorem jn_l8 {ls : List (List Int)} {k : Int} (h : ∀ l ∈ ls, l.length ≤ 8) : ∀ l ∈ jnL ls k, l.length ≤ 8 := by
  unfold jnL
  split
  · rename_i c
    intro l hl
    have hl := List.mem_of_mem_eraseIdx hl
    rcases List.mem_or_eq_of_mem_set hl with hl | rfl
    · exact h l hl
    · omega
  · exact h
theorem jn_ne {ls : List (List Int)} {k : Int} (h : ∀ l ∈ ls, l ≠ []) : ∀ l ∈ jnL ls k, l ≠ [] := by
  unfold jnL
  split
  · rename_i c
    intro l hl
    have hl := List.mem_of_mem_eraseIdx hl
    rcases List.mem_or_eq_of_mem_set hl with hl | rfl
    · exact h l hl
    · have := h _ (getD_mem (ls := ls) (i := k.toNat) (by omega))
      intro e
      exact this (List.append_eq_nil_iff.mp e).1
  · exact h
theorem jn_fl {ls : List (List Int)} {k : Int} : (jnL ls k).flatten = ls.flatten := by
  by_cases c : k < 0
  · rw [jnL_neg ls c]
  · obtain ⟨j, rfl⟩ : ∃ j : Nat, k = j := ⟨k.toNat, by omega⟩
    rw [jnL_nat]
    exact fl_jn
/-- what is left of the leaves without a key -/
def dsL (ls : List (List Int)) (key : Int) : List (List Int) :=
  if (ls.getD (laL ls key) []).filter (fun n => !decide (n = key)) = [] then ls.eraseIdx (laL ls key)
  else jnL (jnL (ls.set (laL ls key) ((ls.getD (laL ls key) []).filter (fun n => !decide (n = key)))) (laL ls key)) ((laL ls key : Int) - 1)
theorem nb_del {lf : List Int} (h1 : lf.length ≤ 1) {suf : List (List Int)} : ∀ pre : List (List Int), nbL (pre ++ lf :: suf) → nbL (pre ++ suf)
  | [], h => nbL_tail h
  | [y], h => by
    cases suf with
    | nil => exact True.intro
    | cons b r => exact ⟨by have := h.1; have := h.2.1; omega, h.2.2⟩
  | x :: y :: pre, h => ⟨h.1, nb_del h1 (y :: pre) h.2⟩
theorem nb_dis {lf lg : List Int} {pre suf : List (List Int)} (h : nbL (pre ++ lf :: suf)) : nbL (jnL (jnL (pre ++ lg :: suf) pre.length) ((pre.length : Int) - 1)) := by
  have hs : nbL suf := nbL_tail ((nbL_app pre).mp h).2
  obtain ⟨m, r', e, hm⟩ : ∃ m r', jnL (pre ++ lg :: suf) pre.length = pre ++ m :: r' ∧ nbL (m :: r') := by
    rw [jnL_nat]
    cases suf with
    | nil => exact ⟨lg, [], jn_last, True.intro⟩
    | cons b r =>
      rw [jn_two]
      by_cases c : (lg ++ b).length < 5
      · rw [if_pos c]
        exact ⟨_, _, rfl, nbL_beg (by simp) hs⟩
      · rw [if_neg c]
        rw [List.length_append] at c
        exact ⟨_, _, rfl, by omega, hs⟩
  rw [e]
  rcases List.eq_nil_or_concat pre with rfl | ⟨pre0, p, rfl⟩
  · rw [jnL_neg _ (by simp)]
    exact hm
  · rw [List.concat_eq_append, List.length_append, List.length_singleton, show (((pre0.length + 1 : Nat) : Int) - 1) = (pre0.length : Int) by omega, jnL_nat, List.append_assoc]
    rw [List.concat_eq_append, List.append_assoc] at h
    exact nb_join ((nbL_app pre0).mp h).1 hm
theorem pre_lt {ls : List (List Int)} (h : LInv ls) {key x : Int} (hx : x ∈ (ls.take (laL ls key)).flatten) : x < key := by
  obtain ⟨l, hl, hx⟩ := List.mem_flatten.mp hx
  obtain ⟨j, hj, rfl⟩ := List.getElem_of_mem hl
  rw [List.length_take] at hj
  rw [List.getElem_take] at hx
  exact la_ahead h (show j < laL ls key by omega) (by rw [getD_get (by omega)]; exact hx)
theorem suf_gt {ls : List (List Int)} (h : LInv ls) {key x : Int} (hx : x ∈ (ls.drop (laL ls key + 1)).flatten) : key < x := by
  obtain ⟨l, hl, hx⟩ := List.mem_flatten.mp hx
  obtain ⟨j, hj, rfl⟩ := List.getElem_of_mem hl
  rw [List.length_drop] at hj
  rw [List.getElem_drop] at hx
  exact la_behind h (show laL ls key < laL ls key + 1 + j by omega) (by omega) (by rw [getD_get (by omega)]; exact hx)
theorem filter_id {xs : List Int} {key : Int} (h : ∀ x ∈ xs, x ≠ key) : xs.filter (fun n => !decide (n = key)) = xs :=
  List.filter_eq_self.mpr fun x hx => by simp [h x hx]
theorem dis_law {ls : List (List Int)} {key : Int} (h : LInv ls) (hk : key ∈ ls.flatten) : LInv (dsL ls key) ∧ (dsL ls key).flatten = ls.flatten.filter (fun n => !decide (n = key)) := by
  obtain ⟨hn, hm⟩ := (la_mem h key).mpr hk
  have hl := laL_lt (key := key) hn
  have p1 : ∀ x ∈ (ls.take (laL ls key)).flatten, x ≠ key := fun x hx => by have := pre_lt h hx; omega
  have p2 : ∀ x ∈ (ls.drop (laL ls key + 1)).flatten, x ≠ key := fun x hx => by have := suf_gt h hx; omega
  have e := split3 ls (laL ls key) hl
  have e3 : ls.set (laL ls key) ((ls.getD (laL ls key) []).filter (fun n => !decide (n = key))) = ls.take (laL ls key) ++ (ls.getD (laL ls key) []).filter (fun n => !decide (n = key)) :: ls.drop (laL ls key + 1) := set3 _ _ _ hl
  have e4 := erase3 ls (laL ls key)
  have e5 := getD_get hl
  have ek : (ls.take (laL ls key)).length = laL ls key := by rw [List.length_take]; omega
  have ef : ls.flatten.filter (fun n => !decide (n = key)) = (ls.take (laL ls key)).flatten ++ (ls.getD (laL ls key) []).filter (fun n => !decide (n = key)) ++ (ls.drop (laL ls key + 1)).flatten := by
    conv => lhs; rw [e]
    rw [List.flatten_append, List.flatten_cons, List.filter_append, List.filter_append, filter_id p1, filter_id p2, ← e5, List.append_assoc]
  have fl : (dsL ls key).flatten = ls.flatten.filter (fun n => !decide (n = key)) := by
    rw [ef]
    unfold dsL
    split
    · rename_i c
      rw [c, e4, List.flatten_append, List.append_nil]
    · rw [jn_fl, jn_fl, e3, List.flatten_append, List.flatten_cons, List.append_assoc]
  refine ⟨LInv.of ?_ ?_ (by rw [fl]; exact h.srt.filter _) ?_, fl⟩
  · unfold dsL
    split
    · exact fun l hl => h.ne l (List.mem_of_mem_eraseIdx hl)
    · rename_i c
      refine jn_ne (jn_ne fun l hl => ?_)
      rcases List.mem_or_eq_of_mem_set hl with hl | rfl
      · exact h.ne l hl
      · exact c
  · unfold dsL
    split
    · exact fun l hl => h.l8 l (List.mem_of_mem_eraseIdx hl)
    · refine jn_l8 (jn_l8 fun l hl => ?_)
      rcases List.mem_or_eq_of_mem_set hl with hl | rfl
      · exact h.l8 l hl
      · exact Nat.le_trans (List.length_filter_le _ _) (h.l8 _ (getD_mem (by assumption)))
  · have nb := h.nb
    rw [e] at nb
    unfold dsL
    split
    · rename_i c
      rw [e4]
      refine nb_del ?_ _ nb
      rw [← e5]
      have hp := h.up _ (getD_mem hl)
      have hall : ∀ x ∈ ls.getD (laL ls key) [], x = key := fun x hx => by
        have := List.filter_eq_nil_iff.mp c x hx
        simpa using this
      generalize ls.getD (laL ls key) [] = lf at hp hall
      match lf, hp, hall with
      | [], _, _ => simp
      | [_], _, _ => simp
      | x :: y :: r, hp, hall =>
        have h1 := hall x (by simp)
        have h2 := hall y (by simp)
        have h3 := (List.pairwise_cons.mp hp).1 y (by simp)
        omega
    · have := nb_dis (lg := (ls.getD (laL ls key) []).filter (fun n => !decide (n = key))) nb
      rw [ek] at this
      rw [e3]
      exact this
theorem nb_ge4 {lf t : List Int} (ht : 4 ≤ t.length) : ∀ pre : List (List Int), (∀ l ∈ pre, l ≠ []) → nbL (pre ++ [lf]) → nbL (pre ++ [t])
  | [], _, _ => True.intro
  | [x], hn, _ => ⟨by have := List.length_pos_iff.mpr (hn x (by simp)); omega, True.intro⟩
  | x :: y :: pre, hn, h => ⟨h.1, nb_ge4 ht (y :: pre) (fun l hl => hn l (List.mem_cons_of_mem _ hl)) h.2⟩
theorem strict {ms : List Int} (h1 : ms.Pairwise (· ≤ ·)) (h2 : ms.Nodup) : ms.Pairwise (· < ·) :=
  (h1.and h2).imp fun {a b} h => by have := h.1; have := h.2; omega
theorem ins_two {α : Type} (pre suf : List α) (a b : α) {k : Nat} (hk : pre.length = k) : (pre ++ a :: suf).take (k + 1) ++ [b] ++ (pre ++ a :: suf).drop (k + 1) = pre ++ a :: b :: suf := by
  subst hk
  have e : pre ++ a :: suf = (pre ++ [a]) ++ suf := by simp
  have hl : (pre ++ [a]).length = pre.length + 1 := by simp
  rw [e, ← hl, List.take_left, List.drop_left]
  simp
theorem add_law {ls ls' : List (List Int)} {key : Int} (h : LInv ls) (hk : key ∉ ls.flatten) (a : AddR ls key ls') : LInv ls' ∧ ls'.flatten.Perm (key :: ls.flatten) := by
  rcases a with ⟨rfl, rfl⟩ | ⟨hn, ms, pm, so, e'⟩
  · exact ⟨⟨by simp, by simp, by simp, by simp, True.intro⟩, by simp⟩
  have hl := laL_lt (key := key) hn
  have hm : key ∉ ls.getD (laL ls key) [] := fun hm => hk ((la_mem h key).mp ⟨hn, hm⟩)
  have p1 : ∀ x ∈ (ls.take (laL ls key)).flatten, x < key := fun x hx => pre_lt h hx
  have p2 : ∀ x ∈ (ls.drop (laL ls key + 1)).flatten, key < x := fun x hx => suf_gt h hx
  have e := split3 ls (laL ls key) hl
  have e5 := getD_get hl
  rw [← e5] at e
  have ek : (ls.take (laL ls key)).length = laL ls key := by rw [List.length_take]; omega
  have hup := h.up _ (getD_mem hl)
  have h8 := h.l8 _ (getD_mem hl)
  have hne : ∀ l ∈ ls.take (laL ls key), l ≠ [] := fun l hl => h.ne l (List.mem_of_mem_take hl)
  have hne2 : ∀ l ∈ ls.drop (laL ls key + 1), l ≠ [] := fun l hl => h.ne l (List.mem_of_mem_drop hl)
  have h82 : ∀ l ∈ ls.take (laL ls key), l.length ≤ 8 := fun l hl => h.l8 l (List.mem_of_mem_take hl)
  have h83 : ∀ l ∈ ls.drop (laL ls key + 1), l.length ≤ 8 := fun l hl => h.l8 l (List.mem_of_mem_drop hl)
  rw [set3 _ _ _ hl, set3 _ _ _ hl] at e'
  have nb := h.nb
  have srt := h.srt
  have ef : ls.flatten = (ls.take (laL ls key)).flatten ++ (ls.getD (laL ls key) [] ++ (ls.drop (laL ls key + 1)).flatten) := by
    conv => lhs; rw [e]
    rw [List.flatten_append, List.flatten_cons]
  rw [ef] at srt ⊢
  rw [e] at nb
  generalize ls.take (laL ls key) = pre at *
  generalize ls.drop (laL ls key + 1) = suf at *
  generalize ls.getD (laL ls key) [] = lf at *
  generalize laL ls key = k at *
  have hml : ms.length = lf.length + 1 := by rw [pm.length_eq]; simp
  have hnd : ms.Nodup := by
    refine pm.nodup_iff.mpr ?_
    rw [List.nodup_append]
    refine ⟨hup.imp fun {a b} h => by omega, by simp, fun x hx y hy e => ?_⟩
    rw [List.mem_singleton.mp hy] at e
    subst e
    exact hm hx
  have hst := strict so hnd
  have fl : ls'.flatten = pre.flatten ++ (ms ++ suf.flatten) := by
    rw [e']
    split
    · rw [ins_two _ _ _ _ ek, List.flatten_append, List.flatten_cons, List.flatten_cons, ← List.append_assoc (ms.take 4), List.take_append_drop]
    · rw [List.flatten_append, List.flatten_cons]
  have hmem : ∀ x ∈ ms, x ∈ lf ∨ x = key := fun x hx => by
    have := pm.mem_iff.mp hx
    simpa using this
  obtain ⟨s1, s2, s3⟩ := List.pairwise_append.mp srt
  obtain ⟨s4, s5, s6⟩ := List.pairwise_append.mp s2
  have srt' : ls'.flatten.Pairwise (· < ·) := by
    rw [fl]
    refine List.pairwise_append.mpr ⟨s1, List.pairwise_append.mpr ⟨hst, s5, fun x hx y hy => ?_⟩, fun x hx y hy => ?_⟩
    · rcases hmem x hx with hx | rfl
      · exact s6 x hx y hy
      · exact p2 y hy
    · rcases List.mem_append.mp hy with hy | hy
      · rcases hmem y hy with hy | rfl
        · exact s3 x hx y (List.mem_append_left _ hy)
        · exact p1 x hx
      · exact s3 x hx y (List.mem_append_right _ hy)
  refine ⟨LInv.of ?_ ?_ srt' ?_, ?_⟩
  · rw [e']
    split
    · rw [ins_two _ _ _ _ ek]
      intro l hl
      rcases List.mem_append.mp hl with hl | hl
      · exact hne l hl
      · rcases List.mem_cons.mp hl with rfl | hl
        · intro z; have z2 := congrArg List.length z; rw [List.length_take, List.length_nil] at z2; omega
        · rcases List.mem_cons.mp hl with rfl | hl
          · intro z; have z2 := congrArg List.length z; rw [List.length_drop, List.length_nil] at z2; omega
          · exact hne2 l hl
    · intro l hl
      rcases List.mem_append.mp hl with hl | hl
      · exact hne l hl
      · rcases List.mem_cons.mp hl with rfl | hl
        · intro z; rw [z] at hml; simp at hml
        · exact hne2 l hl
  · rw [e']
    split
    · rw [ins_two _ _ _ _ ek]
      intro l hl
      rcases List.mem_append.mp hl with hl | hl
      · exact h82 l hl
      · rcases List.mem_cons.mp hl with rfl | hl
        · simp; omega
        · rcases List.mem_cons.mp hl with rfl | hl
          · simp; omega
          · exact h83 l hl
    · intro l hl
      rcases List.mem_append.mp hl with hl | hl
      · exact h82 l hl
      · rcases List.mem_cons.mp hl with rfl | hl
        · omega
        · exact h83 l hl
  · have n1 := (nbL_app pre).mp nb
    rw [e']
    split
    · rw [ins_two _ _ _ _ ek]
      refine (nbL_app pre).mpr ⟨nb_ge4 (by simp; omega) pre hne n1.1, by simp; omega, ?_⟩
      have hs := nbL_tail n1.2
      cases suf with
      | nil => exact True.intro
      | cons b r => exact ⟨by simp; omega, hs⟩
    · exact (nbL_app pre).mpr ⟨nbL_end (by omega) pre n1.1, nbL_beg (by omega) n1.2⟩
  · rw [fl]
    refine ((pm.append_right _).append_left _).trans ?_
    rw [List.append_assoc lf]
    show (pre.flatten ++ (lf ++ (key :: suf.flatten))).Perm _
    rw [← List.append_assoc, ← List.append_assoc pre.flatten lf]
    exact List.perm_middle
end Z

open PySem L2 Z
local macro_rules | `(tactic| wtm_at "side") => `(tactic| first | with_reducible assumption | omega | (show _ ∨ _; omega) | (show _ ∧ _; omega) | decide | with_reducible rfl | exact ⟨by decide, by decide, by decide⟩ | (refine ⟨?_, ?_, ?_⟩ <;> first | decide | omega | with_reducible assumption) | (refine ⟨?_, ?_⟩ <;> first | decide | omega | with_reducible assumption))
local macro_rules | `(tactic| wtm_at "mem") => `(tactic| first | with_reducible exact List.mem_cons_self .. | (with_reducible refine List.mem_cons_of_mem _ ?_; wtm_at "mem") | (with_reducible refine List.mem_append_left _ ?_; wtm_at "mem") | (with_reducible refine List.mem_append_right _ ?_; wtm_at "mem") | with_reducible assumption)
local macro_rules | `(tactic| wtm_at "rd") => `(tactic| first | with_reducible assumption | (with_reducible refine' W.get ?wtW ?wtQ; (case wtW => with_reducible assumption); (case wtQ => wtm_at "mem")) | (with_reducible refine' W.rd ?wtW ?wtQ; (case wtW => with_reducible assumption); (case wtQ => wtm_at "rd")) | (with_reducible refine' Z.Same.rd ?wtW ?wtQ; (case wtW => with_reducible assumption); (case wtQ => wtm_at "rd")))
local macro_rules | `(tactic| wtm_at "sq") => `(tactic| first | with_reducible assumption | (with_reducible refine SqL.of ?_; wtm_at "rd") | (with_reducible refine SqT.of ?_; wtm_at "rd") | (with_reducible refine' W.sq ?wtW ?wtQ; (case wtW => with_reducible assumption); (case wtQ => wtm_at "sq")) | (with_reducible refine' Z.Same.sq ?wtW ?wtQ; (case wtW => with_reducible assumption); (case wtQ => wtm_at "sq")) | (with_reducible refine' W.tq ?wtW ?wtQ; (case wtW => with_reducible assumption); (case wtQ => wtm_at "sq")) | (with_reducible refine' Z.Same.tq ?wtW ?wtQ; (case wtW => with_reducible assumption); (case wtQ => wtm_at "sq")))
local macro_rules | `(tactic| wtm_at "s0") => `(tactic| first
  | with_reducible refine g_seq ?_
  | with_reducible refine g_asg ?_
  | with_reducible refine g_name ?_
  | ((with_reducible refine' g_var ?gvE ?gvH); (case gvE => exact rfl))
  | with_reducible refine g_c ?_
  | with_reducible refine g_op ?_
  | with_reducible refine r_I0 ?_
  | ((with_reducible refine r_I ?gvE ?gvH); (case gvE => wtm_at "side"))
  | with_reducible refine g_test ?_
  | with_reducible refine g_tst ?_
  | with_reducible refine g_tB ?_
  | with_reducible refine r_eqI ?_
  | with_reducible refine r_neI ?_
  | with_reducible refine g_cons ?_
  | with_reducible refine g_nil ?_
  | with_reducible refine g_cb ?_
  | with_reducible refine g_call ?_
  | with_reducible refine g_ret ?_
  | with_reducible refine g_retN ?_
  | with_reducible refine g_next ?_
  | with_reducible refine g_un ?_
  | with_reducible refine r_U ?_
  | with_reducible refine g_chain ?_
  | with_reducible refine g_and ?_
  | with_reducible refine g_or ?_
  | with_reducible refine g_not ?_
  | with_reducible refine g_andV ?_
  | with_reducible refine g_orV ?_
  | with_reducible refine g_notV ?_
  | with_reducible refine g_if ?_
  | with_reducible refine brT ?_
  | with_reducible refine brF ?_
  | with_reducible refine brNT ?_
  | with_reducible refine brNF ?_
  | with_reducible refine br_rn ?_
  | with_reducible refine br_in ?_
  | with_reducible refine br_sn ?_
  | with_reducible refine br_nn ?_
  | with_reducible refine brN_rn ?_
  | with_reducible refine brN_in ?_
  | with_reducible refine brN_sn ?_
  | with_reducible refine brN_nn ?_
  | ((with_reducible refine br_pt ?gvE ?gvH); (case gvE => first | with_reducible assumption | omega | with_reducible rfl | (simp only [List.length_cons, List.length_nil]; done) | (simp only [List.length_cons, List.length_nil]; omega) | decide))
  | ((with_reducible refine br_pf ?gvE ?gvH); (case gvE => first | with_reducible assumption | omega | (simp only [List.length_cons, List.length_nil]; done) | (simp only [List.length_cons, List.length_nil]; omega) | decide))
  | ((with_reducible refine br_nt ?gvE ?gvH); (case gvE => first | with_reducible assumption | omega | (simp only [List.length_cons, List.length_nil]; done) | (simp only [List.length_cons, List.length_nil]; omega) | decide))
  | ((with_reducible refine br_nf ?gvE ?gvH); (case gvE => first | with_reducible assumption | omega | with_reducible rfl | (simp only [List.length_cons, List.length_nil]; done) | (simp only [List.length_cons, List.length_nil]; omega) | decide))
  | with_reducible refine isi_ii ?_
  | with_reducible refine isi_ib ?_
  | with_reducible refine isi_bi ?_
  | with_reducible refine isi_bb ?_
  | with_reducible refine isi_ni ?_
  | with_reducible refine isi_si ?_
  | with_reducible refine r_tup ?_
  | with_reducible refine r_lst ?_
  | with_reducible refine g_lc ?_
  | with_reducible refine g_for ?_
  | with_reducible refine g_rng1 ?_
  | with_reducible refine g_rng2 ?_
  | with_reducible refine g_ilist ?_
  | with_reducible refine g_itup ?_
  | ((with_reducible refine r_rng1 ?gvE ?gvH); (case gvE => wtm_at "side"))
  | ((with_reducible refine r_rng2 ?gvE ?gvH); (case gvE => wtm_at "side"))
  | with_reducible refine g_sl ?_
  | with_reducible refine g_nopart ?_
  | with_reducible refine g_part ?_
  | with_reducible refine r_part ?_
  | with_reducible refine g_fld ?_
  | with_reducible refine g_sfld ?_
  | with_reducible refine g_meth ?_
  | with_reducible refine g_make ?_
  | with_reducible refine g_din ?_
  | with_reducible refine g_dni ?_
  | with_reducible refine g_dge ?_
  | with_reducible refine g_dpu ?_
  | with_reducible refine r_isNo ?_
  | with_reducible refine r_notNo ?_
  | ((with_reducible refine' r_t0 ?gvE ?gvH); (case gvE => wtm_at "sq"))
  | ((with_reducible refine' r_t1 ?gvE ?gvH); (case gvE => wtm_at "sq"))
  | ((with_reducible refine' r_t2 ?gvE ?gvH); (case gvE => wtm_at "sq"))
  | ((with_reducible refine' g_tup2 ?gvE ?gvN ?gvH); (case gvE => wtm_at "sq"); (case gvN => rfl))
  | with_reducible refine g_dropE ?_
  | ((with_reducible refine' g_aug ?gvE ?gvH); (case gvE => exact rfl))
  | with_reducible refine g_ip ?_
  | with_reducible refine g_whb ?_
  | with_reducible refine g_yes ?_
  | with_reducible refine g_brk ?_
  | with_reducible refine g_cont ?_
  | with_reducible refine r_isB ?_
  | with_reducible refine r_notB ?_
  | with_reducible refine r_eqB ?_
  | with_reducible refine r_neB ?_
  | with_reducible refine r_eqS ?_
  | with_reducible refine r_neS ?_)
local macro_rules | `(tactic| wtm_at "s") => `(tactic| first | wtm_at "s0" | with_reducible refine g_ifS ?_)
/-! as far as it goes by itself; g0: up to the next if; br: either way -/
local macro_rules | `(tactic| wtm_at "g0") => `(tactic| repeat (wtm_at "s0"))
local macro_rules | `(tactic| wtm_at "br") => `(tactic| with_reducible first | refine br ?_ ?_ | refine brN ?_ ?_ | refine brB ?_ ?_ | refine brBN ?_ ?_)
local macro_rules | `(tactic| wtm_at "go") => `(tactic| repeat (wtm_at "s"))

namespace Toy
open PySem L2 Z
def top (i : Nat) : Stmt := PySem.Challenge.pw_staywalk_k21_a_few_keys_in_leaves.main.body.getD i (.Pass ⟨0, 0, 0, 0⟩)
abbrev s_Leaves_init : Stmt := inClass (top 8) 0
abbrev n_Leaves_init : List Str := ["self"]
theorem sc_Leaves_init : FnScope n_Leaves_init ["self"] (defScope s_Leaves_init) := ⟨rfl, rfl, rfl, by decide +kernel, rfl, by decide +kernel, by decide +kernel⟩
abbrev s_Leaves_leaf_at : Stmt := inClass (top 8) 1
abbrev n_Leaves_leaf_at : List Str := ["self", "key", "low", "high", "middle"]
theorem sc_Leaves_leaf_at : FnScope n_Leaves_leaf_at ["self", "key"] (defScope s_Leaves_leaf_at) := ⟨rfl, rfl, rfl, by decide +kernel, rfl, by decide +kernel, by decide +kernel⟩
abbrev s_Leaves_has : Stmt := inClass (top 8) 2
abbrev n_Leaves_has : List Str := ["self", "key"]
theorem sc_Leaves_has : FnScope n_Leaves_has ["self", "key"] (defScope s_Leaves_has) := ⟨rfl, rfl, rfl, by decide +kernel, rfl, by decide +kernel, by decide +kernel⟩
abbrev s_Twice_init : Stmt := inClass (top 4) 0
abbrev n_Twice_init : List Str := ["self", "key"]
theorem sc_Twice_init : FnScope n_Twice_init ["self", "key"] (defScope s_Twice_init) := ⟨rfl, rfl, rfl, by decide +kernel, rfl, by decide +kernel, by decide +kernel⟩
abbrev s_Leaves_add : Stmt := inClass (top 8) 4
abbrev n_Leaves_add : List Str := ["self", "key", "at", "leaf"]
theorem sc_Leaves_add : FnScope n_Leaves_add ["self", "key"] (defScope s_Leaves_add) := ⟨rfl, rfl, rfl, by decide +kernel, rfl, by decide +kernel, by decide +kernel⟩
abbrev s_Leaves_all_of : Stmt := inClass (top 8) 9
abbrev n_Leaves_all_of : List Str := ["self", "leaf"]
theorem sc_Leaves_all_of : FnScope n_Leaves_all_of ["self"] (defScope s_Leaves_all_of) := ⟨rfl, rfl, rfl, by decide +kernel, rfl, by decide +kernel, by decide +kernel⟩
abbrev s_Leaves_join_at : Stmt := inClass (top 8) 6
abbrev n_Leaves_join_at : List Str := ["self", "at", "joined"]
theorem sc_Leaves_join_at : FnScope n_Leaves_join_at ["self", "at"] (defScope s_Leaves_join_at) := ⟨rfl, rfl, rfl, by decide +kernel, rfl, by decide +kernel, by decide +kernel⟩
abbrev s_NoKey_init : Stmt := inClass (top 3) 0
abbrev n_NoKey_init : List Str := ["self", "key"]
theorem sc_NoKey_init : FnScope n_NoKey_init ["self", "key"] (defScope s_NoKey_init) := ⟨rfl, rfl, rfl, by decide +kernel, rfl, by decide +kernel, by decide +kernel⟩
abbrev s_Leaves_discard : Stmt := inClass (top 8) 5
abbrev n_Leaves_discard : List Str := ["self", "key", "at", "leaf", "one"]
theorem sc_Leaves_discard : FnScope n_Leaves_discard ["self", "key"] (defScope s_Leaves_discard) := ⟨rfl, rfl, rfl, by decide +kernel, rfl, by decide +kernel, by decide +kernel⟩
abbrev s__law_cell_at : Stmt := top 11
abbrev n__law_cell_at : List Str := ["_law_script", "_law_k"]
theorem sc__law_cell_at : FnScope n__law_cell_at ["_law_script", "_law_k"] (defScope s__law_cell_at) := ⟨rfl, rfl, rfl, by decide +kernel, rfl, by decide +kernel, by decide +kernel⟩
abbrev s_Leaves_many : Stmt := inClass (top 8) 3
abbrev n_Leaves_many : List Str := ["self", "leaf"]
theorem sc_Leaves_many : FnScope n_Leaves_many ["self"] (defScope s_Leaves_many) := ⟨rfl, rfl, rfl, by decide +kernel, rfl, by decide +kernel, by decide +kernel⟩
abbrev s__law_flat : Stmt := top 13
abbrev n__law_flat : List Str := ["_law_told", "_law_found", "_law_keys", "_law_leaf"]
theorem sc__law_flat : FnScope n__law_flat ["_law_told"] (defScope s__law_flat) := ⟨rfl, rfl, rfl, by decide +kernel, rfl, by decide +kernel, by decide +kernel⟩
abbrev s__law_whole : Stmt := top 10
abbrev n__law_whole : List Str := ["_law_found"]
theorem sc__law_whole : FnScope n__law_whole ["_law_found"] (defScope s__law_whole) := ⟨rfl, rfl, rfl, by decide +kernel, rfl, by decide +kernel, by decide +kernel⟩
abbrev s__law_refused : Stmt := top 12
abbrev n__law_refused : List Str := ["_law_told", "_law_word", "_law_key", "_law_kinds", "_law_found", "e"]
theorem sc__law_refused : FnScope n__law_refused ["_law_told", "_law_word", "_law_key"] (defScope s__law_refused) := ⟨rfl, rfl, rfl, by decide +kernel, rfl, by decide +kernel, by decide +kernel⟩
abbrev s__law_right : Stmt := top 14
abbrev n__law_right : List Str := ["_law_told", "_law_kept", "_law_key", "_law_one", "_law_found"]
theorem sc__law_right : FnScope n__law_right ["_law_told", "_law_kept", "_law_key"] (defScope s__law_right) := ⟨rfl, rfl, rfl, by decide +kernel, rfl, by decide +kernel, by decide +kernel⟩
abbrev s_law : Stmt := top 15
abbrev n_law : List Str := ["_law_script", "_law_told", "_law_kept", "_law_cell", "_law_key", "_law_k"]
theorem sc_law : FnScope n_law ["_law_script"] (defScope s_law) := ⟨rfl, rfl, rfl, by decide +kernel, rfl, by decide +kernel, by decide +kernel⟩
structure Ad where
  a_Leaves_init : Addr
  d_Leaves_init : FuncData
  a_Leaves_leaf_at : Addr
  d_Leaves_leaf_at : FuncData
  a_Leaves_has : Addr
  d_Leaves_has : FuncData
  a_Twice_init : Addr
  d_Twice_init : FuncData
  a_Leaves_add : Addr
  d_Leaves_add : FuncData
  a_Leaves_all_of : Addr
  d_Leaves_all_of : FuncData
  a_Leaves_join_at : Addr
  d_Leaves_join_at : FuncData
  a_NoKey_init : Addr
  d_NoKey_init : FuncData
  a_Leaves_discard : Addr
  d_Leaves_discard : FuncData
  a__law_cell_at : Addr
  d__law_cell_at : FuncData
  a_Leaves_many : Addr
  d_Leaves_many : FuncData
  a__law_flat : Addr
  d__law_flat : FuncData
  a__law_whole : Addr
  d__law_whole : FuncData
  a__law_refused : Addr
  d__law_refused : FuncData
  a__law_right : Addr
  d__law_right : FuncData
  a_law : Addr
  d_law : FuncData
  c_WalkError : Addr
  c_NoKey : Addr
  c_Twice : Addr
  c_Leaves : Addr
  t_MOST_KEYS : Tok
  t_LEAST_OF_TWO : Tok
structure Txt (K : PySem.W.Frag) (mg : Str → Option Value) (D : Ad) : Prop where
  F_Leaves_init : Fun K "__init__" "Leaves.__init__" s_Leaves_init D.a_Leaves_init D.d_Leaves_init
  b_Leaves_init : Binds K D.d_Leaves_init ["self"] []
  F_Leaves_leaf_at : Fun K "leaf_at" "Leaves.leaf_at" s_Leaves_leaf_at D.a_Leaves_leaf_at D.d_Leaves_leaf_at
  b_Leaves_leaf_at : Binds K D.d_Leaves_leaf_at ["self", "key"] []
  F_Leaves_has : Fun K "has" "Leaves.has" s_Leaves_has D.a_Leaves_has D.d_Leaves_has
  b_Leaves_has : Binds K D.d_Leaves_has ["self", "key"] []
  F_Twice_init : Fun K "__init__" "Twice.__init__" s_Twice_init D.a_Twice_init D.d_Twice_init
  b_Twice_init : Binds K D.d_Twice_init ["self", "key"] []
  F_Leaves_add : Fun K "add" "Leaves.add" s_Leaves_add D.a_Leaves_add D.d_Leaves_add
  b_Leaves_add : Binds K D.d_Leaves_add ["self", "key"] []
  F_Leaves_all_of : Fun K "all_of" "Leaves.all_of" s_Leaves_all_of D.a_Leaves_all_of D.d_Leaves_all_of
  b_Leaves_all_of : Binds K D.d_Leaves_all_of ["self"] []
  F_Leaves_join_at : Fun K "join_at" "Leaves.join_at" s_Leaves_join_at D.a_Leaves_join_at D.d_Leaves_join_at
  b_Leaves_join_at : Binds K D.d_Leaves_join_at ["self", "at"] []
  F_NoKey_init : Fun K "__init__" "NoKey.__init__" s_NoKey_init D.a_NoKey_init D.d_NoKey_init
  b_NoKey_init : Binds K D.d_NoKey_init ["self", "key"] []
  F_Leaves_discard : Fun K "discard" "Leaves.discard" s_Leaves_discard D.a_Leaves_discard D.d_Leaves_discard
  b_Leaves_discard : Binds K D.d_Leaves_discard ["self", "key"] []
  F__law_cell_at : Fun K "_law_cell_at" "_law_cell_at" s__law_cell_at D.a__law_cell_at D.d__law_cell_at
  b__law_cell_at : Binds K D.d__law_cell_at ["_law_script", "_law_k"] []
  g__law_cell_at : mg "_law_cell_at" = some (.ref D.a__law_cell_at)
  F_Leaves_many : Fun K "many" "Leaves.many" s_Leaves_many D.a_Leaves_many D.d_Leaves_many
  b_Leaves_many : Binds K D.d_Leaves_many ["self"] []
  F__law_flat : Fun K "_law_flat" "_law_flat" s__law_flat D.a__law_flat D.d__law_flat
  b__law_flat : Binds K D.d__law_flat ["_law_told"] []
  g__law_flat : mg "_law_flat" = some (.ref D.a__law_flat)
  F__law_whole : Fun K "_law_whole" "_law_whole" s__law_whole D.a__law_whole D.d__law_whole
  b__law_whole : Binds K D.d__law_whole ["_law_found"] []
  g__law_whole : mg "_law_whole" = some (.ref D.a__law_whole)
  F__law_refused : Fun K "_law_refused" "_law_refused" s__law_refused D.a__law_refused D.d__law_refused
  b__law_refused : Binds K D.d__law_refused ["_law_told", "_law_word", "_law_key"] []
  g__law_refused : mg "_law_refused" = some (.ref D.a__law_refused)
  F__law_right : Fun K "_law_right" "_law_right" s__law_right D.a__law_right D.d__law_right
  b__law_right : Binds K D.d__law_right ["_law_told", "_law_kept", "_law_key"] []
  g__law_right : mg "_law_right" = some (.ref D.a__law_right)
  F_law : Fun K "law" "law" s_law D.a_law D.d_law
  b_law : Binds K D.d_law ["_law_script"] []
  g_law : mg "law" = some (.ref D.a_law)
  g_WalkError : mg "WalkError" = some (.ref D.c_WalkError)
  xc_WalkError : XC K D.c_WalkError
  g_NoKey : mg "NoKey" = some (.ref D.c_NoKey)
  xc_NoKey : XC K D.c_NoKey
  sv_NoKey : PySem.W.subIn K (.ref D.c_NoKey) (.type "ValueError") = some true
  iC_NoKey : PySem.W.findIn K (.ref D.c_NoKey) "__init__" = some (some (.ref D.a_NoKey_init))
  tI_NoKey : PySem.W.typeIn K (.ref D.a_NoKey_init) = some (.type "function")
  no_NoKey_key : PySem.W.findIn K (.ref D.c_NoKey) "key" = some none
  sb_NoKey_WalkError : PySem.W.subIn K (.ref D.c_NoKey) (.ref D.c_WalkError) = some true
  sb_NoKey_Twice : PySem.W.subIn K (.ref D.c_NoKey) (.ref D.c_Twice) = some false
  sb_NoKey_NoKey : PySem.W.subIn K (.ref D.c_NoKey) (.ref D.c_NoKey) = some true
  g_Twice : mg "Twice" = some (.ref D.c_Twice)
  xc_Twice : XC K D.c_Twice
  sv_Twice : PySem.W.subIn K (.ref D.c_Twice) (.type "ValueError") = some true
  iC_Twice : PySem.W.findIn K (.ref D.c_Twice) "__init__" = some (some (.ref D.a_Twice_init))
  tI_Twice : PySem.W.typeIn K (.ref D.a_Twice_init) = some (.type "function")
  no_Twice_key : PySem.W.findIn K (.ref D.c_Twice) "key" = some none
  sb_Twice_WalkError : PySem.W.subIn K (.ref D.c_Twice) (.ref D.c_WalkError) = some true
  sb_Twice_Twice : PySem.W.subIn K (.ref D.c_Twice) (.ref D.c_Twice) = some true
  sb_Twice_NoKey : PySem.W.subIn K (.ref D.c_Twice) (.ref D.c_NoKey) = some false
  g_Leaves : mg "Leaves" = some (.ref D.c_Leaves)
  cl_Leaves : Cls K D.c_Leaves
  mk_Leaves : Mk K D.c_Leaves D.a_Leaves_init
  me_Leaves_leaf_at : Meth K D.c_Leaves "leaf_at" D.a_Leaves_leaf_at
  me_Leaves_has : Meth K D.c_Leaves "has" D.a_Leaves_has
  me_Leaves_many : Meth K D.c_Leaves "many" D.a_Leaves_many
  me_Leaves_add : Meth K D.c_Leaves "add" D.a_Leaves_add
  me_Leaves_discard : Meth K D.c_Leaves "discard" D.a_Leaves_discard
  me_Leaves_join_at : Meth K D.c_Leaves "join_at" D.a_Leaves_join_at
  me_Leaves_all_of : Meth K D.c_Leaves "all_of" D.a_Leaves_all_of
  na_Leaves_parted : NoAttr K D.c_Leaves "parted"
  cr_WalkError : ClX.CRead K D.c_WalkError (.type "type")
  ve_WalkError : PySem.W.findCls K (.ref D.c_WalkError) (.type "type") "__init__" = some (.val (.builtin "ValueError.__init__"))
  k_MOST_KEYS : mg "MOST_KEYS" = some (.int 8 D.t_MOST_KEYS)
  k_LEAST_OF_TWO : mg "LEAST_OF_TWO" = some (.int 5 D.t_LEAST_OF_TWO)
  n_ValueError : mg "ValueError" = none
  n_bool : mg "bool" = none
  n_int : mg "int" = none
  n_isinstance : mg "isinstance" = none
  n_len : mg "len" = none
  n_list : mg "list" = none
  n_max : mg "max" = none
  n_range : mg "range" = none
  n_sorted : mg "sorted" = none
  n_sum : mg "sum" = none
section
variable {P : Program} {w : World} {K : PySem.W.Frag} {mg : Str → Option Value} {base : Heap}
abbrev sp_law (K : PySem.W.Frag) (_ : Ad) : Sp := spEnd K
theorem sp_law_end {K : PySem.W.Frag} {D : Ad} {vs : List V} {H : Hp} {Q : VK} {E : XK} (h : spEnd K vs H Q E) : sp_law K D vs H Q E := h
def sp__law_whole (_ : PySem.W.Frag) (_ : Ad) : Sp := Sp1 fun x H Q _ => ∃ n : Int, x = .int n ∧ Q (.bl true) H
theorem ok__law_whole {D : Ad} (T : Txt K mg D) : FnOk P w K mg base (L2.CX P w) 1 D.a__law_whole D.d__law_whole ["_law_found"] (sp__law_whole K D) := by
  refine T.F__law_whole.okX sc__law_whole (fun vs H Q E h => sp1_len h) (fun cdv A outer s H vs Q E hr h => ⟨_, (pss_one (ps_ret (pe_and (pe_callB call_isi (by rfl) T.n_isinstance bt_isinstance (pa_cons (pv 0) (pa_cons (pe_bltn (v := .ty "int") (by rfl) T.n_int bt_int rfl) pa_nil))) (pe_one (pe_not (pe_callB call_isi (by rfl) T.n_isinstance bt_isinstance (pa_cons (pv 0) (pa_cons (pe_bltn (v := .ty "bool") (by rfl) T.n_bool bt_bool rfl) pa_nil)))))))), ?_⟩)
  obtain ⟨x0, rfl, h⟩ := h
  rw [show L2.start n__law_whole [x0] = [some x0] from rfl]
  try dsimp only [cxOf]
  obtain ⟨n, rfl, k⟩ := h
  wtm_at "go"
  exact k


def sp__law_cell_at (K : PySem.W.Frag) (_ : Ad) : Sp := Sp2 fun x y H Q _ => ∃ (a : Addr) (ns : List Int) (i : Nat), x = .ref a ∧ y = .int i ∧ SqL K H a (ns.map V.int) ∧ Q (.int (ns.getD i 0)) H
theorem ok__law_cell_at {D : Ad} (T : Txt K mg D) : FnOk P w K mg base (L2.CX P w) 1 D.a__law_cell_at D.d__law_cell_at ["_law_script", "_law_k"] (sp__law_cell_at K D) := by
  refine T.F__law_cell_at.okX sc__law_cell_at (fun vs H Q E h => sp2_len h) (fun cdv A outer s H vs Q E hr h => ⟨_, (pss_cons (ps_if (pt_cmpR op_lt (pv 1) (pe_callB call_lenZ (by rfl) T.n_len bt_len (pa_cons (pv 0) pa_nil)) (nomark _))
      (pss_one (ps_ret (pe_ix ix_list (pv 0) (pv 1) (fun _ _ => rfl))))
      pss_nil)
    (pss_one (ps_ret pe_int))), ?_⟩)
  obtain ⟨x0, x1, rfl, h⟩ := h
  rw [show L2.start n__law_cell_at [x0, x1] = [some x0, some x1] from rfl]
  try dsimp only [cxOf]
  obtain ⟨a, ns, i, rfl, rfl, hS, k⟩ := h
  wtm_at "go"
  refine r_lenL hS ?_
  wtm_at "go"
  rw [List.length_map]
  refine br (fun h => ?_) (fun h => ?_)
  · wtm_at "go"
    have hi : i < ns.length := by omega
    refine r_ixL (v := .int (ns.getD i 0)) hS ?_ k
    rw [atI_nat' (by omega) (by rw [List.length_map]; exact h), Int.toNat_natCast, List.getElem?_map, List.getD_eq_getElem?_getD, List.getElem?_eq_getElem hi]
    rfl
  · wtm_at "go"
    have hi : ns.length ≤ i := by omega
    rw [List.getD_eq_getElem?_getD, List.getElem?_eq_none hi] at k
    exact k


section
variable {D : Ad} {H : Hp} {Q : VK} {E : XK}
theorem c_whole {n : Int} (q : Q (.bl true) H) : sp__law_whole K D ([.int n] ++ []) H Q E := ⟨_, rfl, n, rfl, q⟩
theorem c_cell {a : Addr} {ns : List Int} {i : Nat} (h : SqL K H a (ns.map V.int)) (q : Q (.int (ns.getD i 0)) H) : sp__law_cell_at K D ([.ref a, .int (i : Nat)] ++ []) H Q E := ⟨_, _, rfl, a, ns, i, rfl, rfl, h, q⟩
theorem c_cell0 {a : Addr} {ns : List Int} (h : SqL K H a (ns.map V.int)) (q : Q (.int (ns.getD 0 0)) H) : sp__law_cell_at K D ([.ref a, .int 0] ++ []) H Q E := c_cell (i := 0) h q
theorem c_cell1 {a : Addr} {ns : List Int} (h : SqL K H a (ns.map V.int)) (q : Q (.int (ns.getD 1 0)) H) : sp__law_cell_at K D ([.ref a, .int 1] ++ []) H Q E := c_cell (i := 1) h q
theorem c_cell2 {a : Addr} {ns : List Int} (h : SqL K H a (ns.map V.int)) (q : Q (.int (ns.getD 2 0)) H) : sp__law_cell_at K D ([.ref a, .int 2] ++ []) H Q E := c_cell (i := 2) h q
theorem c_cell3 {a : Addr} {ns : List Int} (h : SqL K H a (ns.map V.int)) (q : Q (.int (ns.getD 3 0)) H) : sp__law_cell_at K D ([.ref a, .int 3] ++ []) H Q E := c_cell (i := 3) h q
theorem c_cell4 {a : Addr} {ns : List Int} (h : SqL K H a (ns.map V.int)) (q : Q (.int (ns.getD 4 0)) H) : sp__law_cell_at K D ([.ref a, .int 4] ++ []) H Q E := c_cell (i := 4) h q
theorem c_cell9 {a : Addr} {ns : List Int} (h : SqL K H a (ns.map V.int)) (q : Q (.int (ns.getD 9 0)) H) : sp__law_cell_at K D ([.ref a, .int 9] ++ []) H Q E := c_cell (i := 9) h q
end
local macro_rules | `(tactic| wtm_at "s0") => `(tactic| first
  | with_reducible refine c_whole ?_
  | ((with_reducible refine' c_cell0 ?gvE ?gvH); (case gvE => wtm_at "sq"))
  | ((with_reducible refine' c_cell1 ?gvE ?gvH); (case gvE => wtm_at "sq"))
  | ((with_reducible refine' c_cell2 ?gvE ?gvH); (case gvE => wtm_at "sq"))
  | ((with_reducible refine' c_cell3 ?gvE ?gvH); (case gvE => wtm_at "sq"))
  | ((with_reducible refine' c_cell4 ?gvE ?gvH); (case gvE => wtm_at "sq"))
  | ((with_reducible refine' c_cell9 ?gvE ?gvH); (case gvE => wtm_at "sq")))


local macro_rules | `(tactic| wtm_at "s0") => `(tactic| first | with_reducible refine g_raiseO ?_ | with_reducible refine g_vei ?_ | with_reducible refine g_ost ?_ | with_reducible refine g_tryAs ?_ | with_reducible refine g_xfA ?_ | with_reducible refine g_callW ?_ | with_reducible refine g_methW ?_)
abbrev sp_Twice_init (_ : PySem.W.Frag) (D : Ad) : Sp := spX1 D.c_Twice "key"
theorem ok_Twice_init {D : Ad} (T : Txt K mg D) : FnOk P w K mg base (L2.CX P w) 1 D.a_Twice_init D.d_Twice_init ["self", "key"] (sp_Twice_init K D) := by
  refine T.F_Twice_init.okX sc_Twice_init (fun vs H Q E h => sp2_len h) (fun cdv A outer s H vs Q E hr h => ⟨_, (pss_cons (ps_expr (pe_weinit rfl T.g_WalkError T.cr_WalkError T.ve_WalkError (pa_cons (pv 0) (pa_cons pe_str pa_nil))))
    (pss_one (ps_ost (pv 0) (pv 1)))), ?_⟩)
  obtain ⟨x0, x1, rfl, h⟩ := h
  rw [show L2.start n_Twice_init [x0, x1] = [some x0, some x1] from rfl]
  try dsimp only [cxOf]
  obtain ⟨a, rfl, ha, k⟩ := h
  wtm_at "go"
  refine r_vei T.xc_Twice.ox (by simp) ha ?_
  wtm_at "go"
  refine r_ost T.xc_Twice.ox T.no_Twice_key ha fun dx h1 h2 => ?_
  wtm_at "go"
  exact k dx h1 h2

abbrev sp_NoKey_init (_ : PySem.W.Frag) (D : Ad) : Sp := spX1 D.c_NoKey "key"
theorem ok_NoKey_init {D : Ad} (T : Txt K mg D) : FnOk P w K mg base (L2.CX P w) 1 D.a_NoKey_init D.d_NoKey_init ["self", "key"] (sp_NoKey_init K D) := by
  refine T.F_NoKey_init.okX sc_NoKey_init (fun vs H Q E h => sp2_len h) (fun cdv A outer s H vs Q E hr h => ⟨_, (pss_cons (ps_expr (pe_weinit rfl T.g_WalkError T.cr_WalkError T.ve_WalkError (pa_cons (pv 0) (pa_cons pe_str pa_nil))))
    (pss_one (ps_ost (pv 0) (pv 1)))), ?_⟩)
  obtain ⟨x0, x1, rfl, h⟩ := h
  rw [show L2.start n_NoKey_init [x0, x1] = [some x0, some x1] from rfl]
  try dsimp only [cxOf]
  obtain ⟨a, rfl, ha, k⟩ := h
  wtm_at "go"
  refine r_vei T.xc_NoKey.ox (by simp) ha ?_
  wtm_at "go"
  refine r_ost T.xc_NoKey.ox T.no_NoKey_key ha fun dx h1 h2 => ?_
  wtm_at "go"
  exact k dx h1 h2

/-! the program's leaves: the lists of the leaves stay, the list of them is owned -/
abbrev Zs := List (Addr × List Int)
abbrev lsZ (zs : Zs) : List (List Int) := zs.map (·.2)
abbrev rfZ (zs : Zs) : List V := zs.map fun z => V.ref z.1
theorem rfZ_set (zs : Zs) (k : Nat) (p : Addr) (l : List Int) : rfZ (zs.set k (p, l)) = (rfZ zs).set k (V.ref p) := by unfold rfZ; rw [List.map_set]
theorem lsZ_set (zs : Zs) (k : Nat) (p : Addr) (l : List Int) : lsZ (zs.set k (p, l)) = (lsZ zs).set k l := by unfold lsZ; rw [List.map_set]
theorem rfZ_ins (zs : Zs) (k : Nat) (p : Addr) (l : List Int) : rfZ (zs.take k ++ [(p, l)] ++ zs.drop k) = (rfZ zs).take k ++ [V.ref p] ++ (rfZ zs).drop k := by unfold rfZ; simp
theorem lsZ_ins (zs : Zs) (k : Nat) (p : Addr) (l : List Int) : lsZ (zs.take k ++ [(p, l)] ++ zs.drop k) = (lsZ zs).take k ++ [l] ++ (lsZ zs).drop k := by unfold lsZ; simp
theorem map_erase {α β : Type} (f : α → β) : ∀ (zs : List α) (k : Nat), (zs.eraseIdx k).map f = (zs.map f).eraseIdx k
  | [], _ => rfl
  | _ :: _, 0 => rfl
  | z :: zs, k + 1 => by simp only [List.eraseIdx_cons_succ, List.map_cons, map_erase f zs k]
theorem rfZ_del (zs : Zs) (k : Nat) : rfZ (zs.eraseIdx k) = (rfZ zs).eraseIdx k := map_erase _ zs k
theorem lsZ_del (zs : Zs) (k : Nat) : lsZ (zs.eraseIdx k) = (lsZ zs).eraseIdx k := map_erase _ zs k
structure LvB (D : Ad) (B : Hp) (a q : Addr) (zs : Zs) : Prop where
  obj : ∃ dx, B a = some (.ins D.c_Leaves dx [("parted", .ref q)])
  at_ : ∀ z ∈ zs, B z.1 = some (.lst (z.2.map V.int))
  small : zs.length < 10000
section
variable {D : Ad} {B B' : Hp} {a q p : Addr} {zs : Zs} {l : List Int} {k : Nat}
theorem LvB.mono (h : LvB D B a q zs) (s : Same B B') : LvB D B' a q zs := ⟨h.obj.imp fun _ e => s _ _ e, fun z hz => s _ _ (h.at_ z hz), h.small⟩
theorem getL {zs : Zs} {i : Nat} (hi : i < zs.length) : ∃ z, zs[i]? = some z ∧ z ∈ zs ∧ (lsZ zs).getD i [] = z.2 := by
  refine ⟨zs[i], List.getElem?_eq_getElem hi, List.getElem_mem hi, ?_⟩
  rw [List.getD_eq_getElem?_getD, List.getElem?_map, List.getElem?_eq_getElem hi]
  rfl
theorem LvB.get (h : LvB D B a q zs) {i : Nat} (hi : i < (lsZ zs).length) : ∃ z, zs[i]? = some z ∧ B z.1 = some (.lst (((lsZ zs).getD i []).map V.int)) := by
  obtain ⟨z, h1, h2, h3⟩ := getL (zs := zs) (by simpa using hi)
  exact ⟨z, h1, by rw [h3]; exact h.at_ z h2⟩
theorem LvB.set (h : LvB D B a q zs) (hp : B p = some (.lst (l.map V.int))) : LvB D B a q (zs.set k (p, l)) :=
  ⟨h.obj, fun z hz => by
    rcases List.mem_or_eq_of_mem_set hz with hz | rfl
    · exact h.at_ z hz
    · exact hp, by rw [List.length_set]; exact h.small⟩
theorem LvB.ins (h : LvB D B a q zs) (hp : B p = some (.lst (l.map V.int))) (hs : zs.length + 1 < 10000) : LvB D B a q (zs.take k ++ [(p, l)] ++ zs.drop k) :=
  ⟨h.obj, fun z hz => by
    rcases List.mem_append.mp hz with hz | hz
    · rcases List.mem_append.mp hz with hz | hz
      · exact h.at_ z (List.mem_of_mem_take hz)
      · rw [List.mem_singleton.mp hz]; exact hp
    · exact h.at_ z (List.mem_of_mem_drop hz), by simp only [List.length_append, List.length_take, List.length_drop, List.length_singleton]; omega⟩
theorem LvB.del (h : LvB D B a q zs) : LvB D B a q (zs.eraseIdx k) :=
  ⟨h.obj, fun z hz => h.at_ z (List.mem_of_mem_eraseIdx hz), by have := List.length_eraseIdx_le zs k; have := h.small; omega⟩
end
def sp_Leaves_init (K : PySem.W.Frag) (D : Ad) : Sp := Sp1 fun x H Q _ => ∃ (a dx : Addr) (B : Hp) (L : List Cell), x = .ref a ∧ W B ((a, .ins D.c_Leaves dx []) :: L) H ∧
  ∀ (q : Addr) (B' H' : Hp), Same B B' → LvB D B' a q [] → W B' ((q, .lst []) :: L) H' → Q .non H'
theorem ok_Leaves_init {D : Ad} (T : Txt K mg D) : FnOk P w K mg base (L2.CX P w) 1 D.a_Leaves_init D.d_Leaves_init ["self"] (sp_Leaves_init K D) := by
  refine T.F_Leaves_init.okX sc_Leaves_init (fun vs H Q E h => sp1_len h) (fun cdv A outer s H vs Q E hr h => ⟨_, (pss_one (ps_fld (pv 0) (pe_lst pa_nil) rfl)), ?_⟩)
  obtain ⟨x0, rfl, h⟩ := h
  rw [show L2.start n_Leaves_init [x0] = [some x0] from rfl]
  try dsimp only [cxOf]
  obtain ⟨a, dx, B, L, rfl, w, k⟩ := h
  wtm_at "go"
  refine o_lst w (szl (by simp)) fun q H1 hq w => ?_
  wtm_at "go"
  refine r_sfld (w.get (by wtm_at "mem")) T.cl_Leaves T.na_Leaves_parted (by simp) ?_
  have w := W.put1 w (.ins D.c_Leaves dx (putF "parted" (.ref q) []))
  have w2 := W.perm w (List.Perm.swap _ _ _)
  wtm_at "go"
  refine k q _ _ ?_ ?_ w2.give
  · exact fun b u e => by rw [upd_ne (ne_of_none e (w2.out _ (List.mem_cons_self ..)))]; exact e
  · exact ⟨⟨dx, by rw [upd_same]; rfl⟩, (fun z h => nomatch h), by simp⟩

theorem len8 {ls : List (List Int)} (h : ∀ l ∈ ls, l.length ≤ 8) (i : Nat) : (ls.getD i []).length ≤ 8 := by
  rw [List.getD_eq_getElem?_getD]
  by_cases hi : i < ls.length
  · rw [List.getElem?_eq_getElem hi]
    exact h _ (List.getElem_mem hi)
  · rw [List.getElem?_eq_none (by omega)]
    simp
/-- the walk's word of a Leaves at a: where its list stands, its leaves, that they are fit to be searched -/
structure Lv (D : Ad) (B H : Hp) (L : List Cell) (a q : Addr) (zs : Zs) : Prop where
  b : LvB D B a q zs
  w : W B ((q, .lst (rfZ zs)) :: L) H
  ne : ∀ i, i < (lsZ zs).length → (lsZ zs).getD i [] ≠ []
  up : HdUp (lsZ zs)
  l8 : ∀ l ∈ lsZ zs, l.length ≤ 8
def sp_Leaves_leaf_at (K : PySem.W.Frag) (D : Ad) : Sp := Sp2 fun x y H Q _ => ∃ (a q : Addr) (zs : Zs) (key : Int) (B : Hp) (L : List Cell), x = .ref a ∧ y = .int key ∧ Lv D B H L a q zs ∧ Q (.int (laL (lsZ zs) key : Nat)) H
theorem ok_Leaves_leaf_at {D : Ad} (T : Txt K mg D) : FnOk P w K mg base (L2.CX P w) 1 D.a_Leaves_leaf_at D.d_Leaves_leaf_at ["self", "key"] (sp_Leaves_leaf_at K D) := by
  refine T.F_Leaves_leaf_at.okX sc_Leaves_leaf_at (fun vs H Q E h => sp2_len h) (fun cdv A outer s H vs Q E hr h => ⟨_, (pss_cons (ps_set (i := 2) sc_Leaves_leaf_at.nd rfl (Or.inl rfl) pe_int)
    (pss_cons (ps_set (i := 3) sc_Leaves_leaf_at.nd rfl (Or.inl rfl) (pe_callB call_lenZ (by rfl) T.n_len bt_len (pa_cons (pe_fld (pv 0) rfl) pa_nil)))
    (pss_cons (ps_while (passes_of rfl) (pt_cmpR op_gt (pe_op op_sub (pv 3) (pv 2)) pe_int (nomark _))
      (pss_cons (ps_set (i := 4) sc_Leaves_leaf_at.nd rfl (Or.inl rfl) (pe_op op_fdiv (pe_op op_add (pv 2) (pv 3)) pe_int))
      (pss_one (ps_if (pt_cmpR op_le (pe_ix ix_list (pe_ix ix_list (pe_fld (pv 0) rfl) (pv 4) (fun _ _ => rfl)) pe_int (fun _ _ => rfl)) (pv 1) (nomark _))
        (pss_one (ps_set (i := 2) sc_Leaves_leaf_at.nd rfl (Or.inl rfl) (pv 4)))
        (pss_one (ps_set (i := 3) sc_Leaves_leaf_at.nd rfl (Or.inl rfl) (pv 4)))))))
    (pss_one (ps_ret (pv 2)))))), ?_⟩)
  obtain ⟨x0, x1, rfl, h⟩ := h
  rw [show L2.start n_Leaves_leaf_at [x0, x1] = [some x0, some x1, none, none, none] from rfl]
  try dsimp only [cxOf]
  obtain ⟨a, q, zs, key, B, L, rfl, rfl, ⟨lv, w, ne, up, _⟩, k⟩ := h
  obtain ⟨dx, ho⟩ := lv.obj
  have hl : (lsZ zs).length = zs.length := List.length_map _
  have hsm := lv.small
  have hq := w.get (List.mem_cons_self ..)
  wtm_at "go"
  refine r_fld (w.rd ho) T.cl_Leaves T.na_Leaves_parted rfl ?_
  wtm_at "go"
  refine r_lenL (SqL.of hq) ?_
  wtm_at "g0"
  rw [List.length_map, ← hl]
  refine g_while (lsZ zs).length (fun m σ H' => ∃ (lo hi : Nat) (u : Option V), lo ≤ hi ∧ hi - lo ≤ m ∧ hi ≤ (lsZ zs).length ∧ (lo = 0 ∨ (lo < (lsZ zs).length ∧ hdL (lsZ zs) lo ≤ key)) ∧ (hi = (lsZ zs).length ∨ (hi < (lsZ zs).length ∧ key < hdL (lsZ zs) hi)) ∧
    σ = [some (.ref a), some (.int key), some (.int lo), some (.int hi), u] ∧ H' = H) ⟨0, (lsZ zs).length, none, by omega, by omega, by omega, .inl rfl, .inl rfl, rfl, rfl⟩ ?_
  rintro m σ H' ⟨lo, hi, u, h1, h2, h3, h4, h5, rfl, rfl⟩
  wtm_at "go"
  by_cases c : hi ≤ lo + 1
  · wtm_at "go"
    have e := laL_of up h4 h5 c
    rw [e]
    exact k
  · wtm_at "go"
    refine r_fld (w.rd ho) T.cl_Leaves T.na_Leaves_parted rfl ?_
    wtm_at "go"
    have em : ((lo : Int) + (hi : Int)) / 2 = (((lo + hi) / 2 : Nat) : Int) := by omega
    rw [em]
    have hmid : (lo + hi) / 2 < (lsZ zs).length := by omega
    have hm1 : lo < (lo + hi) / 2 := by omega
    have hm2 : (lo + hi) / 2 < hi := by omega
    generalize (lo + hi) / 2 = mid at hmid hm1 hm2 ⊢
    obtain ⟨z, hz, hB⟩ := lv.get hmid
    refine r_ixL (SqL.of hq) (v := .ref z.1) ?_ ?_
    · rw [atI_nat' (by omega) (by rw [List.length_map]; omega), Int.toNat_natCast, List.getElem?_map, hz]
      rfl
    wtm_at "go"
    have hne := ne _ hmid
    have hh : (lsZ zs).getD mid [] = hdL (lsZ zs) mid :: ((lsZ zs).getD mid []).tail := by
      unfold hdL
      cases e : (lsZ zs).getD mid [] with
      | nil => exact absurd e hne
      | cons x r => rfl
    refine r_ixL (v := .int (hdL (lsZ zs) mid)) (SqL.of (w.rd hB)) ?_ ?_
    · rw [hh]
      rw [atI_nat' (by omega) (by simp)]
      rfl
    wtm_at "go"
    wtm_at "br"
    · intro c2
      wtm_at "go"
      exact ⟨m - 1, by omega, mid, hi, _, by omega, by omega, by omega, .inr ⟨hmid, c2⟩, h5, rfl, rfl⟩
    · intro c2
      wtm_at "go"
      exact ⟨m - 1, by omega, lo, mid, _, by omega, by omega, by omega, h4, .inr ⟨hmid, by omega⟩, rfl, rfl⟩

local macro_rules | `(tactic| wtm_at "s0") => `(tactic| first | with_reducible refine g_bm ?_ | with_reducible refine g_bm0 ?_ | with_reducible refine g_sub ?_)
theorem dp_lists {H : Hp} : ∀ (zs : Zs), (∀ z ∈ zs, H z.1 = some (.lst (z.2.map V.int))) → DpAll K H (rfZ zs) ((lsZ zs).map fun l => PyData.list (l.map PyData.int))
  | [], _ => .nil
  | z :: zs, h => .cons (.lst (SqL.of (h z (List.mem_cons_self ..))) (dp_ints z.2)) (dp_lists zs fun y hy => h y (List.mem_cons_of_mem _ hy))
theorem can_lists : ∀ ls : List (List Int), PyData.canLayAll0 (ls.map fun l => PyData.list (l.map PyData.int)) = true
  | [] => by simp [PyData.canLayAll0]
  | l :: r => by simp [PyData.canLayAll0, PyData.canLay0, canAll_ints, can_lists r]
theorem dep_lists : ∀ ls : List (List Int), PyData.depthAll (ls.map fun l => PyData.list (l.map PyData.int)) ≤ 1
  | [] => by simp [PyData.depthAll]
  | l :: r => by
    have := dep_lists r
    simp only [List.map_cons, PyData.depthAll, PyData.depth, depAll_ints]
    omega
theorem sh_lists (ls : List (List Int)) : SeqAt.shaped (.list (ls.map fun l => PyData.list (l.map PyData.int))) = true := by
  have := dep_lists ls
  unfold SeqAt.shaped
  rw [PyData.canLay0, can_lists, Bool.true_and, PyData.depth]
  exact decide_eq_true (by omega)
theorem eqv_nil (xs : List PyData) : PyData.eqvAll xs [] = decide (xs = []) := by cases xs <;> simp [PyData.eqvAll]
section
variable {D : Ad} {B H : Hp} {a q e : Addr} {zs : Zs} {Q : VK}
theorem dpLv (lv : LvB D B a q zs) (s : Same B H) (hq : SqL K H q (rfZ zs)) : Dp K H (.ref q) (.list ((lsZ zs).map fun l => PyData.list (l.map PyData.int))) :=
  .lst hq (dp_lists zs fun z hz => s _ _ (lv.at_ z hz))
theorem r_neLv (lv : LvB D B a q zs) (s : Same B H) (hq : SqL K H q (rfZ zs)) (he : SqL K H e []) (k : Q (.bl (!decide (zs = []))) H) : rNeD K (.ref q) (.ref e) H Q :=
  ⟨_, _, dpLv lv s hq, .lst he .nil, sh_lists _, by decide, by rw [PyData.eqv, eqv_nil]; simpa using k⟩
theorem r_eqLv (lv : LvB D B a q zs) (s : Same B H) (hq : SqL K H q (rfZ zs)) (he : SqL K H e []) (k : Q (.bl (decide (zs = []))) H) : rEqD K (.ref q) (.ref e) H Q :=
  ⟨_, _, dpLv lv s hq, .lst he .nil, sh_lists _, by decide, by rw [PyData.eqv, eqv_nil]; simpa using k⟩
end
theorem lsZ_ne {zs : Zs} (h : zs ≠ []) : lsZ zs ≠ [] := by simpa using h
def sp_Leaves_has (K : PySem.W.Frag) (D : Ad) : Sp := Sp2 fun x y H Q _ => ∃ (a q : Addr) (zs : Zs) (key : Int) (B : Hp) (L : List Cell), x = .ref a ∧ y = .int key ∧ Lv D B H L a q zs ∧
  ∀ B' H', Same B B' → Lv D B' H' L a q zs → Q (.bl (hsL (lsZ zs) key)) H'
theorem ok_Leaves_has {D : Ad} (T : Txt K mg D) : FnOk P w K mg base (L2.CX P w) 2 D.a_Leaves_has D.d_Leaves_has ["self", "key"] (sp_Leaves_has K D) := by
  refine T.F_Leaves_has.okX sc_Leaves_has (fun vs H Q E h => sp2_len h) (fun cdv A outer s H vs Q E hr h => ⟨_, (pss_one (ps_ret (pe_and (pe_cmpR (op_neD hr.units) (pe_fld (pv 0) rfl) (pe_lst pa_nil) (nomark _)) (pe_one (pe_cmpR op_in_seq (pv 1) (pe_ix ix_list (pe_fld (pv 0) rfl) (pe_meth (pv 0) T.cl_Leaves T.me_Leaves_leaf_at (ok_Leaves_leaf_at T) (hr.mono (by decide)) T.b_Leaves_leaf_at .nil pX (pa_cons (pv 1) pa_nil)) (fun _ _ => rfl)) (by rfl)))))), ?_⟩)
  obtain ⟨x0, x1, rfl, h⟩ := h
  rw [show L2.start n_Leaves_has [x0, x1] = [some x0, some x1] from rfl]
  try dsimp only [cxOf]
  obtain ⟨a, q, zs, key, B, L, rfl, rfl, ⟨lv, w, ne, up, l8⟩, k⟩ := h
  obtain ⟨dx, ho⟩ := lv.obj
  wtm_at "go"
  refine r_fld (w.rd ho) T.cl_Leaves T.na_Leaves_parted rfl ?_
  wtm_at "go"
  refine d_lst w (szl (by simp)) fun e B1 H1 he s1 i1 w => ?_
  have lv := lv.mono s1
  have ho := s1 _ _ ho
  have hq := w.get (List.mem_cons_self ..)
  refine r_neLv lv w.sub (SqL.of hq) (SqL.of (w.rd i1)) ?_
  wtm_at "go"
  wtm_at "br"
  · intro c
    have c2 := laL_lt (key := key) (lsZ_ne c)
    wtm_at "go"
    refine r_fld (w.rd ho) T.cl_Leaves T.na_Leaves_parted rfl ?_
    wtm_at "go"
    refine r_meth (w.rd ho) rfl ?_
    wtm_at "go"
    refine ⟨_, _, rfl, a, q, zs, key, B1, L, rfl, rfl, ⟨lv, w, ne, up, l8⟩, ?_⟩
    obtain ⟨z, hz, hB⟩ := lv.get c2
    refine r_ixL (SqL.of hq) (v := .ref z.1) ?_ ?_
    · rw [List.length_map] at c2
      rw [atI_nat' (by omega) (by rw [List.length_map]; omega), Int.toNat_natCast, List.getElem?_map, hz]
      rfl
    refine r_inL (SqL.of (w.rd hB)) ?_
    have e2 : hsL (lsZ zs) key = decide (key ∈ (lsZ zs).getD (laL (lsZ zs) key) []) := by unfold hsL; simp [c]
    rw [← e2]
    exact k _ _ s1 ⟨lv, w, ne, up, l8⟩
  · intro c
    wtm_at "go"
    have e2 : hsL (lsZ zs) key = false := by unfold hsL; simp [c]
    rw [← e2]
    exact k _ _ s1 ⟨lv, w, ne, up, l8⟩

def sp_Leaves_add (K : PySem.W.Frag) (D : Ad) : Sp := Sp2 fun x y H Q E => ∃ (a q : Addr) (zs : Zs) (key : Int) (B : Hp) (L : List Cell), x = .ref a ∧ y = .int key ∧ Lv D B H L a q zs ∧
  ((hsL (lsZ zs) key = false ∧ zs.length + 1 < 10000 ∧ ∀ B' H' zs', Same B B' → LvB D B' a q zs' → W B' ((q, .lst (rfZ zs')) :: L) H' → AddR (lsZ zs) key (lsZ zs') → Q .non H') ∨
  (hsL (lsZ zs) key = true ∧ ∀ d B' H', Same B B' → Lv D B' H' L a q zs → B' d = some (.xd [("key", .int key)]) → E (.ref D.c_Twice) (some d) H'))
theorem ok_Leaves_add {D : Ad} (T : Txt K mg D) : FnOk P w K mg base (L2.CX P w) 3 D.a_Leaves_add D.d_Leaves_add ["self", "key"] (sp_Leaves_add K D) := by
  refine T.F_Leaves_add.okX sc_Leaves_add (fun vs H Q E h => sp2_len h) (fun cdv A outer s H vs Q E hr h => ⟨_, (pss_cons (ps_if (pt_val (pe_meth (pv 0) T.cl_Leaves T.me_Leaves_has (ok_Leaves_has T) (hr.mono (by decide)) T.b_Leaves_has .nil pX (pa_cons (pv 1) pa_nil)))
      (pss_one (ps_raiseO rfl (takes_of rfl rfl rfl rfl) T.xc_Twice T.iC_Twice T.tI_Twice (ok_Twice_init T) (hr.mono (by decide)) T.b_Twice_init .nil passF rfl T.g_Twice (pa_cons (pv 1) pa_nil)))
      pss_nil)
    (pss_cons (ps_if (pt_cmpR (op_eqD hr.units) (pe_fld (pv 0) rfl) (pe_lst pa_nil) (nomark _))
      (pss_cons (ps_expr (pe_bm PySem.F.plainAttrs_list PySem.F.slot_list_append PySem.F.type_list_append mt_append (pe_fld (pv 0) rfl) (pa_cons (pe_lst (pa_cons (pv 1) pa_nil)) pa_nil)))
      (pss_one ps_retN))
      pss_nil)
    (pss_cons (ps_set (i := 2) sc_Leaves_add.nd rfl (Or.inl rfl) (pe_meth (pv 0) T.cl_Leaves T.me_Leaves_leaf_at (ok_Leaves_leaf_at T) (hr.mono (by decide)) T.b_Leaves_leaf_at .nil pX (pa_cons (pv 1) pa_nil)))
    (pss_cons (ps_set (i := 3) sc_Leaves_add.nd rfl (Or.inl rfl) (pe_callB cr_sortedI (by rfl) T.n_sorted bt_sorted (pa_cons (pe_op op_cat (pe_ix ix_list (pe_fld (pv 0) rfl) (pv 2) (fun _ _ => rfl)) (pe_lst (pa_cons (pv 1) pa_nil))) pa_nil)))
    (pss_cons (ps_asg (pv 3) (pg_sub (pe_fld (pv 0) rfl) (pv 2) set_list))
    (pss_one (ps_if (pt_cmpR op_gt (pe_callB call_lenZ (by rfl) T.n_len bt_len (pa_cons (pv 3) pa_nil)) (pe_glob (v := .int 8) rfl T.k_MOST_KEYS ⟨_, rfl⟩) (nomark _))
      (pss_cons (ps_asg (pe_slice sl_list (pv 3) po_none (po_some pe_int)) (pg_sub (pe_fld (pv 0) rfl) (pv 2) set_list))
      (pss_one (ps_expr (pe_bm PySem.F.plainAttrs_list PySem.F.slot_list_insert PySem.F.type_list_insert mt_insertZ (pe_fld (pv 0) rfl) (pa_cons (pe_op op_add (pv 2) pe_int) (pa_cons (pe_slice sl_list (pv 3) (po_some pe_int) po_none) pa_nil))))))
      pss_nil))))))), ?_⟩)
  obtain ⟨x0, x1, rfl, h⟩ := h
  rw [show L2.start n_Leaves_add [x0, x1] = [some x0, some x1, none, none] from rfl]
  try dsimp only [cxOf]
  obtain ⟨a, q, zs, key, B, L, rfl, rfl, lv, hk⟩ := h
  rcases hk with ⟨hh, hsm, k⟩ | ⟨hh, k⟩
  rotate_left
  · obtain ⟨dx, ho⟩ := lv.b.obj
    wtm_at "go"
    refine r_meth (lv.w.rd ho) rfl ?_
    wtm_at "go"
    refine ⟨_, _, rfl, a, q, zs, key, B, L, rfl, rfl, lv, fun B1 H1 s1 lv => ?_⟩
    rw [hh]
    wtm_at "go"
    refine r_raiseX1 lv.w fun d B' H' s i w => ?_
    exact k d B' H' (same_trans s1 s) ⟨lv.b.mono s, w, lv.ne, lv.up, lv.l8⟩ i
  obtain ⟨dx, ho⟩ := lv.b.obj
  wtm_at "go"
  refine r_meth (lv.w.rd ho) rfl ?_
  wtm_at "go"
  refine ⟨_, _, rfl, a, q, zs, key, B, L, rfl, rfl, lv, fun B1 H1 s1 lv => ?_⟩
  rw [hh]
  wtm_at "go"
  have ho := s1 _ _ ho
  refine r_fld (lv.w.rd ho) T.cl_Leaves T.na_Leaves_parted rfl ?_
  wtm_at "go"
  obtain ⟨lb, w, ne, up, l8⟩ := lv
  refine d_lst w (szl (by simp)) fun e B2 H2 he s2 i2 w => ?_
  have lb := lb.mono s2
  have ho := s2 _ _ ho
  have s2 := same_trans s1 s2
  have hq := w.get (List.mem_cons_self ..)
  refine r_eqLv lb w.sub (SqL.of hq) (SqL.of (w.rd i2)) ?_
  wtm_at "go"
  wtm_at "br"
  · intro c
    subst c
    wtm_at "go"
    refine r_fld (w.rd ho) T.cl_Leaves T.na_Leaves_parted rfl ?_
    refine r_bmL (SqL.of hq) ?_
    wtm_at "go"
    refine d_lst w (szl (by simp)) fun p B3 H3 hp s3 i3 w => ?_
    have hq := w.get (List.mem_cons_self ..)
    refine r_append hq (szlt (by simp)) ?_
    have w := w.put0 (.lst (rfZ [] ++ [V.ref p]))
    wtm_at "go"
    exact k _ _ [(p, [key])] (same_trans s2 s3) ⟨⟨dx, s3 _ _ ho⟩, fun z hz => by (rw [List.mem_singleton.mp hz]; exact i3), by simp⟩ w (.inl ⟨rfl, rfl⟩)
  · intro c
    wtm_at "go"
    refine r_meth (w.rd ho) rfl ?_
    wtm_at "go"
    refine ⟨_, _, rfl, a, q, zs, key, B2, L, rfl, rfl, ⟨lb, w, ne, up, l8⟩, ?_⟩
    wtm_at "go"
    have c2 := laL_lt (key := key) (lsZ_ne c)
    have c3 : laL (lsZ zs) key < zs.length := by rw [List.length_map] at c2; exact c2
    have hr : ∀ ls', (∃ ms : List Int, ms.Perm ((lsZ zs).getD (laL (lsZ zs) key) [] ++ [key]) ∧ ms.Pairwise (· ≤ ·) ∧
      ls' = if 8 < ms.length then ((lsZ zs).set (laL (lsZ zs) key) (ms.take 4)).take (laL (lsZ zs) key + 1) ++ [ms.drop 4] ++ ((lsZ zs).set (laL (lsZ zs) key) (ms.take 4)).drop (laL (lsZ zs) key + 1) else (lsZ zs).set (laL (lsZ zs) key) ms) → AddR (lsZ zs) key ls' := fun ls' h => .inr ⟨lsZ_ne c, h⟩
    have hl8 := len8 l8 (laL (lsZ zs) key)
    obtain ⟨z, hz, hB⟩ := lb.get c2
    generalize laL (lsZ zs) key = k0 at c2 c3 hr hl8 hz hB ⊢
    generalize hlf : (lsZ zs).getD k0 [] = lf at hr hl8 hB ⊢
    refine r_fld (w.rd ho) T.cl_Leaves T.na_Leaves_parted rfl ?_
    wtm_at "go"
    refine r_ixL (SqL.of hq) (v := .ref z.1) ?_ ?_
    · rw [atI_nat' (by omega) (by rw [List.length_map]; omega), Int.toNat_natCast, List.getElem?_map, hz]
      rfl
    wtm_at "go"
    refine d_lst w (szl (by simp)) fun p3 B3 H3 hp3 s3 i3 w => ?_
    refine d_cat w (w.rd (s3 _ _ hB)) (w.rd i3) (szl (by simp; omega)) fun p4 B4 H4 hp4 s4 i4 w => ?_
    have i4 : B4 p4 = some (.lst ((lf ++ [key]).map V.int)) := by simpa using i4
    wtm_at "go"
    refine r_sortI w (SqL.of (w.rd i4)) fun p5 B5 H5 ms pm so s5 i5 w => ?_
    have s25 := same_trans s3 (same_trans s4 s5)
    have ho := s25 _ _ ho
    have lb := lb.mono s25
    wtm_at "go"
    refine r_fld (w.rd ho) T.cl_Leaves T.na_Leaves_parted rfl ?_
    wtm_at "go"
    refine r_setL (w.get (List.mem_cons_self ..)) (k := k0) (by rw [List.length_map]; exact c3) ?_
    have w := w.put0 (.lst ((rfZ zs).set k0 (V.ref p5)))
    rw [← rfZ_set zs k0 p5 ms] at w ⊢
    have hm9 : ms.length ≤ 9 := by rw [pm.length_eq]; simp; omega
    have lb1 := lb.set (k := k0) i5
    wtm_at "go"
    refine r_lenL (SqL.of (w.rd i5)) ?_
    wtm_at "go"
    rw [List.length_map]
    wtm_at "br"
    · intro c4
      wtm_at "go"
      refine d_slL w (SqL.of (w.rd i5)) fun p6 B6 H6 hp6 s6 i6 w => ?_
      rw [cutV_int, show cutI ms none (some 4) = ms.take 4 from cutI_take ms 4] at i6
      have ho := s6 _ _ ho
      wtm_at "go"
      refine r_fld (w.rd ho) T.cl_Leaves T.na_Leaves_parted rfl ?_
      wtm_at "go"
      refine r_setL (w.get (List.mem_cons_self ..)) (k := k0) (by rw [List.length_map, List.length_set]; exact c3) ?_
      have w := w.put0 (.lst ((rfZ (zs.set k0 (p5, ms))).set k0 (V.ref p6)))
      rw [← rfZ_set _ k0 p6 (ms.take 4), List.set_set] at w ⊢
      have lb2 := (lb.mono s6).set (k := k0) i6
      wtm_at "go"
      refine r_fld (w.rd ho) T.cl_Leaves T.na_Leaves_parted rfl ?_
      refine r_bmL (SqL.of (w.get (List.mem_cons_self ..))) ?_
      wtm_at "go"
      refine d_slL w (SqL.of (w.rd (s6 _ _ i5))) fun p7 B7 H7 hp7 s7 i7 w => ?_
      rw [cutV_int, show cutI ms (some 4) none = ms.drop 4 from cutI_drop ms 4] at i7
      wtm_at "go"
      rw [show ((k0 : Int) + 1) = ((k0 + 1 : Nat) : Int) by omega]
      refine r_insert (w.get (List.mem_cons_self ..)) (by rw [List.length_map, List.length_set]; exact szlt (by omega)) (by omega) ?_
      have w := w.put0 (.lst ((rfZ (zs.set k0 (p6, ms.take 4))).take (k0 + 1) ++ [V.ref p7] ++ (rfZ (zs.set k0 (p6, ms.take 4))).drop (k0 + 1)))
      rw [← rfZ_ins _ (k0 + 1) p7 (ms.drop 4)] at w ⊢
      wtm_at "go"
      refine k _ _ _ (same_trans s2 (same_trans s25 (same_trans s6 s7))) ((lb2.mono s7).ins (k := k0 + 1) i7 (by rw [List.length_set]; exact hsm)) w (hr _ ⟨ms, pm, so, ?_⟩)
      rw [lsZ_ins, lsZ_set, if_pos (by omega)]
    · intro c4
      wtm_at "go"
      refine k _ _ _ (same_trans s2 s25) lb1 w (hr _ ⟨ms, pm, so, ?_⟩)
      rw [lsZ_set, if_neg (by omega)]

def sp_Leaves_join_at (K : PySem.W.Frag) (D : Ad) : Sp := Sp2 fun x y H Q _ => ∃ (a q : Addr) (zs : Zs) (k : Int) (B : Hp) (L : List Cell), x = .ref a ∧ y = .int k ∧ LvB D B a q zs ∧ W B ((q, .lst (rfZ zs)) :: L) H ∧ (∀ l ∈ lsZ zs, l.length ≤ 8) ∧
  ∀ B' H' zs', Same B B' → LvB D B' a q zs' → W B' ((q, .lst (rfZ zs')) :: L) H' → lsZ zs' = jnL (lsZ zs) k → Q .non H'
theorem ok_Leaves_join_at {D : Ad} (T : Txt K mg D) : FnOk P w K mg base (L2.CX P w) 1 D.a_Leaves_join_at D.d_Leaves_join_at ["self", "at"] (sp_Leaves_join_at K D) := by
  refine T.F_Leaves_join_at.okX sc_Leaves_join_at (fun vs H Q E h => sp2_len h) (fun cdv A outer s H vs Q E hr h => ⟨_, (pss_one (ps_if (pt_chain op_le op_lt pe_int (pv 1) (pe_op op_sub (pe_callB call_lenZ (by rfl) T.n_len bt_len (pa_cons (pe_fld (pv 0) rfl) pa_nil)) pe_int))
      (pss_cons (ps_set (i := 2) sc_Leaves_join_at.nd rfl (Or.inl rfl) (pe_op op_cat (pe_ix ix_list (pe_fld (pv 0) rfl) (pv 1) (fun _ _ => rfl)) (pe_ix ix_list (pe_fld (pv 0) rfl) (pe_op op_add (pv 1) pe_int) (fun _ _ => rfl))))
      (pss_one (ps_if (pt_cmpR op_lt (pe_callB call_lenZ (by rfl) T.n_len bt_len (pa_cons (pv 2) pa_nil)) (pe_glob (v := .int 5) rfl T.k_LEAST_OF_TWO ⟨_, rfl⟩) (nomark _))
        (pss_cons (ps_asg (pv 2) (pg_sub (pe_fld (pv 0) rfl) (pv 1) set_list))
        (pss_one (ps_expr (pe_bm PySem.F.plainAttrs_list PySem.F.slot_list_pop PySem.F.type_list_pop mt_popAt (pe_fld (pv 0) rfl) (pa_cons (pe_op op_add (pv 1) pe_int) pa_nil)))))
        pss_nil)))
      pss_nil)), ?_⟩)
  obtain ⟨x0, x1, rfl, h⟩ := h
  rw [show L2.start n_Leaves_join_at [x0, x1] = [some x0, some x1, none] from rfl]
  try dsimp only [cxOf]
  obtain ⟨a, q, zs, kk, B, L, rfl, rfl, lb, w, l8, k⟩ := h
  obtain ⟨dx, ho⟩ := lb.obj
  have hsm := lb.small
  have hq := w.get (List.mem_cons_self ..)
  wtm_at "go"
  by_cases c1 : 0 ≤ kk
  · wtm_at "go"
    refine r_fld (w.rd ho) T.cl_Leaves T.na_Leaves_parted rfl ?_
    wtm_at "go"
    refine r_lenL (SqL.of hq) ?_
    wtm_at "go"
    rw [List.length_map]
    wtm_at "br"
    · intro c2
      obtain ⟨j, rfl⟩ : ∃ j : Nat, kk = j := ⟨kk.toNat, by omega⟩
      have hj : j < (lsZ zs).length := by rw [List.length_map]; omega
      have hj1 : j + 1 < (lsZ zs).length := by rw [List.length_map]; omega
      have hz0 : (lsZ zs).length = zs.length := List.length_map _
      obtain ⟨z1, hz1, hB1⟩ := lb.get hj
      obtain ⟨z2, hz2, hB2⟩ := lb.get hj1
      have l1 := len8 l8 j
      have l2 := len8 l8 (j + 1)
      have ej : jnL (lsZ zs) j = if ((lsZ zs).getD j [] ++ (lsZ zs).getD (j + 1) []).length < 5 then ((lsZ zs).set j ((lsZ zs).getD j [] ++ (lsZ zs).getD (j + 1) [])).eraseIdx (j + 1) else lsZ zs := by
        unfold jnL
        rw [Int.toNat_natCast]
        by_cases c5 : ((lsZ zs).getD j [] ++ (lsZ zs).getD (j + 1) []).length < 5
        · rw [if_pos c5, if_pos ⟨by omega, by omega, c5⟩]
        · rw [if_neg c5, if_neg fun h => c5 h.2.2]
      wtm_at "go"
      refine r_fld (w.rd ho) T.cl_Leaves T.na_Leaves_parted rfl ?_
      wtm_at "go"
      refine r_ixL (SqL.of hq) (v := .ref z1.1) ?_ ?_
      · rw [atI_nat' (by omega) (by rw [List.length_map]; omega), Int.toNat_natCast, List.getElem?_map, hz1]
        rfl
      wtm_at "go"
      refine r_fld (w.rd ho) T.cl_Leaves T.na_Leaves_parted rfl ?_
      wtm_at "go"
      rw [show ((j : Int) + 1) = ((j + 1 : Nat) : Int) by omega]
      refine r_ixL (SqL.of hq) (v := .ref z2.1) ?_ ?_
      · rw [atI_nat' (by omega) (by rw [List.length_map]; omega), Int.toNat_natCast, List.getElem?_map, hz2]
        rfl
      generalize (lsZ zs).getD j [] = la at *
      generalize (lsZ zs).getD (j + 1) [] = lc at *
      refine d_cat w (w.rd hB1) (w.rd hB2) (szl (by simp; omega)) fun p3 B3 H3 hp3 s3 i3 w => ?_
      have i3 : B3 p3 = some (.lst ((la ++ lc).map V.int)) := by simpa using i3
      have ho := s3 _ _ ho
      wtm_at "go"
      refine r_lenL (SqL.of (w.rd i3)) ?_
      wtm_at "go"
      rw [List.length_map]
      wtm_at "br"
      · intro c3
        wtm_at "go"
        refine r_fld (w.rd ho) T.cl_Leaves T.na_Leaves_parted rfl ?_
        wtm_at "go"
        refine r_setL (w.get (List.mem_cons_self ..)) (k := j) (by rw [List.length_map]; omega) ?_
        have w := w.put0 (.lst ((rfZ zs).set j (V.ref p3)))
        rw [← rfZ_set _ j p3 (la ++ lc)] at w ⊢
        have lb2 := (lb.mono s3).set (k := j) i3
        wtm_at "go"
        refine r_fld (w.rd ho) T.cl_Leaves T.na_Leaves_parted rfl ?_
        refine r_bmL (SqL.of (w.get (List.mem_cons_self ..))) ?_
        wtm_at "go"
        rw [show ((j : Int) + 1) = ((j + 1 : Nat) : Int) by omega]
        refine r_popAt (w.get (List.mem_cons_self ..)) (k := j + 1) (y := .ref z2.1) (by rw [List.length_map, List.length_set]; omega) ?_ ?_
        · rw [rfZ_set, List.getElem?_set_ne (by omega), List.getElem?_map, hz2]
          rfl
        have w := w.put0 (.lst ((rfZ (zs.set j (p3, la ++ lc))).eraseIdx (j + 1)))
        rw [← rfZ_del] at w ⊢
        wtm_at "go"
        refine k _ _ _ s3 (lb2.del (k := j + 1)) w ?_
        rw [lsZ_del, lsZ_set, ej, if_pos (by omega)]
      · intro c3
        wtm_at "go"
        refine k _ _ _ s3 (lb.mono s3) w ?_
        rw [ej, if_neg (by omega)]
    · intro c2
      wtm_at "go"
      refine k _ _ zs (same_refl _) lb w ?_
      unfold jnL
      rw [if_neg fun h => by have := h.2.1; rw [List.length_map] at this; omega]
  · wtm_at "go"
    refine k _ _ zs (same_refl _) lb w ?_
    unfold jnL
    rw [if_neg fun h => c1 h.1]

def sp_Leaves_discard (K : PySem.W.Frag) (D : Ad) : Sp := Sp2 fun x y H Q E => ∃ (a q : Addr) (zs : Zs) (key : Int) (B : Hp) (L : List Cell), x = .ref a ∧ y = .int key ∧ Lv D B H L a q zs ∧
  ((hsL (lsZ zs) key = true ∧ ∀ B' H' zs', Same B B' → LvB D B' a q zs' → W B' ((q, .lst (rfZ zs')) :: L) H' → lsZ zs' = dsL (lsZ zs) key → Q .non H') ∨
  (hsL (lsZ zs) key = false ∧ ∀ d B' H', Same B B' → Lv D B' H' L a q zs → B' d = some (.xd [("key", .int key)]) → E (.ref D.c_NoKey) (some d) H'))
theorem ok_Leaves_discard {D : Ad} (T : Txt K mg D) : FnOk P w K mg base (L2.CX P w) 3 D.a_Leaves_discard D.d_Leaves_discard ["self", "key"] (sp_Leaves_discard K D) := by
  refine T.F_Leaves_discard.okX sc_Leaves_discard (fun vs H Q E h => sp2_len h) (fun cdv A outer s H vs Q E hr h => ⟨_, (pss_cons (ps_if (pt_not (pt_val (pe_meth (pv 0) T.cl_Leaves T.me_Leaves_has (ok_Leaves_has T) (hr.mono (by decide)) T.b_Leaves_has .nil pX (pa_cons (pv 1) pa_nil))))
      (pss_one (ps_raiseO rfl (takes_of rfl rfl rfl rfl) T.xc_NoKey T.iC_NoKey T.tI_NoKey (ok_NoKey_init T) (hr.mono (by decide)) T.b_NoKey_init .nil passF rfl T.g_NoKey (pa_cons (pv 1) pa_nil)))
      pss_nil)
    (pss_cons (ps_set (i := 2) sc_Leaves_discard.nd rfl (Or.inl rfl) (pe_meth (pv 0) T.cl_Leaves T.me_Leaves_leaf_at (ok_Leaves_leaf_at T) (hr.mono (by decide)) T.b_Leaves_leaf_at .nil pX (pa_cons (pv 1) pa_nil)))
    (pss_cons (ps_setLc (i := 3) (own := [("one", 4)]) (g := gName 4) rfl sc_Leaves_discard.nd rfl rfl (sw_true rfl rfl rfl (by decide +kernel)) (pi_list (pe_ix ix_list (pe_fld (pv 0) rfl) (pv 2) (fun _ _ => rfl))) (blkOk_by (own := [("one", 4)]) (N := n_Leaves_discard) (sc := defScope s_Leaves_discard) (by decide +kernel)) (fun _ _ _ _ _ => (pg_name (i := 4) sc_Leaves_discard.nd rfl (Or.inl rfl))) (fun _ _ _ _ _ => (pts_one (pt_cmpR op_ne (pv 4) (pv 1) (nomark _)))) (fun _ _ _ _ _ => (pv 4)))
    (pss_cons (ps_if (pt_cmpR (op_eqD hr.units) (pv 3) (pe_lst pa_nil) (nomark _))
      (pss_cons (ps_expr (pe_bm PySem.F.plainAttrs_list PySem.F.slot_list_pop PySem.F.type_list_pop mt_popAt (pe_fld (pv 0) rfl) (pa_cons (pv 2) pa_nil)))
      (pss_one ps_retN))
      pss_nil)
    (pss_cons (ps_asg (pv 3) (pg_sub (pe_fld (pv 0) rfl) (pv 2) set_list))
    (pss_cons (ps_expr (pe_meth (pv 0) T.cl_Leaves T.me_Leaves_join_at (ok_Leaves_join_at T) (hr.mono (by decide)) T.b_Leaves_join_at .nil pX (pa_cons (pv 2) pa_nil)))
    (pss_one (ps_expr (pe_meth (pv 0) T.cl_Leaves T.me_Leaves_join_at (ok_Leaves_join_at T) (hr.mono (by decide)) T.b_Leaves_join_at .nil pX (pa_cons (pe_op op_sub (pv 2) pe_int) pa_nil)))))))))), ?_⟩)
  obtain ⟨x0, x1, rfl, h⟩ := h
  rw [show L2.start n_Leaves_discard [x0, x1] = [some x0, some x1, none, none, none] from rfl]
  try dsimp only [cxOf]
  obtain ⟨a, q, zs, key, B, L, rfl, rfl, lv, hk⟩ := h
  rcases hk with ⟨hh, k⟩ | ⟨hh, k⟩
  rotate_left
  · obtain ⟨dx, ho⟩ := lv.b.obj
    wtm_at "go"
    refine r_meth (lv.w.rd ho) rfl ?_
    wtm_at "go"
    refine ⟨_, _, rfl, a, q, zs, key, B, L, rfl, rfl, lv, fun B1 H1 s1 lv => ?_⟩
    rw [hh]
    wtm_at "go"
    refine r_raiseX1 lv.w fun d B' H' s i w => ?_
    exact k d B' H' (same_trans s1 s) ⟨lv.b.mono s, w, lv.ne, lv.up, lv.l8⟩ i
  obtain ⟨dx, ho⟩ := lv.b.obj
  wtm_at "go"
  refine r_meth (lv.w.rd ho) rfl ?_
  wtm_at "go"
  refine ⟨_, _, rfl, a, q, zs, key, B, L, rfl, rfl, lv, fun B1 H1 s1 lv => ?_⟩
  rw [hh]
  have c : zs ≠ [] := by
    unfold hsL at hh
    have := (of_decide_eq_true hh).1
    simpa using this
  wtm_at "go"
  have ho := s1 _ _ ho
  refine r_meth (lv.w.rd ho) rfl ?_
  wtm_at "go"
  refine ⟨_, _, rfl, a, q, zs, key, B1, L, rfl, rfl, lv, ?_⟩
  obtain ⟨lb, w, ne, up, l8⟩ := lv
  have hsm := lb.small
  have hq := w.get (List.mem_cons_self ..)
  have c2 := laL_lt (key := key) (lsZ_ne c)
  have c3 : laL (lsZ zs) key < zs.length := by rw [List.length_map] at c2; exact c2
  have hr : dsL (lsZ zs) key = if ((lsZ zs).getD (laL (lsZ zs) key) []).filter (fun n => !decide (n = key)) = [] then (lsZ zs).eraseIdx (laL (lsZ zs) key)
    else jnL (jnL ((lsZ zs).set (laL (lsZ zs) key) (((lsZ zs).getD (laL (lsZ zs) key) []).filter (fun n => !decide (n = key)))) (laL (lsZ zs) key)) ((laL (lsZ zs) key : Int) - 1) := rfl
  have hl8 := len8 l8 (laL (lsZ zs) key)
  obtain ⟨z, hz, hB⟩ := lb.get c2
  generalize laL (lsZ zs) key = k0 at c2 c3 hr hl8 hz hB ⊢
  generalize hlf : (lsZ zs).getD k0 [] = lf at hr hl8 hB ⊢
  wtm_at "go"
  refine r_fld (w.rd ho) T.cl_Leaves T.na_Leaves_parted rfl ?_
  wtm_at "go"
  refine r_ixL (SqL.of hq) (v := .ref z.1) ?_ ?_
  · rw [atI_nat' (by omega) (by rw [List.length_map]; omega), Int.toNat_natCast, List.getElem?_map, hz]
    rfl
  refine r_il (SqL.of (w.rd hB)) ?_
  intro D1 hD
  refine LC.list (K := K) w hD (SqL.of hB) (by rw [List.length_map]; exact szlt (by omega)) (fun i B acc => acc = ((lf.take i).filter (fun n => !decide (n = key))).map V.int) (by simp) ?_ ?_
  · rintro i x B2 acc H2 Nx hi s2 w rfl hl1 hl2 hN
    obtain ⟨n, rfl, hn, _⟩ := getV hi
    wtm_at "go"
    refine ⟨rfl, ?_⟩
    wtm_at "go"
    have et : lf.take (i + 1) = lf.take i ++ [n] := by rw [List.take_add_one, hn]; rfl
    wtm_at "br"
    · intro c4
      wtm_at "go"
      refine r_acc w hl2 fun H3 w3 => ?_
      refine hN _ _ _ (same_refl _) w3 ?_ (by simp at hl1 ⊢; omega)
      rw [et, List.filter_append]
      simp [c4]
    · intro c4
      refine hN _ _ _ (same_refl _) w ?_ (by omega)
      rw [et, List.filter_append]
      simp [c4]
  · rintro B2 B3 acc H2 s2 s3 i3 w rfl hl1
    rw [List.length_map, List.take_length] at i3
    wtm_at "go"
    have ho := s2 _ _ ho
    have lb := lb.mono s2
    have hgl : (lf.filter (fun n => !decide (n = key))).length ≤ lf.length := List.length_filter_le _ _
    generalize lf.filter (fun n => !decide (n = key)) = lg at i3 hr hgl
    refine d_lst w (szl (by simp)) fun e B4 H4 he s4 i4 w => ?_
    have i3 := s4 _ _ i3
    have ho := s4 _ _ ho
    have lb := lb.mono s4
    have s14 := same_trans s1 (same_trans s2 s4)
    refine r_eqLI (ns := lg) (ms := []) (SqL.of (w.rd i3)) (SqL.of (w.rd i4)) ?_
    wtm_at "go"
    wtm_at "br"
    · intro c4
      wtm_at "go"
      refine r_fld (w.rd ho) T.cl_Leaves T.na_Leaves_parted rfl ?_
      refine r_bmL (SqL.of (w.get (List.mem_cons_self ..))) ?_
      wtm_at "go"
      refine r_popAt (w.get (List.mem_cons_self ..)) (k := k0) (y := .ref z.1) (by rw [List.length_map]; omega) ?_ ?_
      · rw [List.getElem?_map, hz]
        rfl
      have w := w.put0 (.lst ((rfZ zs).eraseIdx k0))
      rw [← rfZ_del] at w ⊢
      wtm_at "go"
      refine k _ _ _ s14 (lb.del (k := k0)) w ?_
      rw [lsZ_del, hr, if_pos (of_decide_eq_true c4)]
    · intro c4
      wtm_at "go"
      refine r_fld (w.rd ho) T.cl_Leaves T.na_Leaves_parted rfl ?_
      wtm_at "go"
      refine r_setL (w.get (List.mem_cons_self ..)) (k := k0) (by rw [List.length_map]; exact c3) ?_
      have w := w.put0 (.lst ((rfZ zs).set k0 (V.ref D1)))
      rw [← rfZ_set _ k0 D1 lg] at w ⊢
      have lb2 := lb.set (k := k0) i3
      have hg8 : lg.length ≤ 8 := by omega
      have l82 : ∀ l ∈ lsZ (zs.set k0 (D1, lg)), l.length ≤ 8 := fun l hl => by
        rw [lsZ_set] at hl
        rcases List.mem_or_eq_of_mem_set hl with hl | rfl
        · exact l8 l hl
        · exact hg8
      wtm_at "go"
      refine r_meth (w.rd ho) rfl ?_
      wtm_at "go"
      refine ⟨_, _, rfl, a, q, _, _, B4, L, rfl, rfl, lb2, w, l82, fun B5 H5 zs5 s5 lb5 w e5 => ?_⟩
      have ho := s5 _ _ ho
      wtm_at "go"
      refine r_meth (w.rd ho) rfl ?_
      wtm_at "go"
      refine ⟨_, _, rfl, a, q, zs5, _, B5, L, rfl, rfl, lb5, w, by rw [e5]; exact jn_l8 l82, fun B6 H6 zs6 s6 lb6 w e6 => ?_⟩
      wtm_at "go"
      refine k _ _ _ (same_trans s14 (same_trans s5 s6)) lb6 w ?_
      rw [e6, e5, lsZ_set, hr, if_neg (of_decide_eq_false c4)]

abbrev clZ (zs : Zs) : List Cell := zs.map fun z => (z.1, HO.lst (z.2.map V.int))
def sp_Leaves_all_of (K : PySem.W.Frag) (D : Ad) : Sp := Sp1 fun x H Q _ => ∃ (a q : Addr) (zs : Zs) (B : Hp) (L : List Cell), x = .ref a ∧ LvB D B a q zs ∧ W B ((q, .lst (rfZ zs)) :: L) H ∧
  ∀ (p : Addr) (B' H' : Hp) (ys : Zs), Same B B' → lsZ ys = lsZ zs → W B' ((p, .lst (rfZ ys)) :: (clZ ys ++ ((q, .lst (rfZ zs)) :: L))) H' → Q (.ref p) H'
theorem ok_Leaves_all_of {D : Ad} (T : Txt K mg D) : FnOk P w K mg base (L2.CX P w) 1 D.a_Leaves_all_of D.d_Leaves_all_of ["self"] (sp_Leaves_all_of K D) := by
  refine T.F_Leaves_all_of.okX sc_Leaves_all_of (fun vs H Q E h => sp1_len h) (fun cdv A outer s H vs Q E hr h => ⟨_, (pss_one (ps_ret (pe_lc (own := [("leaf", 1)]) (g := gName 1) rfl sc_Leaves_all_of.nd (pi_list (pe_fld (pv 0) rfl)) (blkOk_by (own := [("leaf", 1)]) (N := n_Leaves_all_of) (sc := defScope s_Leaves_all_of) (by decide +kernel)) (fun _ _ _ _ _ => (pg_name (i := 1) sc_Leaves_all_of.nd rfl (Or.inl rfl))) (fun _ _ _ _ _ => pts_nil) (fun _ _ _ _ _ => (pe_callTy (r := rListOf K) call_listOf (by rfl) T.n_list bt_list (pa_cons (pv 1) pa_nil)))))), ?_⟩)
  obtain ⟨x0, rfl, h⟩ := h
  rw [show L2.start n_Leaves_all_of [x0] = [some x0, none] from rfl]
  try dsimp only [cxOf]
  obtain ⟨a, q, zs, B, L, rfl, lb, w, k⟩ := h
  obtain ⟨dx, ho⟩ := lb.obj
  have hsm := lb.small
  have hq := w.get (List.mem_cons_self ..)
  wtm_at "go"
  refine r_fld (w.rd ho) T.cl_Leaves T.na_Leaves_parted rfl ?_
  refine r_il (SqL.of hq) ?_
  intro D1 hD
  refine LC.listA (K := K) (xs := rfZ zs) w hD (fun B' A acc H _ w => SqL.of (w.get (List.mem_cons_of_mem _ (List.mem_append_right _ (List.mem_cons_self ..))))) (by rw [List.length_map]; exact szlt (by omega))
    (fun i B A acc => ∃ ys : Zs, A = clZ ys ∧ acc = rfZ ys ∧ lsZ ys = (lsZ zs).take i) ⟨[], rfl, rfl, rfl⟩ ?_ ?_
  · rintro i x B2 A acc H2 Nx hi s2 w ⟨ys, rfl, rfl, hy⟩ hl1 hl2 hN
    rw [List.getElem?_map] at hi
    cases e : zs[i]? with
    | none => rw [e] at hi; cases hi
    | some z =>
      rw [e] at hi
      cases hi
      have hB := s2 _ _ (lb.at_ z (List.mem_of_getElem? e))
      wtm_at "go"
      refine ⟨rfl, ?_⟩
      wtm_at "go"
      show rListOf K [V.ref z.1] _ _
      refine r_listOf (SqL.of (w.rd hB)) w fun l H3 w => ?_
      have w := W.perm w (L' := (D1, .lst (rfZ ys)) :: ((clZ ys ++ [(l, .lst (z.2.map V.int))]) ++ ((q, .lst (rfZ zs)) :: L))) ((List.Perm.swap _ _ _).trans (List.Perm.cons _ (by rw [List.append_assoc]; exact List.perm_middle.symm)))
      refine r_acc w hl2 fun H4 w4 => ?_
      refine hN _ _ _ _ (same_refl _) w4 ⟨ys ++ [(l, z.2)], by simp, by simp, ?_⟩ (by simp at hl1 ⊢; omega)
      show (ys ++ [(l, z.2)]).map (·.2) = _
      rw [List.map_append]
      show lsZ ys ++ [z.2] = _
      rw [hy, List.take_add_one, List.getElem?_map, e]
      rfl
  · rintro B2 A acc H2 s2 w ⟨ys, rfl, rfl, hy⟩ hl1
    refine k _ _ _ ys s2 ?_ w
    rw [hy, List.length_map, List.take_of_length_le (by rw [List.length_map]; omega)]

def sp_Leaves_many (K : PySem.W.Frag) (D : Ad) : Sp := Sp1 fun x H Q _ => ∃ (a q : Addr) (zs : Zs) (B : Hp) (L : List Cell), x = .ref a ∧ LvB D B a q zs ∧ W B ((q, .lst (rfZ zs)) :: L) H ∧
  ∀ (B' H' : Hp), Same B B' → W B' ((q, .lst (rfZ zs)) :: L) H' → Q (.int ((lsZ zs).map fun l => (l.length : Int)).sum) H'
theorem ok_Leaves_many {D : Ad} (T : Txt K mg D) : FnOk P w K mg base (L2.CX P w) 1 D.a_Leaves_many D.d_Leaves_many ["self"] (sp_Leaves_many K D) := by
  refine T.F_Leaves_many.okX sc_Leaves_many (fun vs H Q E h => sp1_len h) (fun cdv A outer s H vs Q E hr h => ⟨_, (pss_one (ps_ret (pe_callB (cr_sum rfl) (by rfl) T.n_sum bt_sum (pa_cons (pe_lc (own := [("leaf", 1)]) (g := gName 1) rfl sc_Leaves_many.nd (pi_list (pe_fld (pv 0) rfl)) (blkOk_by (own := [("leaf", 1)]) (N := n_Leaves_many) (sc := defScope s_Leaves_many) (by decide +kernel)) (fun _ _ _ _ _ => (pg_name (i := 1) sc_Leaves_many.nd rfl (Or.inl rfl))) (fun _ _ _ _ _ => pts_nil) (fun _ _ _ _ _ => (pe_callB (r := Z.rLen K) call_lenZ (by rfl) T.n_len bt_len (pa_cons (pv 1) pa_nil)))) pa_nil)))), ?_⟩)
  obtain ⟨x0, rfl, h⟩ := h
  rw [show L2.start n_Leaves_many [x0] = [some x0, none] from rfl]
  try dsimp only [cxOf]
  obtain ⟨a, q, zs, B, L, rfl, lb, w, k⟩ := h
  obtain ⟨dx, ho⟩ := lb.obj
  have hsm := lb.small
  have hq := w.get (List.mem_cons_self ..)
  wtm_at "go"
  refine r_fld (w.rd ho) T.cl_Leaves T.na_Leaves_parted rfl ?_
  refine r_il (SqL.of hq) ?_
  intro D1 hD
  refine LC.listA (K := K) (xs := rfZ zs) w hD (fun B' A acc H _ w => SqL.of (w.get (List.mem_cons_of_mem _ (List.mem_append_right _ (List.mem_cons_self ..))))) (by rw [List.length_map]; exact szlt (by omega))
    (fun i B A acc => A = [] ∧ acc = (((lsZ zs).take i).map fun l => (l.length : Int)).map V.int) ⟨rfl, rfl⟩ ?_ ?_
  · rintro i x B2 A acc H2 Nx hi s2 w ⟨rfl, rfl⟩ hl1 hl2 hN
    rw [List.getElem?_map] at hi
    cases e : zs[i]? with
    | none => rw [e] at hi; cases hi
    | some z =>
      rw [e] at hi
      cases hi
      have hB := s2 _ _ (lb.at_ z (List.mem_of_getElem? e))
      wtm_at "go"
      refine ⟨rfl, ?_⟩
      wtm_at "go"
      show Z.rLen K [V.ref z.1] _ _
      refine r_lenL (SqL.of (w.rd hB)) ?_
      refine r_acc w hl2 fun H4 w4 => ?_
      refine hN _ _ _ _ (same_refl _) w4 ⟨rfl, ?_⟩ (by simp at hl1 ⊢; omega)
      rw [List.take_add_one, List.getElem?_map, e]
      simp
  · rintro B2 A acc H2 s2 w ⟨rfl, rfl⟩ hl1
    wtm_at "go"
    rw [List.length_map, List.take_of_length_le (by rw [List.length_map]; omega)] at w
    refine r_sum (SqL.of (w.get (List.mem_cons_self ..))) ?_
    have h0 := w.out _ (List.mem_cons_self ..)
    exact k _ _ (same_trans s2 (same_new h0)) w.give

/-- a Leaves that is fit -/
theorem Lv.mk' {D : Ad} {B H : Hp} {L : List Cell} {a q : Addr} {zs : Zs} (b : LvB D B a q zs) (w : W B ((q, .lst (rfZ zs)) :: L) H) (i : LInv (lsZ zs)) : Lv D B H L a q zs := ⟨b, w, i.neD, i.hdUp, i.l8⟩

/-! leaves and the list of their keys -/
structure Kt (D : Ad) (B H : Hp) (L : List Cell) (a q : Addr) (zs : Zs) (ns : List Int) : Prop where
  b : LvB D B a q zs
  w : W B ((q, .lst (rfZ zs)) :: L) H
  i : LInv (lsZ zs)
  p : (lsZ zs).flatten.Perm ns
  le : ns.length ≤ 1000
theorem fl_ge : ∀ {ls : List (List Int)}, (∀ l ∈ ls, l ≠ []) → ls.length ≤ ls.flatten.length
  | [], _ => by simp
  | l :: r, h => by
    have h1 := List.length_pos_iff.mpr (h l (List.mem_cons_self ..))
    have h2 := fl_ge (ls := r) fun x hx => h x (List.mem_cons_of_mem _ hx)
    rw [List.flatten_cons, List.length_append, List.length_cons]
    omega
theorem up_eq {xs ys : List Int} (h : xs.Perm ys) (hx : xs.Pairwise (· ≤ ·)) (hy : ys.Pairwise (· ≤ ·)) : xs = ys := h.eq_of_pairwise (fun _ _ _ _ => Int.le_antisymm) hx hy
section
variable {D : Ad} {B B' H H' : Hp} {L L' : List Cell} {a q : Addr} {zs zs' : Zs} {ns : List Int} {n : Int}
theorem Kt.nd (h : Kt D B H L a q zs ns) : ns.Nodup := (h.p.nodup_iff).mp (h.i.srt.imp fun hx => by omega)
theorem Kt.few (h : Kt D B H L a q zs ns) : zs.length ≤ 1000 := by
  have h1 := fl_ge h.i.ne
  have h2 := h.p.length_eq
  have h3 := h.le
  rw [List.length_map] at h1
  omega
theorem Kt.mv (h : Kt D B H L a q zs ns) (s : Same B B') (w : W B' ((q, .lst (rfZ zs)) :: L') H') : Kt D B' H' L' a q zs ns := ⟨h.b.mono s, w, h.i, h.p, h.le⟩
theorem Kt.lv (h : Kt D B H L a q zs ns) : Lv D B H L a q zs := .mk' h.b h.w h.i
theorem Kt.has (h : Kt D B H L a q zs ns) : hsL (lsZ zs) n = decide (n ∈ ns) := by
  rw [hsL_eq h.i, decide_eq_decide]
  exact h.p.mem_iff
theorem Kt.add (h : Kt D B H L a q zs ns) (hn : n ∉ ns) (hl : ns.length < 1000) (b : LvB D B' a q zs') (w : W B' ((q, .lst (rfZ zs')) :: L') H') (r : AddR (lsZ zs) n (lsZ zs')) : Kt D B' H' L' a q zs' (ns ++ [n]) := by
  obtain ⟨h1, h2⟩ := add_law h.i (fun hm => hn (h.p.mem_iff.mp hm)) r
  exact ⟨b, w, h1, h2.trans ((h.p.cons n).trans (List.perm_append_singleton _ _).symm), by simp; omega⟩
theorem Kt.del (h : Kt D B H L a q zs ns) (hn : n ∈ ns) (b : LvB D B' a q zs') (w : W B' ((q, .lst (rfZ zs')) :: L') H') (r : lsZ zs' = dsL (lsZ zs) n) : Kt D B' H' L' a q zs' (ns.erase n) := by
  obtain ⟨h1, h2⟩ := dis_law h.i (h.p.mem_iff.mpr hn)
  refine ⟨b, w, by rw [r]; exact h1, ?_, by have := h.le; have := (List.erase_sublist (a := n) (l := ns)).length_le; omega⟩
  have e : ns.erase n = ns.filter fun m => !decide (m = n) := by
    rw [h.nd.erase_eq_filter]
    exact List.filter_congr fun m _ => by by_cases e : m = n <;> simp [e]
  rw [r, h2, e]
  exact h.p.filter _
theorem Kt.fl (h : Kt D B H L a q zs ns) (so : ns.Pairwise (· < ·)) : (lsZ zs).flatten = ns := up_eq h.p (h.i.srt.imp fun hx => by omega) (so.imp fun hx => by omega)
end

theorem giveZ {B H : Hp} {L : List Cell} {p : Addr} {ys : Zs} (w : W B ((p, .lst (rfZ ys)) :: (clZ ys ++ L)) H) : ∃ B', Same B B' ∧ B' p = some (.lst (rfZ ys)) ∧ (∀ z ∈ ys, B' z.1 = some (.lst (z.2.map V.int))) ∧ W B' L H := by
  obtain ⟨B', s, h, w'⟩ := W.giveAll (A := (p, .lst (rfZ ys)) :: clZ ys) w
  exact ⟨B', s, h _ (List.mem_cons_self ..), fun z hz => h (z.1, _) (List.mem_cons_of_mem _ (List.mem_map.mpr ⟨z, hz, rfl⟩)), w'⟩
theorem getZ {zs : Zs} {i : Nat} {x : V} (h : (rfZ zs)[i]? = some x) : ∃ z, x = .ref z.1 ∧ zs[i]? = some z ∧ z ∈ zs ∧ (lsZ zs)[i]? = some z.2 := by
  rw [List.getElem?_map] at h
  cases e : zs[i]? with
  | none => rw [e] at h; cases h
  | some z =>
    rw [e] at h
    cases h
    exact ⟨z, rfl, rfl, List.mem_of_getElem? e, by rw [List.getElem?_map, e]; rfl⟩
theorem take_at {α : Type} {xs : List α} {i : Nat} {x : α} (h : xs[i]? = some x) : xs.take (i + 1) = xs.take i ++ [x] := by
  rw [List.take_add_one, h]
  rfl
theorem sum_fl : ∀ ls : List (List Int), (ls.map fun l => (l.length : Int)).sum = (ls.flatten.length : Int)
  | [] => rfl
  | l :: r => by
    rw [List.map_cons, List.sum_cons, sum_fl r, List.flatten_cons, List.length_append]
    omega
section
variable {H : Hp} {a b : Addr} {Q : VK}
theorem dp_b3 {x y z : Bool} (h : SqL K H a [.bl x, .bl y, .bl z]) : Dp K H (.ref a) (.list [.bool x, .bool y, .bool z]) := .lst h (.cons (.bl _) (.cons (.bl _) (.cons (.bl _) .nil)))
theorem r_neB3 {x y z : Bool} (h1 : SqL K H a [.bl x, .bl y, .bl z]) (h2 : SqL K H b [.bl x, .bl y, .bl z]) (q : Q (.bl false) H) : rNeD K (.ref a) (.ref b) H Q :=
  r_neD (dp_b3 h1) (dp_b3 h2) (by cases x <;> cases y <;> cases z <;> decide) q
end
def sp__law_refused (K : PySem.W.Frag) (D : Ad) : Sp := Sp3 fun x y z H Q _ => ∃ (a q : Addr) (zs : Zs) (key : Int) (word : Str) (B : Hp) (L : List Cell), x = .ref a ∧ y = .str word ∧ z = .int key ∧ Lv D B H L a q zs ∧ ((word = "add" ∧ hsL (lsZ zs) key = true) ∨ (word = "discard" ∧ hsL (lsZ zs) key = false)) ∧
  ∀ B' H', Same B B' → Lv D B' H' L a q zs → Q (.bl true) H'
theorem ok__law_refused {D : Ad} (T : Txt K mg D) : FnOk P w K mg base (L2.CX P w) 4 D.a__law_refused D.d__law_refused ["_law_told", "_law_word", "_law_key"] (sp__law_refused K D) := by
  refine T.F__law_refused.okX sc__law_refused (fun vs H Q E h => sp3_len h) (fun cdv A outer s H vs Q E hr h => ⟨_, (pss_cons (ps_set (i := 3) sc__law_refused.nd rfl (Or.inl rfl) (pe_lst pa_nil))
    (pss_cons (ps_set (i := 4) sc__law_refused.nd rfl (Or.inl rfl) pe_non)
    (pss_cons (ps_tryAs (i := 5) rfl rfl sc__law_refused.nd rfl rfl ⟨rfl, by decide, .inl T.g_WalkError⟩ (takes_of rfl rfl rfl rfl) (fun WW pn xe tk po =>
        (pss_one (ps_if (pt_cmpR op_eq (pv 1) pe_str (nomark _))
          (pss_one (ps_expr (pe_methW (pv 0) T.cl_Leaves T.me_Leaves_add (ok_Leaves_add T) (hr.mono (by decide)) T.b_Leaves_add .nil (fun σ => passAt tk σ) (pa_cons (pv 2) pa_nil))))
          (pss_one (ps_expr (pe_methW (pv 0) T.cl_Leaves T.me_Leaves_discard (ok_Leaves_discard T) (hr.mono (by decide)) T.b_Leaves_discard .nil (fun σ => passAt tk σ) (pa_cons (pv 2) pa_nil)))))))
        (fun a oe cls d pn hz hf =>
        (pss_cons (ps_set (i := 3) sc__law_refused.nd rfl (Or.inl rfl) (pe_lst (pa_cons (pe_callB (call_isX hz hf) (by rfl) T.n_isinstance bt_isinstance (pa_cons (pv 5) (pa_cons (pe_glob (v := .ref D.c_Twice) rfl T.g_Twice rfl) pa_nil))) (pa_cons (pe_callB (call_isX hz hf) (by rfl) T.n_isinstance bt_isinstance (pa_cons (pv 5) (pa_cons (pe_glob (v := .ref D.c_NoKey) rfl T.g_NoKey rfl) pa_nil))) (pa_cons (pe_callB (call_isX hz hf) (by rfl) T.n_isinstance bt_isinstance (pa_cons (pv 5) (pa_cons (pe_bltn (v := .ty "ValueError") (by rfl) T.n_ValueError bt_ValueError rfl) pa_nil))) pa_nil)))))
        (pss_one (ps_set (i := 4) sc__law_refused.nd rfl (Or.inl rfl) (pe_xfA hz hf (pv 5)))))))
    (pss_cons (ps_if (pt_cmpR (op_neD hr.units) (pv 3) (pe_lst (pa_cons (pe_cmpR op_eq (pv 1) pe_str (nomark _)) (pa_cons (pe_cmpR op_ne (pv 1) pe_str (nomark _)) (pa_cons pe_bl pa_nil)))) (nomark _))
      (pss_one (ps_ret pe_bl))
      pss_nil)
    (pss_one (ps_ret (pe_and (pe_call (ok__law_whole T) (hr.mono (by decide)) rfl T.g__law_whole T.F__law_whole.kp T.b__law_whole .nil pX (pa_cons (pv 4) pa_nil)) (pe_one (pe_cmpR op_eq (pv 4) (pv 2) (nomark _)))))))))), ?_⟩)
  obtain ⟨x0, x1, x2, rfl, h⟩ := h
  rw [show L2.start n__law_refused [x0, x1, x2] = [some x0, some x1, some x2, none, none, none] from rfl]
  try dsimp only [cxOf]
  obtain ⟨a, q, zs, key, word, B, L, rfl, rfl, rfl, lv, hw, k⟩ := h
  wtm_at "go"
  refine d_lst lv.w (szl (by simp)) fun p1 B1 H1 hp1 s1 i1 w => ?_
  have lv : Lv D B1 H1 L a q zs := ⟨lv.b.mono s1, w, lv.ne, lv.up, lv.l8⟩
  obtain ⟨dx, ho⟩ := lv.b.obj
  wtm_at "go"
  rcases hw with ⟨rfl, hh⟩ | ⟨rfl, hh⟩
  · wtm_at "go"
    refine r_meth (lv.w.rd ho) rfl ?_
    wtm_at "go"
    refine ⟨_, _, rfl, a, q, zs, key, B1, L, rfl, rfl, lv, .inr ⟨hh, fun d B2 H2 s2 lv i2 => r_caught (T.xc_WalkError.exm T.sb_Twice_WalkError) fun ea hea => ?_⟩⟩
    have w := lv.w
    wtm_at "go"
    refine r_isXC T.xc_Twice T.xc_Twice T.sb_Twice_Twice (w.rd i2) ?_
    wtm_at "go"
    refine r_isXC T.xc_Twice T.xc_NoKey T.sb_Twice_NoKey (w.rd i2) ?_
    wtm_at "go"
    refine r_isXV T.xc_Twice T.sv_Twice (w.rd i2) ?_
    wtm_at "go"
    refine d_lst w (szl (by simp)) fun p3 B3 H3 hp3 s3 i3 w => ?_
    wtm_at "go"
    refine r_xf T.xc_Twice T.no_Twice_key (w.rd (s3 _ _ i2)) rfl ?_
    wtm_at "go"
    refine d_lst w (szl (by simp)) fun p4 B4 H4 hp4 s4 i4 w => ?_
    refine r_neB3 (SqL.of (w.rd (s4 _ _ i3))) (SqL.of (w.rd i4)) ?_
    wtm_at "go"
    show Q _ _
    rw [decide_eq_true rfl]
    exact k _ _ (same_trans s1 (same_trans s2 (same_trans s3 s4))) ⟨lv.b.mono (same_trans s3 s4), w, lv.ne, lv.up, lv.l8⟩
  · wtm_at "go"
    refine r_meth (lv.w.rd ho) rfl ?_
    wtm_at "go"
    refine ⟨_, _, rfl, a, q, zs, key, B1, L, rfl, rfl, lv, .inr ⟨hh, fun d B2 H2 s2 lv i2 => r_caught (T.xc_WalkError.exm T.sb_NoKey_WalkError) fun ea hea => ?_⟩⟩
    have w := lv.w
    wtm_at "go"
    refine r_isXC T.xc_NoKey T.xc_Twice T.sb_NoKey_Twice (w.rd i2) ?_
    wtm_at "go"
    refine r_isXC T.xc_NoKey T.xc_NoKey T.sb_NoKey_NoKey (w.rd i2) ?_
    wtm_at "go"
    refine r_isXV T.xc_NoKey T.sv_NoKey (w.rd i2) ?_
    wtm_at "go"
    refine d_lst w (szl (by simp)) fun p3 B3 H3 hp3 s3 i3 w => ?_
    wtm_at "go"
    refine r_xf T.xc_NoKey T.no_NoKey_key (w.rd (s3 _ _ i2)) rfl ?_
    wtm_at "go"
    refine d_lst w (szl (by simp)) fun p4 B4 H4 hp4 s4 i4 w => ?_
    refine r_neB3 (SqL.of (w.rd (s4 _ _ i3))) (SqL.of (w.rd i4)) ?_
    wtm_at "go"
    show Q _ _
    rw [decide_eq_true rfl]
    exact k _ _ (same_trans s1 (same_trans s2 (same_trans s3 s4))) ⟨lv.b.mono (same_trans s3 s4), w, lv.ne, lv.up, lv.l8⟩

theorem erase_nd : ∀ {ks : List Int} (_ : ks.Nodup) {j : Nat} (hj : j < ks.length), ks.eraseIdx j = ks.erase ks[j]
  | [], _, j, hj => absurd hj (by simp)
  | k :: r, _, 0, _ => by simp
  | k :: r, h, j + 1, hj => by
    obtain ⟨h1, h2⟩ := List.nodup_cons.mp h
    have hj2 : j < r.length := by simpa using hj
    have e : (k :: r)[j + 1] = r[j] := rfl
    have hne : ¬ k = r[j] := fun z => h1 (by rw [z]; exact List.getElem_mem hj2)
    rw [e, List.eraseIdx_cons_succ, erase_nd h2 hj2, List.erase_cons_tail (by simpa using hne)]
def sp__law_flat (K : PySem.W.Frag) (D : Ad) : Sp := Sp1 fun x H Q _ => ∃ (a q : Addr) (zs : Zs) (B : Hp) (L : List Cell), x = .ref a ∧ LvB D B a q zs ∧ W B ((q, .lst (rfZ zs)) :: L) H ∧ (lsZ zs).flatten.length ≤ 1000 ∧ (∀ l ∈ lsZ zs, l.length ≤ 8) ∧
  ∀ (p : Addr) (B' H' : Hp), Same B B' → B' p = some (.lst ((lsZ zs).flatten.map V.int)) → W B' ((q, .lst (rfZ zs)) :: L) H' → Q (.ref p) H'
theorem ok__law_flat {D : Ad} (T : Txt K mg D) : FnOk P w K mg base (L2.CX P w) 2 D.a__law_flat D.d__law_flat ["_law_told"] (sp__law_flat K D) := by
  refine T.F__law_flat.okX sc__law_flat (fun vs H Q E h => sp1_len h) (fun cdv A outer s H vs Q E hr h => ⟨_, (pss_cons (ps_set (i := 1) sc__law_flat.nd rfl (Or.inl rfl) (pe_meth0 (pv 0) T.cl_Leaves T.me_Leaves_all_of (ok_Leaves_all_of T) (hr.mono (by decide)) T.b_Leaves_all_of .nil pX))
    (pss_cons (ps_set (i := 2) sc__law_flat.nd rfl (Or.inl rfl) (pe_lst pa_nil))
    (pss_cons (ps_if (pt_not (pt_val (pe_callB call_isi (by rfl) T.n_isinstance bt_isinstance (pa_cons (pv 1) (pa_cons (pe_bltn (v := .ty "list") (by rfl) T.n_list bt_list rfl) pa_nil)))))
      (pss_one (ps_ret pe_non))
      pss_nil)
    (pss_cons (ps_for (passes_of rfl) rfl (pi_list (pv 1)) (pg_name (i := 3) sc__law_flat.nd rfl (Or.inl rfl))
      (pss_cons (ps_if (pt_not (pt_val (pe_callB call_isi (by rfl) T.n_isinstance bt_isinstance (pa_cons (pv 3) (pa_cons (pe_bltn (v := .ty "list") (by rfl) T.n_list bt_list rfl) pa_nil)))))
        (pss_one (ps_ret pe_non))
        pss_nil)
      (pss_one (ps_set (i := 2) sc__law_flat.nd rfl (Or.inl rfl) (pe_op op_cat (pv 2) (pv 3))))))
    (pss_one (ps_ret (pv 2))))))), ?_⟩)
  obtain ⟨x0, rfl, h⟩ := h
  rw [show L2.start n__law_flat [x0] = [some x0, none, none, none] from rfl]
  try dsimp only [cxOf]
  obtain ⟨a, q, zs, B, L, rfl, lb, w, hfl, l8, k⟩ := h
  obtain ⟨dx, ho⟩ := lb.obj
  wtm_at "go"
  refine r_meth (w.rd ho) rfl ?_
  wtm_at "go"
  refine ⟨_, rfl, a, q, zs, B, _, rfl, lb, w, fun p B1 H1 ys s1 ey w => ?_⟩
  obtain ⟨B2, s2, ip, iz, w⟩ := giveZ w
  wtm_at "go"
  refine d_lst w (szl (by simp)) fun f0 B3 H3 hf0 s3 i3 w => ?_
  wtm_at "go"
  have ip := s3 _ _ ip
  refine r_isi (.base (.lst (w.rd ip))) kb_list_list ?_
  wtm_at "go"
  refine r_il (SqL.of (w.rd ip)) ?_
  refine FOR.list (K := K) (xs := rfZ ys) (fun i σ H' => ∃ (f : Addr) (v3 : Option V) (B' : Hp), σ = [some (.ref a), some (.ref p), some (.ref f), v3] ∧ Same B3 B' ∧ B' f = some (.lst (((lsZ ys).take i).flatten.map V.int)) ∧
    W B' ((q, .lst (rfZ zs)) :: L) H') ⟨f0, none, B3, rfl, same_refl _, i3, w⟩ (fun i σ H' _ ⟨_, _, _, _, s, _, w⟩ => SqL.of (w.rd (s _ _ ip))) ?_ ?_
  · rintro i x σ H' hi ⟨f, v3, B4, rfl, s4, i4, w⟩
    obtain ⟨z, rfl, hz, hzm, hl⟩ := getZ hi
    have h1 := congrArg List.length (congrArg List.flatten (List.take_append_drop i (lsZ ys)))
    rw [List.flatten_append, List.length_append, ey] at h1
    have h2 := l8 _ (ey ▸ List.mem_of_getElem? hl)
    have iz := s4 _ _ (s3 _ _ (iz z hzm))
    rw [ey] at i4
    wtm_at "go"
    refine r_isi (.base (.lst (w.rd iz))) kb_list_list ?_
    wtm_at "go"
    refine d_cat w (w.rd i4) (w.rd iz) (szl (by simp only [List.length_map]; omega)) fun f2 B5 H5 hf2 s5 i5 w => ?_
    wtm_at "go"
    refine ⟨f2, _, B5, rfl, same_trans s4 s5, ?_, w⟩
    rw [i5, take_at hl, List.flatten_append, List.map_append, List.flatten_cons, List.flatten_nil, List.append_nil, ey]
  · rintro σ H' ⟨f, v3, B4, rfl, s4, i4, w⟩
    have el : (rfZ ys).length = (lsZ ys).length := by rw [List.length_map, List.length_map]
    rw [el, List.take_length, ey] at i4
    wtm_at "go"
    exact k f B4 _ (same_trans s1 (same_trans s2 (same_trans s3 s4))) i4 w

def sp__law_right (K : PySem.W.Frag) (D : Ad) : Sp := Sp3 fun x y z H Q _ => ∃ (a q kp : Addr) (zs : Zs) (ks : List Int) (n : Int) (B : Hp) (L : List Cell), x = .ref a ∧ y = .ref kp ∧ z = .int n ∧ Kt D B H ((kp, .lst (ks.map V.int)) :: L) a q zs ks ∧
  ∀ (B' H' : Hp), Same B B' → Kt D B' H' ((kp, .lst (ks.map V.int)) :: L) a q zs ks → Q (.bl true) H'
theorem ok__law_right {D : Ad} (T : Txt K mg D) : FnOk P w K mg base (L2.CX P w) 5 D.a__law_right D.d__law_right ["_law_told", "_law_kept", "_law_key"] (sp__law_right K D) := by
  refine T.F__law_right.okX sc__law_right (fun vs H Q E h => sp3_len h) (fun cdv A outer s H vs Q E hr h => ⟨_, (pss_cons (ps_if (PW.pt (pw_or (pt_not (pt_val (pe_call (ok__law_whole T) (hr.mono (by decide)) rfl T.g__law_whole T.F__law_whole.kp T.b__law_whole .nil pX (pa_cons (pe_meth0 (pv 0) T.cl_Leaves T.me_Leaves_many (ok_Leaves_many T) (hr.mono (by decide)) T.b_Leaves_many .nil pX) pa_nil)))) (pw_or (pt_cmpR op_ne (pe_meth0 (pv 0) T.cl_Leaves T.me_Leaves_many (ok_Leaves_many T) (hr.mono (by decide)) T.b_Leaves_many .nil pX) (pe_callB call_lenZ (by rfl) T.n_len bt_len (pa_cons (pv 1) pa_nil)) (nomark _)) (pw_or1 (pt_cmpR (op_neD hr.units) (pe_call (ok__law_flat T) (hr.mono (by decide)) rfl T.g__law_flat T.F__law_flat.kp T.b__law_flat .nil pX (pa_cons (pv 0) pa_nil)) (pe_callB cr_sortedI (by rfl) T.n_sorted bt_sorted (pa_cons (pv 1) pa_nil)) (nomark _))))))
      (pss_one (ps_ret pe_bl))
      pss_nil)
    (pss_cons (ps_for (passes_of rfl) rfl (pi_list (pe_lst (pa_cons (pv 2) (pa_cons (pe_op op_add (pv 2) pe_int) (pa_cons (pe_callB (call_max2 rfl) (by rfl) T.n_max bt_max (pa_cons pe_int (pa_cons (pe_op op_sub (pv 2) pe_int) pa_nil))) pa_nil))))) (pg_name (i := 3) sc__law_right.nd rfl (Or.inl rfl))
      (pss_cons (ps_set (i := 4) sc__law_right.nd rfl (Or.inl rfl) (pe_meth (pv 0) T.cl_Leaves T.me_Leaves_has (ok_Leaves_has T) (hr.mono (by decide)) T.b_Leaves_has .nil pX (pa_cons (pv 3) pa_nil)))
      (pss_cons (ps_if (PW.pt (pw_or (pt_not (pt_val (pe_callB call_isi (by rfl) T.n_isinstance bt_isinstance (pa_cons (pv 4) (pa_cons (pe_bltn (v := .ty "bool") (by rfl) T.n_bool bt_bool rfl) pa_nil))))) (pw_or1 (pt_cmpR op_ne (pv 4) (pe_cmpR op_in_seq (pv 3) (pv 1) (by rfl)) (nomark _)))))
        (pss_one (ps_ret pe_bl))
        pss_nil)
      (pss_one (ps_if (PW.pt (pw_or (PW.pt (pw_and (pt_val (pv 4)) (pw_and1 (pt_not (pt_val (pe_call (ok__law_refused T) (hr.mono (by decide)) rfl T.g__law_refused T.F__law_refused.kp T.b__law_refused .nil pX (pa_cons (pv 0) (pa_cons pe_str (pa_cons (pv 3) pa_nil))))))))) (pw_or1 (PW.pt (pw_and (pt_not (pt_val (pv 4))) (pw_and1 (pt_not (pt_val (pe_call (ok__law_refused T) (hr.mono (by decide)) rfl T.g__law_refused T.F__law_refused.kp T.b__law_refused .nil pX (pa_cons (pv 0) (pa_cons pe_str (pa_cons (pv 3) pa_nil))))))))))))
        (pss_one (ps_ret pe_bl))
        pss_nil)))))
    (pss_one (ps_ret (pe_cmpR op_eq (pe_meth0 (pv 0) T.cl_Leaves T.me_Leaves_many (ok_Leaves_many T) (hr.mono (by decide)) T.b_Leaves_many .nil pX) (pe_callB call_lenZ (by rfl) T.n_len bt_len (pa_cons (pv 1) pa_nil)) (nomark _)))))), ?_⟩)
  obtain ⟨x0, x1, x2, rfl, h⟩ := h
  rw [show L2.start n__law_right [x0, x1, x2] = [some x0, some x1, some x2, none, none] from rfl]
  try dsimp only [cxOf]
  obtain ⟨a, q, kp, zs, ks, n, B, L, rfl, rfl, rfl, st, k⟩ := h
  obtain ⟨dx, ho⟩ := st.b.obj
  have hfl : (lsZ zs).flatten.length ≤ 1000 := by rw [st.p.length_eq]; exact st.le
  have esum : ((lsZ zs).map fun l => (l.length : Int)).sum = (ks.length : Int) := by rw [sum_fl, st.p.length_eq]
  have hkp : ∀ {B H}, Kt D B H ((kp, .lst (ks.map V.int)) :: L) a q zs ks → H kp = some (.lst (ks.map V.int)) := fun st => st.w.get (List.mem_cons_of_mem _ (List.mem_cons_self ..))
  wtm_at "go"
  refine r_meth (st.w.rd ho) rfl ?_
  wtm_at "go"
  refine ⟨_, rfl, a, q, zs, B, _, rfl, st.b, st.w, fun B1 H1 s1 w => ?_⟩
  have st := st.mv s1 w
  have ho := s1 _ _ ho
  wtm_at "go"
  refine r_meth (st.w.rd ho) rfl ?_
  wtm_at "go"
  refine ⟨_, rfl, a, q, zs, B1, _, rfl, st.b, st.w, fun B2 H2 s2 w => ?_⟩
  have st := st.mv s2 w
  have ho := s2 _ _ ho
  rw [esum]
  wtm_at "go"
  refine r_lenL (SqL.of (hkp st)) ?_
  rw [List.length_map]
  wtm_at "go"
  refine ⟨_, rfl, a, q, zs, B2, _, rfl, st.b, st.w, hfl, st.i.l8, fun p B3 H3 s3 i3 w => ?_⟩
  have st := st.mv s3 w
  have ho := s3 _ _ ho
  wtm_at "go"
  refine r_sortI w (SqL.of (hkp st)) fun p4 B4 H4 ms pm so s4 i4 w => ?_
  have em : (lsZ zs).flatten = ms := up_eq (st.p.trans pm.symm) (st.i.srt.imp fun hx => by omega) so
  rw [em] at i3
  refine r_neLI (SqL.of (w.rd (s4 _ _ i3))) (SqL.of (w.rd i4)) ?_
  rw [decide_eq_true rfl]
  have st := st.mv s4 w
  have ho := s4 _ _ ho
  wtm_at "go"
  refine ⟨_, _, rfl, ?_⟩
  wtm_at "go"
  generalize (if n - 1 > 0 then n - 1 else 0) = n1
  refine d_lst w (szl (by simp)) fun p5 B5 H5 hp5 s5 i5 w => ?_
  have i5 : B5 p5 = some (.lst ([n, n + 1, n1].map V.int)) := i5
  have st := st.mv s5 w
  have ho := s5 _ _ ho
  have s15 := same_trans s1 (same_trans s2 (same_trans s3 (same_trans s4 s5)))
  refine r_il (SqL.of (w.rd i5)) ?_
  refine FOR.list (K := K) (xs := [n, n + 1, n1].map V.int) (fun i σ H' => ∃ (v3 v4 : Option V) (B' : Hp), σ = [some (.ref a), some (.ref kp), some (.int n), v3, v4] ∧ Same B5 B' ∧ Kt D B' H' ((kp, .lst (ks.map V.int)) :: L) a q zs ks) ⟨none, none, B5, rfl, same_refl _, st⟩
    (fun i σ H' _ ⟨_, _, _, _, s, st⟩ => SqL.of (st.w.rd (s _ _ i5))) ?_ ?_
  · rintro i x σ H' hi ⟨v3, v4, B6, rfl, s6, st⟩
    obtain ⟨m, rfl, _, _⟩ := getV hi
    wtm_at "go"
    refine r_meth (st.w.rd (s6 _ _ ho)) rfl ?_
    wtm_at "go"
    refine ⟨_, _, rfl, a, q, zs, m, B6, _, rfl, rfl, st.lv, fun B7 H7 s7 lv => ?_⟩
    have st := st.mv s7 lv.w
    have hhas := st.has (n := m)
    generalize hb : hsL (lsZ zs) m = b at hhas ⊢
    wtm_at "go"
    refine r_inL (SqL.of (hkp st)) ?_
    rw [← hhas]
    wtm_at "go"
    cases b with
    | true =>
      wtm_at "go"
      refine ⟨_, _, _, rfl, a, q, zs, m, "add", B7, _, rfl, rfl, rfl, st.lv, .inl ⟨rfl, hb⟩, fun B8 H8 s8 lv => ?_⟩
      wtm_at "go"
      exact ⟨_, _, B8, rfl, same_trans s6 (same_trans s7 s8), st.mv s8 lv.w⟩
    | false =>
      wtm_at "go"
      refine ⟨_, _, _, rfl, a, q, zs, m, "discard", B7, _, rfl, rfl, rfl, st.lv, .inr ⟨rfl, hb⟩, fun B8 H8 s8 lv => ?_⟩
      wtm_at "go"
      exact ⟨_, _, B8, rfl, same_trans s6 (same_trans s7 s8), st.mv s8 lv.w⟩
  · rintro σ H' ⟨v3, v4, B6, rfl, s6, st⟩
    wtm_at "go"
    refine r_meth (st.w.rd (s6 _ _ ho)) rfl ?_
    wtm_at "go"
    refine ⟨_, rfl, a, q, zs, B6, _, rfl, st.b, st.w, fun B7 H7 s7 w => ?_⟩
    have st := st.mv s7 w
    rw [esum]
    wtm_at "go"
    refine r_lenL (SqL.of (hkp st)) ?_
    rw [List.length_map]
    wtm_at "go"
    show Q _ _
    rw [decide_eq_true rfl]
    exact k _ _ (same_trans s15 (same_trans s6 s7)) st

theorem ok_law {D : Ad} (T : Txt K mg D) : FnOk P w K mg base (L2.CX P w) 6 D.a_law D.d_law ["_law_script"] (sp_law K D) := by
  refine T.F_law.okX sc_law (fun vs H Q E h => sp1_len h) (fun cdv A outer s H vs Q E hr h => ⟨_, (pss_cons (ps_set (i := 1) sc_law.nd rfl (Or.inl rfl) (pe_make0 T.mk_Leaves (ok_Leaves_init T) (hr.mono (by decide)) rfl T.g_Leaves T.b_Leaves_init .nil pX))
    (pss_cons (ps_set (i := 2) sc_law.nd rfl (Or.inl rfl) (pe_lst pa_nil))
    (pss_cons (ps_if (PW.pt (pw_or (pt_cmpR (op_neD hr.units) (pe_meth0 (pv 1) T.cl_Leaves T.me_Leaves_all_of (ok_Leaves_all_of T) (hr.mono (by decide)) T.b_Leaves_all_of .nil pX) (pe_lst pa_nil) (nomark _)) (pw_or1 (pt_not (pt_val (pe_call (ok__law_right T) (hr.mono (by decide)) rfl T.g__law_right T.F__law_right.kp T.b__law_right .nil pX (pa_cons (pv 1) (pa_cons (pv 2) (pa_cons (pe_op op_mod (pe_call (ok__law_cell_at T) (hr.mono (by decide)) rfl T.g__law_cell_at T.F__law_cell_at.kp T.b__law_cell_at .nil pX (pa_cons (pv 0) (pa_cons pe_int pa_nil))) (pe_op op_pow pe_int pe_int)) pa_nil)))))))))
      (pss_one (ps_ret pe_bl))
      pss_nil)
    (pss_cons (ps_for (passes_of rfl) rfl (pi_list (pe_slice sl_list (pv 0) (po_some pe_int) (po_some pe_int))) (pg_name (i := 3) sc_law.nd rfl (Or.inl rfl))
      (pss_cons (ps_set (i := 4) sc_law.nd rfl (Or.inl rfl) (pe_op op_mod (pe_op op_fdiv (pv 3) pe_int) (pe_ix ix_list (pe_lst (pa_cons pe_int (pa_cons (pe_op op_pow pe_int pe_int) pa_nil))) (pe_op op_mod (pv 3) pe_int) (fun _ _ => rfl))))
      (pss_cons (ps_if (pt_cmpR op_notIn_seq (pv 4) (pv 2) (by rfl))
        (pss_cons (ps_if (pt_cmpR op_notNo (pe_meth (pv 1) T.cl_Leaves T.me_Leaves_add (ok_Leaves_add T) (hr.mono (by decide)) T.b_Leaves_add .nil pX (pa_cons (pv 4) pa_nil)) pe_non (nomark _))
          (pss_one (ps_ret pe_bl))
          pss_nil)
        (pss_one (ps_expr (pe_bm PySem.F.plainAttrs_list PySem.F.slot_list_append PySem.F.type_list_append mt_append (pv 2) (pa_cons (pv 4) pa_nil)))))
        pss_nil)
      (pss_one (ps_if (pt_not (pt_val (pe_call (ok__law_right T) (hr.mono (by decide)) rfl T.g__law_right T.F__law_right.kp T.b__law_right .nil pX (pa_cons (pv 1) (pa_cons (pv 2) (pa_cons (pv 4) pa_nil))))))
        (pss_one (ps_ret pe_bl))
        pss_nil)))))
    (pss_cons (ps_for (passes_of rfl) rfl (pi_range1 (by rfl) T.n_range (pa_cons (pe_op op_add pe_int (pe_op op_mod (pe_call (ok__law_cell_at T) (hr.mono (by decide)) rfl T.g__law_cell_at T.F__law_cell_at.kp T.b__law_cell_at .nil pX (pa_cons (pv 0) (pa_cons pe_int pa_nil))) pe_int)) pa_nil)) (pg_name (i := 5) sc_law.nd rfl (Or.inl rfl))
      (pss_one (ps_if (pt_cmpR (op_neD hr.units) (pv 2) (pe_lst pa_nil) (nomark _))
        (pss_cons (ps_set (i := 4) sc_law.nd rfl (Or.inl rfl) (pe_bm PySem.F.plainAttrs_list PySem.F.slot_list_pop PySem.F.type_list_pop mt_popAt (pv 2) (pa_cons (pe_op op_mod (pe_call (ok__law_cell_at T) (hr.mono (by decide)) rfl T.g__law_cell_at T.F__law_cell_at.kp T.b__law_cell_at .nil pX (pa_cons (pv 0) (pa_cons pe_int pa_nil))) (pe_callB call_lenZ (by rfl) T.n_len bt_len (pa_cons (pv 2) pa_nil))) pa_nil)))
        (pss_one (ps_if (PW.pt (pw_or (pt_cmpR op_notNo (pe_meth (pv 1) T.cl_Leaves T.me_Leaves_discard (ok_Leaves_discard T) (hr.mono (by decide)) T.b_Leaves_discard .nil pX (pa_cons (pv 4) pa_nil)) pe_non (nomark _)) (pw_or1 (pt_not (pt_val (pe_call (ok__law_right T) (hr.mono (by decide)) rfl T.g__law_right T.F__law_right.kp T.b__law_right .nil pX (pa_cons (pv 1) (pa_cons (pv 2) (pa_cons (pv 4) pa_nil)))))))))
          (pss_one (ps_ret pe_bl))
          pss_nil)))
        pss_nil)))
    (pss_one (ps_ret pe_bl))))))), ?_⟩)
  obtain ⟨x0, rfl, h⟩ := h
  rw [show L2.start n_law [x0] = [some x0, none, none, none, none, none] from rfl]
  try dsimp only [cxOf]
  obtain ⟨a, ns, rfl, hS, hlen, k⟩ := h
  obtain ⟨B0, hS, w⟩ := W.law hS
  generalize hc0 : ns.getD 0 0 = c0
  generalize hc1 : ns.getD 1 0 = c1
  wtm_at "go"
  intro al dx hal hdx hne
  have s0 := same_new (B := B0) (o := .own al) (w.freeB hdx)
  have w := w.newB hdx (.own al)
  have w := w.newL (p := al) (by rw [upd_ne (Ne.symm hne)]; exact hal) (.ins D.c_Leaves dx [])
  refine ⟨_, rfl, al, dx, _, [], rfl, w, fun q B1 H1 s1 lb w => ⟨rfl, ?_⟩⟩
  have hS := Z.Same.sq (same_trans s0 s1) hS
  obtain ⟨dx1, ho⟩ := lb.obj
  wtm_at "go"
  refine o_lst w (szl (by simp)) fun kp H2 hkp w => ?_
  have w := w.perm (List.Perm.swap _ _ _)
  have st : Kt D B1 H2 [(kp, .lst (([] : List Int).map V.int))] al q [] [] := ⟨lb, w, LInv.nil, List.Perm.refl _, by simp⟩
  wtm_at "go"
  refine r_meth (st.w.rd ho) rfl ?_
  wtm_at "go"
  refine ⟨_, rfl, al, q, [], B1, _, rfl, st.b, st.w, fun p3 B3 H3 ys s3 ey w => ?_⟩
  have eys : ys = [] := by simpa using ey
  subst eys
  obtain ⟨B4, s4, i4, _, w⟩ := giveZ w
  wtm_at "go"
  refine d_lst w (szl (by simp)) fun p5 B5 H5 hp5 s5 i5 w => ?_
  refine r_neLI (ns := []) (ms := []) (SqL.of (w.rd (s5 _ _ i4))) (SqL.of (w.rd i5)) ?_
  rw [decide_eq_true rfl]
  have s15 := same_trans s3 (same_trans s4 s5)
  have st := st.mv s15 w
  have hS := Z.Same.sq s15 hS
  wtm_at "go"
  rw [hc0]
  wtm_at "go"
  refine ⟨_, _, _, rfl, al, q, kp, [], [], _, B5, [], rfl, rfl, rfl, st, fun B6 H6 s6 st => ?_⟩
  have hS := Z.Same.sq s6 hS
  wtm_at "go"
  refine d_slL st.w (st.w.sq hS) fun p7 B7 H7 hp7 s7 i7 w => ?_
  rw [cutV_int] at i7
  have hcl : (cutI ns (some 2) (some 10)).length ≤ 63 := Nat.le_trans (cutI_len ..) hlen
  generalize cutI ns (some 2) (some 10) = cs at i7 hcl
  have st := st.mv s7 w
  have hS := Z.Same.sq s7 hS
  refine r_il (SqL.of (w.rd i7)) ?_
  refine FOR.list (K := K) (xs := cs.map V.int) (fun i σ H' => ∃ (v3 v4 : Option V) (B' : Hp) (zs : Zs) (ks : List Int), σ = [some (.ref a), some (.ref al), some (.ref kp), v3, v4, none] ∧ Same B7 B' ∧ ks.length ≤ i ∧ Kt D B' H' [(kp, .lst (ks.map V.int))] al q zs ks) ⟨none, none, B7, [], [], rfl, same_refl _, by simp, st⟩
    (fun i σ H' _ ⟨_, _, _, _, _, _, s, _, st⟩ => SqL.of (st.w.rd (s _ _ i7))) ?_ ?_
  · rintro i x σ H' hi ⟨v3, v4, B8, zs, ks, rfl, s8, hkl, st⟩
    obtain ⟨c, rfl, _, hi2⟩ := getV hi
    wtm_at "go"
    refine d_lst st.w (szl (by simp)) fun p9 B9 H9 hp9 s9 i9 w => ?_
    have st := st.mv s9 w
    wtm_at "go"
    obtain ⟨md, hmd, e⟩ := atI_ex (ns := [21, 10 ^ (39 : Int).toNat]) (i := c % 2) (by omega) (by simp only [List.length_cons, List.length_nil]; omega)
    have hmd : 0 < md := by
      simp only [List.mem_cons, List.not_mem_nil, or_false] at hmd
      rcases hmd with rfl | rfl <;> decide
    refine r_ixL (SqL.of (w.rd i9)) e ?_
    wtm_at "g0"
    generalize c / 2 % md = key
    have hkp := st.w.get (List.mem_cons_of_mem _ (List.mem_cons_self ..))
    refine g_ifJ (fun σ H' => ∃ (B' : Hp) (zs : Zs) (ks : List Int), σ = [some (.ref a), some (.ref al), some (.ref kp), some (.int c), some (.int key), none] ∧ Same B9 B' ∧ ks.length ≤ i + 1 ∧ Kt D B' H' [(kp, .lst (ks.map V.int))] al q zs ks) ?_ ?_
    · rintro σ H10 ⟨B10, zs, ks, rfl, s10, hkl, st⟩
      wtm_at "go"
      refine ⟨_, _, _, rfl, al, q, kp, zs, ks, key, B10, [], rfl, rfl, rfl, st, fun B11 H11 s11 st => ?_⟩
      wtm_at "go"
      exact ⟨_, _, B11, zs, ks, rfl, same_trans s8 (same_trans s9 (same_trans s10 s11)), hkl, st⟩
    · intro N hN
      wtm_at "go"
      refine r_ninL (SqL.of hkp) ?_
      wtm_at "go"
      wtm_at "br"
      · intro c1
        wtm_at "go"
        obtain ⟨dx2, ho⟩ := st.b.obj
        refine r_meth (st.w.rd ho) rfl ?_
        wtm_at "go"
        refine ⟨_, _, rfl, al, q, zs, key, B9, _, rfl, rfl, st.lv, .inl ⟨by rw [st.has]; exact decide_eq_false c1, by have := st.few; omega, fun B10 H10 zs10 s10 b10 w r => ?_⟩⟩
        wtm_at "go"
        have hkp := w.get (List.mem_cons_of_mem _ (List.mem_cons_self ..))
        refine r_bmL (SqL.of hkp) ?_
        wtm_at "go"
        refine r_append hkp (szlt (by rw [List.length_map]; omega)) ?_
        have w := w.put1 (.lst (ks.map V.int ++ [.int key]))
        have e1 : ks.map V.int ++ [V.int key] = (ks ++ [key]).map V.int := by simp
        rw [e1] at w ⊢
        have st := st.add c1 (by omega) b10 w r
        wtm_at "go"
        exact hN _ _ ⟨B10, zs10, _, rfl, s10, by simp; omega, st⟩
      · intro c1
        wtm_at "go"
        exact hN _ _ ⟨B9, zs, ks, rfl, same_refl _, by omega, st⟩
  rintro σ H8 ⟨v3, v4, B8, zs, ks, rfl, s8, hkl, st⟩
  have hS := Z.Same.sq s8 hS
  rw [List.length_map] at hkl
  have w := st.w
  wtm_at "go"
  rw [hc0]
  wtm_at "go"
  refine FOR.range (fun i σ H' => ∃ (v4 v5 : Option V) (B' : Hp) (zs : Zs) (ks : List Int), σ = [some (.ref a), some (.ref al), some (.ref kp), v3, v4, v5] ∧ Same B8 B' ∧ Kt D B' H' [(kp, .lst (ks.map V.int))] al q zs ks) ⟨v4, none, B8, zs, ks, rfl, same_refl _, st⟩ ?_ ?_
  · rintro i σ H' hi ⟨v4, v5, B9, zs, ks, rfl, s9, st⟩
    have hS := Z.Same.sq s9 hS
    wtm_at "go"
    refine d_lst st.w (szl (by simp)) fun p10 B10 H10 hp10 s10 i10 w => ?_
    have st := st.mv s10 w
    have hS := Z.Same.sq s10 hS
    have hkp := st.w.get (List.mem_cons_of_mem _ (List.mem_cons_self ..))
    refine r_neLI (ns := ks) (ms := []) (SqL.of hkp) (SqL.of (w.rd i10)) ?_
    wtm_at "go"
    wtm_at "br"
    · intro c2
      have c2 : ks ≠ [] := by simpa using c2
      have hkl := List.length_pos_iff.mpr c2
      wtm_at "go"
      refine r_bmL (SqL.of hkp) ?_
      wtm_at "go"
      rw [hc1]
      refine r_lenL (SqL.of hkp) ?_
      rw [List.length_map]
      wtm_at "go"
      have g0 := Int.emod_nonneg c1 (b := (ks.length : Int)) (by omega)
      have g1 := Int.emod_lt_of_pos c1 (b := (ks.length : Int)) (by omega)
      obtain ⟨j, hj⟩ : ∃ j : Nat, c1 % (ks.length : Int) = j := ⟨_, (Int.toNat_of_nonneg g0).symm⟩
      rw [hj]
      have hjl : j < ks.length := by omega
      refine r_popAt hkp (k := j) (y := .int ks[j]) (by rw [List.length_map]; have := st.le; omega) (by rw [List.getElem?_map, List.getElem?_eq_getElem hjl]; rfl) ?_
      have hm : ks[j] ∈ ks := List.getElem_mem hjl
      have w := st.w.put1 (.lst ((ks.map V.int).eraseIdx j))
      have e1 : (ks.map V.int).eraseIdx j = (ks.eraseIdx j).map V.int := (map_erase _ _ _).symm
      rw [e1] at w ⊢
      have e2 : ks.eraseIdx j = ks.erase ks[j] := by
        exact erase_nd st.nd hjl
      rw [e2] at w ⊢
      generalize hky : ks[j] = key at hm w ⊢
      wtm_at "go"
      obtain ⟨dx2, ho⟩ := st.b.obj
      refine r_meth (w.rd ho) rfl ?_
      wtm_at "go"
      refine ⟨_, _, rfl, al, q, zs, key, B10, _, rfl, rfl, Lv.mk' st.b w st.i, .inl ⟨by rw [st.has]; exact decide_eq_true hm, fun B11 H11 zs11 s11 b11 w r => ?_⟩⟩
      wtm_at "go"
      have st2 := st.del hm b11 w r
      refine ⟨_, _, _, rfl, al, q, kp, zs11, ks.erase key, key, B11, [], rfl, rfl, rfl, st2, fun B12 H12 s12 st => ?_⟩
      wtm_at "go"
      exact ⟨_, _, B12, zs11, _, rfl, same_trans s9 (same_trans s10 (same_trans s11 s12)), st⟩
    · intro c2
      wtm_at "go"
      exact ⟨_, _, B10, zs, ks, rfl, same_trans s9 s10, st⟩
  · rintro σ H' ⟨v4, v5, B9, zs, ks, rfl, s9, st⟩
    wtm_at "go"
    exact k _


end
theorem all_mk {l : PySem.W.OpenLaw} {w : World} {K : PySem.W.Frag} {h : Heap} {mg : Str → Option Value} {fa f1 f2 f3 f4 f5 f6 f7 f8 f9 f10 f11 f12 f13 f14 f15 f16 C_WalkError C_NoKey C_Twice C_Leaves : Addr} (X : K.In h) (G : h.Ns mainGlobals mg) (hfa : mg "law" = some (.ref fa))
    {nm_WalkError q_WalkError : Str} {N_WalkError : Addr} {bs_WalkError : List Value} {sn_WalkError : List Str} {su_WalkError : List Value} {ab_WalkError : Bool} {co_WalkError : Option Bool} {dd_WalkError : Option Addr} {m0_WalkError m1_WalkError m2_WalkError m3_WalkError m5_WalkError : Option Value}
    {nm_NoKey q_NoKey : Str} {N_NoKey : Addr} {bs_NoKey : List Value} {sn_NoKey : List Str} {su_NoKey : List Value} {ab_NoKey : Bool} {co_NoKey : Option Bool} {dd_NoKey : Option Addr} {m0_NoKey m1_NoKey m2_NoKey m3_NoKey m5_NoKey : Option Value}
    {nm_Twice q_Twice : Str} {N_Twice : Addr} {bs_Twice : List Value} {sn_Twice : List Str} {su_Twice : List Value} {ab_Twice : Bool} {co_Twice : Option Bool} {dd_Twice : Option Addr} {m0_Twice m1_Twice m2_Twice m3_Twice m5_Twice : Option Value}
    {od1 an1 od2 an2 od3 an3 od4 an4 od5 an5 od6 an6 od7 an7 od8 an8 od9 an9 od10 an10 od11 an11 od12 an12 od13 an13 od14 an14 od15 an15 od16 an16 : Option Addr} {sl1 sl2 sl3 sl4 sl5 sl6 sl7 sl8 sl9 sl10 sl11 sl12 sl13 sl14 sl15 sl16 : Array (Option Value)} {oc1 kV1 dc1 pm1 cd1 ct1 oc2 kV2 dc2 pm2 cd2 ct2 oc3 kV3 dc3 pm3 cd3 ct3 oc4 kV4 dc4 pm4 cd4 ct4 oc5 kV5 dc5 pm5 cd5 ct5 oc6 kV6 dc6 pm6 cd6 ct6 oc7 kV7 dc7 pm7 cd7 ct7 oc8 kV8 dc8 pm8 cd8 ct8 oc9 kV9 dc9 pm9 cd9 ct9 oc10 kV10 dc10 pm10 cd10 ct10 oc11 kV11 dc11 pm11 cd11 ct11 oc12 kV12 dc12 pm12 cd12 ct12 oc13 kV13 dc13 pm13 cd13 ct13 oc14 kV14 dc14 pm14 cd14 ct14 oc15 kV15 dc15 pm15 cd15 ct15 oc16 kV16 dc16 pm16 cd16 ct16 : Value} {tk_MOST_KEYS tk_LEAST_OF_TWO : Tok}
    (a1 : PySem.W.findIn K (.ref C_Leaves) "__init__" = some (some (.ref f1)))
    (i1 : PySem.W.isFn K (.ref f1) = true)
    (l1 : K.lookup f1 = some ⟨oc1, od1, .func (PySem.W.fnOf "__init__" "Leaves.__init__" (defArgs s_Leaves_init) (defBody s_Leaves_init) (defScope s_Leaves_init) .none kV1 dc1 pm1 an1 cd1 ct1), sl1⟩)
    (c1 : PySem.W.codeIn K cd1 "Leaves.__init__" = true)
    (k1 : PySem.W.keepIn K (.ref f1) = true)
    (a2 : PySem.W.findIn K (.ref C_Leaves) "leaf_at" = some (some (.ref f2)))
    (i2 : PySem.W.isFn K (.ref f2) = true)
    (l2 : K.lookup f2 = some ⟨oc2, od2, .func (PySem.W.fnOf "leaf_at" "Leaves.leaf_at" (defArgs s_Leaves_leaf_at) (defBody s_Leaves_leaf_at) (defScope s_Leaves_leaf_at) .none kV2 dc2 pm2 an2 cd2 ct2), sl2⟩)
    (c2 : PySem.W.codeIn K cd2 "Leaves.leaf_at" = true)
    (k2 : PySem.W.keepIn K (.ref f2) = true)
    (a3 : PySem.W.findIn K (.ref C_Leaves) "has" = some (some (.ref f3)))
    (i3 : PySem.W.isFn K (.ref f3) = true)
    (l3 : K.lookup f3 = some ⟨oc3, od3, .func (PySem.W.fnOf "has" "Leaves.has" (defArgs s_Leaves_has) (defBody s_Leaves_has) (defScope s_Leaves_has) .none kV3 dc3 pm3 an3 cd3 ct3), sl3⟩)
    (c3 : PySem.W.codeIn K cd3 "Leaves.has" = true)
    (k3 : PySem.W.keepIn K (.ref f3) = true)
    (a4 : PySem.W.findIn K (.ref C_Twice) "__init__" = some (some (.ref f4)))
    (i4 : PySem.W.isFn K (.ref f4) = true)
    (l4 : K.lookup f4 = some ⟨oc4, od4, .func (PySem.W.fnOf "__init__" "Twice.__init__" (defArgs s_Twice_init) (defBody s_Twice_init) (defScope s_Twice_init) .none kV4 dc4 pm4 an4 cd4 ct4), sl4⟩)
    (c4 : PySem.W.codeIn K cd4 "Twice.__init__" = true)
    (k4 : PySem.W.keepIn K (.ref f4) = true)
    (a5 : PySem.W.findIn K (.ref C_Leaves) "add" = some (some (.ref f5)))
    (i5 : PySem.W.isFn K (.ref f5) = true)
    (l5 : K.lookup f5 = some ⟨oc5, od5, .func (PySem.W.fnOf "add" "Leaves.add" (defArgs s_Leaves_add) (defBody s_Leaves_add) (defScope s_Leaves_add) .none kV5 dc5 pm5 an5 cd5 ct5), sl5⟩)
    (c5 : PySem.W.codeIn K cd5 "Leaves.add" = true)
    (k5 : PySem.W.keepIn K (.ref f5) = true)
    (a6 : PySem.W.findIn K (.ref C_Leaves) "all_of" = some (some (.ref f6)))
    (i6 : PySem.W.isFn K (.ref f6) = true)
    (l6 : K.lookup f6 = some ⟨oc6, od6, .func (PySem.W.fnOf "all_of" "Leaves.all_of" (defArgs s_Leaves_all_of) (defBody s_Leaves_all_of) (defScope s_Leaves_all_of) .none kV6 dc6 pm6 an6 cd6 ct6), sl6⟩)
    (c6 : PySem.W.codeIn K cd6 "Leaves.all_of" = true)
    (k6 : PySem.W.keepIn K (.ref f6) = true)
    (a7 : PySem.W.findIn K (.ref C_Leaves) "join_at" = some (some (.ref f7)))
    (i7 : PySem.W.isFn K (.ref f7) = true)
    (l7 : K.lookup f7 = some ⟨oc7, od7, .func (PySem.W.fnOf "join_at" "Leaves.join_at" (defArgs s_Leaves_join_at) (defBody s_Leaves_join_at) (defScope s_Leaves_join_at) .none kV7 dc7 pm7 an7 cd7 ct7), sl7⟩)
    (c7 : PySem.W.codeIn K cd7 "Leaves.join_at" = true)
    (k7 : PySem.W.keepIn K (.ref f7) = true)
    (a8 : PySem.W.findIn K (.ref C_NoKey) "__init__" = some (some (.ref f8)))
    (i8 : PySem.W.isFn K (.ref f8) = true)
    (l8 : K.lookup f8 = some ⟨oc8, od8, .func (PySem.W.fnOf "__init__" "NoKey.__init__" (defArgs s_NoKey_init) (defBody s_NoKey_init) (defScope s_NoKey_init) .none kV8 dc8 pm8 an8 cd8 ct8), sl8⟩)
    (c8 : PySem.W.codeIn K cd8 "NoKey.__init__" = true)
    (k8 : PySem.W.keepIn K (.ref f8) = true)
    (a9 : PySem.W.findIn K (.ref C_Leaves) "discard" = some (some (.ref f9)))
    (i9 : PySem.W.isFn K (.ref f9) = true)
    (l9 : K.lookup f9 = some ⟨oc9, od9, .func (PySem.W.fnOf "discard" "Leaves.discard" (defArgs s_Leaves_discard) (defBody s_Leaves_discard) (defScope s_Leaves_discard) .none kV9 dc9 pm9 an9 cd9 ct9), sl9⟩)
    (c9 : PySem.W.codeIn K cd9 "Leaves.discard" = true)
    (k9 : PySem.W.keepIn K (.ref f9) = true)
    (a10 : PySem.W.nsIn K mainGlobals "_law_cell_at" = some (some (.ref f10)))
    (l10 : K.lookup f10 = some ⟨oc10, od10, .func (PySem.W.fnOf "_law_cell_at" "_law_cell_at" (defArgs s__law_cell_at) (defBody s__law_cell_at) (defScope s__law_cell_at) .none kV10 dc10 pm10 an10 cd10 ct10), sl10⟩)
    (c10 : PySem.W.codeIn K cd10 "_law_cell_at" = true)
    (k10 : PySem.W.keepIn K (.ref f10) = true)
    (a11 : PySem.W.findIn K (.ref C_Leaves) "many" = some (some (.ref f11)))
    (i11 : PySem.W.isFn K (.ref f11) = true)
    (l11 : K.lookup f11 = some ⟨oc11, od11, .func (PySem.W.fnOf "many" "Leaves.many" (defArgs s_Leaves_many) (defBody s_Leaves_many) (defScope s_Leaves_many) .none kV11 dc11 pm11 an11 cd11 ct11), sl11⟩)
    (c11 : PySem.W.codeIn K cd11 "Leaves.many" = true)
    (k11 : PySem.W.keepIn K (.ref f11) = true)
    (a12 : PySem.W.nsIn K mainGlobals "_law_flat" = some (some (.ref f12)))
    (l12 : K.lookup f12 = some ⟨oc12, od12, .func (PySem.W.fnOf "_law_flat" "_law_flat" (defArgs s__law_flat) (defBody s__law_flat) (defScope s__law_flat) .none kV12 dc12 pm12 an12 cd12 ct12), sl12⟩)
    (c12 : PySem.W.codeIn K cd12 "_law_flat" = true)
    (k12 : PySem.W.keepIn K (.ref f12) = true)
    (a13 : PySem.W.nsIn K mainGlobals "_law_whole" = some (some (.ref f13)))
    (l13 : K.lookup f13 = some ⟨oc13, od13, .func (PySem.W.fnOf "_law_whole" "_law_whole" (defArgs s__law_whole) (defBody s__law_whole) (defScope s__law_whole) .none kV13 dc13 pm13 an13 cd13 ct13), sl13⟩)
    (c13 : PySem.W.codeIn K cd13 "_law_whole" = true)
    (k13 : PySem.W.keepIn K (.ref f13) = true)
    (a14 : PySem.W.nsIn K mainGlobals "_law_refused" = some (some (.ref f14)))
    (l14 : K.lookup f14 = some ⟨oc14, od14, .func (PySem.W.fnOf "_law_refused" "_law_refused" (defArgs s__law_refused) (defBody s__law_refused) (defScope s__law_refused) .none kV14 dc14 pm14 an14 cd14 ct14), sl14⟩)
    (c14 : PySem.W.codeIn K cd14 "_law_refused" = true)
    (k14 : PySem.W.keepIn K (.ref f14) = true)
    (a15 : PySem.W.nsIn K mainGlobals "_law_right" = some (some (.ref f15)))
    (l15 : K.lookup f15 = some ⟨oc15, od15, .func (PySem.W.fnOf "_law_right" "_law_right" (defArgs s__law_right) (defBody s__law_right) (defScope s__law_right) .none kV15 dc15 pm15 an15 cd15 ct15), sl15⟩)
    (c15 : PySem.W.codeIn K cd15 "_law_right" = true)
    (k15 : PySem.W.keepIn K (.ref f15) = true)
    (a16 : PySem.W.nsIn K mainGlobals "law" = some (some (.ref f16)))
    (l16 : K.lookup f16 = some ⟨oc16, od16, .func (PySem.W.fnOf "law" "law" (defArgs s_law) (defBody s_law) (defScope s_law) .none kV16 dc16 pm16 an16 cd16 ct16), sl16⟩)
    (c16 : PySem.W.codeIn K cd16 "law" = true)
    (k16 : PySem.W.keepIn K (.ref f16) = true)
    (aC_WalkError : PySem.W.nsIn K mainGlobals "WalkError" = some (some (.ref C_WalkError)))
    (xL_WalkError : K.lookup C_WalkError = some (excClassObj nm_WalkError q_WalkError C_WalkError N_WalkError bs_WalkError [.type "ValueError", .type "Exception", .type "BaseException", .type "object"] true sn_WalkError su_WalkError ab_WalkError co_WalkError dd_WalkError m0_WalkError m1_WalkError m2_WalkError m3_WalkError m5_WalkError "ValueError.__new__"))
    (xa_WalkError : PySem.W.findIn K (.ref C_WalkError) "__setattr__" = some (some (.builtin "object.__setattr__")))
    (xe_WalkError : PySem.W.subIn K (.ref C_WalkError) (.type "BaseException") = some true)
    (xt_WalkError : PySem.W.typeIn K (.ref C_WalkError) = some (.type "type"))
    (xk_WalkError : PySem.W.keepIn K (.ref C_WalkError) = true)
    (xg_WalkError : PySem.W.findIn K (.ref C_WalkError) "__getattribute__" = some (some (.builtin "BaseException.__getattribute__")))
    (xn_WalkError : PySem.W.findIn K (.ref C_WalkError) "__getattr__" = some none)
    (xd_WalkError : PySem.W.hasDictIn K C_WalkError = true)
    (xc_WalkError : PySem.W.findIn K (.ref C_WalkError) "__class__" = some (some (.builtin "object.__class__")))
    (xs_WalkError : PySem.W.specialIn K (.builtin "object.__class__") "__get__" = some (some (.builtin "getset_descriptor.__get__")))
    (xj_WalkError : PySem.W.takesIn K (.builtin "object.__class__") = some true)
    (xm_WalkError : PySem.W.mroIn K C_WalkError (.type "object") = some true)
    (xl_WalkError : PySem.W.subIn K (.ref C_WalkError) (.ref C_WalkError) = some true)
    (aC_NoKey : PySem.W.nsIn K mainGlobals "NoKey" = some (some (.ref C_NoKey)))
    (xL_NoKey : K.lookup C_NoKey = some (excClassObj nm_NoKey q_NoKey C_NoKey N_NoKey bs_NoKey [.ref C_WalkError, .type "ValueError", .type "Exception", .type "BaseException", .type "object"] true sn_NoKey su_NoKey ab_NoKey co_NoKey dd_NoKey m0_NoKey m1_NoKey m2_NoKey m3_NoKey m5_NoKey "ValueError.__new__"))
    (xa_NoKey : PySem.W.findIn K (.ref C_NoKey) "__setattr__" = some (some (.builtin "object.__setattr__")))
    (xe_NoKey : PySem.W.subIn K (.ref C_NoKey) (.type "BaseException") = some true)
    (xt_NoKey : PySem.W.typeIn K (.ref C_NoKey) = some (.type "type"))
    (xk_NoKey : PySem.W.keepIn K (.ref C_NoKey) = true)
    (xg_NoKey : PySem.W.findIn K (.ref C_NoKey) "__getattribute__" = some (some (.builtin "BaseException.__getattribute__")))
    (xn_NoKey : PySem.W.findIn K (.ref C_NoKey) "__getattr__" = some none)
    (xd_NoKey : PySem.W.hasDictIn K C_NoKey = true)
    (xc_NoKey : PySem.W.findIn K (.ref C_NoKey) "__class__" = some (some (.builtin "object.__class__")))
    (xs_NoKey : PySem.W.specialIn K (.builtin "object.__class__") "__get__" = some (some (.builtin "getset_descriptor.__get__")))
    (xj_NoKey : PySem.W.takesIn K (.builtin "object.__class__") = some true)
    (xm_NoKey : PySem.W.mroIn K C_NoKey (.type "object") = some true)
    (xl_NoKey : PySem.W.subIn K (.ref C_NoKey) (.ref C_NoKey) = some true)
    (sv_NoKey : PySem.W.subIn K (.ref C_NoKey) (.type "ValueError") = some true)
    (tI_NoKey : PySem.W.typeIn K (.ref f8) = some (.type "function"))
    (no_NoKey_key : PySem.W.findIn K (.ref C_NoKey) "key" = some none)
    (sb_NoKey_WalkError : PySem.W.subIn K (.ref C_NoKey) (.ref C_WalkError) = some true)
    (sb_NoKey_Twice : PySem.W.subIn K (.ref C_NoKey) (.ref C_Twice) = some false)
    (sb_NoKey_NoKey : PySem.W.subIn K (.ref C_NoKey) (.ref C_NoKey) = some true)
    (aC_Twice : PySem.W.nsIn K mainGlobals "Twice" = some (some (.ref C_Twice)))
    (xL_Twice : K.lookup C_Twice = some (excClassObj nm_Twice q_Twice C_Twice N_Twice bs_Twice [.ref C_WalkError, .type "ValueError", .type "Exception", .type "BaseException", .type "object"] true sn_Twice su_Twice ab_Twice co_Twice dd_Twice m0_Twice m1_Twice m2_Twice m3_Twice m5_Twice "ValueError.__new__"))
    (xa_Twice : PySem.W.findIn K (.ref C_Twice) "__setattr__" = some (some (.builtin "object.__setattr__")))
    (xe_Twice : PySem.W.subIn K (.ref C_Twice) (.type "BaseException") = some true)
    (xt_Twice : PySem.W.typeIn K (.ref C_Twice) = some (.type "type"))
    (xk_Twice : PySem.W.keepIn K (.ref C_Twice) = true)
    (xg_Twice : PySem.W.findIn K (.ref C_Twice) "__getattribute__" = some (some (.builtin "BaseException.__getattribute__")))
    (xn_Twice : PySem.W.findIn K (.ref C_Twice) "__getattr__" = some none)
    (xd_Twice : PySem.W.hasDictIn K C_Twice = true)
    (xc_Twice : PySem.W.findIn K (.ref C_Twice) "__class__" = some (some (.builtin "object.__class__")))
    (xs_Twice : PySem.W.specialIn K (.builtin "object.__class__") "__get__" = some (some (.builtin "getset_descriptor.__get__")))
    (xj_Twice : PySem.W.takesIn K (.builtin "object.__class__") = some true)
    (xm_Twice : PySem.W.mroIn K C_Twice (.type "object") = some true)
    (xl_Twice : PySem.W.subIn K (.ref C_Twice) (.ref C_Twice) = some true)
    (sv_Twice : PySem.W.subIn K (.ref C_Twice) (.type "ValueError") = some true)
    (tI_Twice : PySem.W.typeIn K (.ref f4) = some (.type "function"))
    (no_Twice_key : PySem.W.findIn K (.ref C_Twice) "key" = some none)
    (sb_Twice_WalkError : PySem.W.subIn K (.ref C_Twice) (.ref C_WalkError) = some true)
    (sb_Twice_Twice : PySem.W.subIn K (.ref C_Twice) (.ref C_Twice) = some true)
    (sb_Twice_NoKey : PySem.W.subIn K (.ref C_Twice) (.ref C_NoKey) = some false)
    (aC_Leaves : PySem.W.nsIn K mainGlobals "Leaves" = some (some (.ref C_Leaves)))
    (pg_Leaves : PySem.W.plainGet K C_Leaves Str.empty = true)
    (hd_Leaves : PySem.W.hasDictIn K C_Leaves = true)
    (po_Leaves : PySem.W.plainOver K C_Leaves = true)
    (sa_Leaves : PySem.W.findIn K (.ref C_Leaves) "__setattr__" = some (some (.builtin "object.__setattr__")))
    (mk_Leaves : PySem.W.makesIn K C_Leaves = true)
    (kc_Leaves : PySem.W.keepIn K (.ref C_Leaves) = true)
    (na_Leaves_parted : PySem.W.findIn K (.ref C_Leaves) "parted" = some none)
    (cg_WalkError : PySem.W.readsIn K C_WalkError (.type "type") = true)
    (ca_WalkError : PySem.W.specialIn K (.ref C_WalkError) "__getattribute__" = some (some (.builtin "type.__getattribute__")))
    (cv_WalkError : PySem.W.findCls K (.ref C_WalkError) (.type "type") "__init__" = some (.val (.builtin "ValueError.__init__")))
    (kk_MOST_KEYS : PySem.W.nsIn K mainGlobals "MOST_KEYS" = some (some (.int 8 tk_MOST_KEYS)))
    (kk_LEAST_OF_TWO : PySem.W.nsIn K mainGlobals "LEAST_OF_TWO" = some (some (.int 5 tk_LEAST_OF_TWO)))
    (z_ValueError : PySem.W.nsIn K mainGlobals "ValueError" = some none)
    (z_bool : PySem.W.nsIn K mainGlobals "bool" = some none)
    (z_int : PySem.W.nsIn K mainGlobals "int" = some none)
    (z_isinstance : PySem.W.nsIn K mainGlobals "isinstance" = some none)
    (z_len : PySem.W.nsIn K mainGlobals "len" = some none)
    (z_list : PySem.W.nsIn K mainGlobals "list" = some none)
    (z_max : PySem.W.nsIn K mainGlobals "max" = some none)
    (z_range : PySem.W.nsIn K mainGlobals "range" = some none)
    (z_sorted : PySem.W.nsIn K mainGlobals "sorted" = some none)
    (z_sum : PySem.W.nsIn K mainGlobals "sum" = some none) :
    ∃ fd : FuncData, (∀ (s : Shared) (v : Value), BindsTo s fd ⟨[v], []⟩ [("_law_script", v)]) ∧ ∃ D : Ad, ∀ base : Heap, K.In base → base.Ns mainGlobals mg → FnOk l.prog w K mg base (L2.CX l.prog w) 6 fa fd ["_law_script"] (sp_law K D) := by
  have e := hfa.symm.trans (PySem.W.mg_of X G a16)
  cases e
  have F1 := fun_mk (st := s_Leaves_init) l1 c1 k1
  have b1 := F1.binds (ps := ["self"]) fun _ _ _ _ _ _ us hl => match us, hl with | [_], _ => rfl
  have F2 := fun_mk (st := s_Leaves_leaf_at) l2 c2 k2
  have b2 := F2.binds (ps := ["self", "key"]) fun _ _ _ _ _ _ us hl => match us, hl with | [_, _], _ => rfl
  have F3 := fun_mk (st := s_Leaves_has) l3 c3 k3
  have b3 := F3.binds (ps := ["self", "key"]) fun _ _ _ _ _ _ us hl => match us, hl with | [_, _], _ => rfl
  have F4 := fun_mk (st := s_Twice_init) l4 c4 k4
  have b4 := F4.binds (ps := ["self", "key"]) fun _ _ _ _ _ _ us hl => match us, hl with | [_, _], _ => rfl
  have F5 := fun_mk (st := s_Leaves_add) l5 c5 k5
  have b5 := F5.binds (ps := ["self", "key"]) fun _ _ _ _ _ _ us hl => match us, hl with | [_, _], _ => rfl
  have F6 := fun_mk (st := s_Leaves_all_of) l6 c6 k6
  have b6 := F6.binds (ps := ["self"]) fun _ _ _ _ _ _ us hl => match us, hl with | [_], _ => rfl
  have F7 := fun_mk (st := s_Leaves_join_at) l7 c7 k7
  have b7 := F7.binds (ps := ["self", "at"]) fun _ _ _ _ _ _ us hl => match us, hl with | [_, _], _ => rfl
  have F8 := fun_mk (st := s_NoKey_init) l8 c8 k8
  have b8 := F8.binds (ps := ["self", "key"]) fun _ _ _ _ _ _ us hl => match us, hl with | [_, _], _ => rfl
  have F9 := fun_mk (st := s_Leaves_discard) l9 c9 k9
  have b9 := F9.binds (ps := ["self", "key"]) fun _ _ _ _ _ _ us hl => match us, hl with | [_, _], _ => rfl
  have F10 := fun_mk (st := s__law_cell_at) l10 c10 k10
  have b10 := F10.binds (ps := ["_law_script", "_law_k"]) fun _ _ _ _ _ _ us hl => match us, hl with | [_, _], _ => rfl
  have F11 := fun_mk (st := s_Leaves_many) l11 c11 k11
  have b11 := F11.binds (ps := ["self"]) fun _ _ _ _ _ _ us hl => match us, hl with | [_], _ => rfl
  have F12 := fun_mk (st := s__law_flat) l12 c12 k12
  have b12 := F12.binds (ps := ["_law_told"]) fun _ _ _ _ _ _ us hl => match us, hl with | [_], _ => rfl
  have F13 := fun_mk (st := s__law_whole) l13 c13 k13
  have b13 := F13.binds (ps := ["_law_found"]) fun _ _ _ _ _ _ us hl => match us, hl with | [_], _ => rfl
  have F14 := fun_mk (st := s__law_refused) l14 c14 k14
  have b14 := F14.binds (ps := ["_law_told", "_law_word", "_law_key"]) fun _ _ _ _ _ _ us hl => match us, hl with | [_, _, _], _ => rfl
  have F15 := fun_mk (st := s__law_right) l15 c15 k15
  have b15 := F15.binds (ps := ["_law_told", "_law_kept", "_law_key"]) fun _ _ _ _ _ _ us hl => match us, hl with | [_, _, _], _ => rfl
  have F16 := fun_mk (st := s_law) l16 c16 k16
  have b16 := F16.binds (ps := ["_law_script"]) fun _ _ _ _ _ _ us hl => match us, hl with | [_], _ => rfl
  have T : Txt K mg { a_Leaves_init := f1, d_Leaves_init := _, a_Leaves_leaf_at := f2, d_Leaves_leaf_at := _, a_Leaves_has := f3, d_Leaves_has := _, a_Twice_init := f4, d_Twice_init := _, a_Leaves_add := f5, d_Leaves_add := _, a_Leaves_all_of := f6, d_Leaves_all_of := _, a_Leaves_join_at := f7, d_Leaves_join_at := _, a_NoKey_init := f8, d_NoKey_init := _, a_Leaves_discard := f9, d_Leaves_discard := _, a__law_cell_at := f10, d__law_cell_at := _, a_Leaves_many := f11, d_Leaves_many := _, a__law_flat := f12, d__law_flat := _, a__law_whole := f13, d__law_whole := _, a__law_refused := f14, d__law_refused := _, a__law_right := f15, d__law_right := _, a_law := fa, d_law := _, c_WalkError := C_WalkError, c_NoKey := C_NoKey, c_Twice := C_Twice, c_Leaves := C_Leaves, t_MOST_KEYS := tk_MOST_KEYS, t_LEAST_OF_TWO := tk_LEAST_OF_TWO } := { F_Leaves_init := F1, b_Leaves_init := b1, F_Leaves_leaf_at := F2, b_Leaves_leaf_at := b2, F_Leaves_has := F3, b_Leaves_has := b3, F_Twice_init := F4, b_Twice_init := b4, F_Leaves_add := F5, b_Leaves_add := b5, F_Leaves_all_of := F6, b_Leaves_all_of := b6, F_Leaves_join_at := F7, b_Leaves_join_at := b7, F_NoKey_init := F8, b_NoKey_init := b8, F_Leaves_discard := F9, b_Leaves_discard := b9, F__law_cell_at := F10, b__law_cell_at := b10, g__law_cell_at := PySem.W.mg_of X G a10, F_Leaves_many := F11, b_Leaves_many := b11, F__law_flat := F12, b__law_flat := b12, g__law_flat := PySem.W.mg_of X G a12, F__law_whole := F13, b__law_whole := b13, g__law_whole := PySem.W.mg_of X G a13, F__law_refused := F14, b__law_refused := b14, g__law_refused := PySem.W.mg_of X G a14, F__law_right := F15, b__law_right := b15, g__law_right := PySem.W.mg_of X G a15, F_law := F16, b_law := b16, g_law := PySem.W.mg_of X G a16, g_WalkError := PySem.W.mg_of X G aC_WalkError, xc_WalkError := ⟨⟨⟨_, _, _, _, _, _, _, _, _, _, _, _, _, _, _, xL_WalkError, rfl⟩, xa_WalkError, xe_WalkError, xt_WalkError, xk_WalkError⟩, ⟨xg_WalkError, xn_WalkError, xe_WalkError, xd_WalkError, xc_WalkError, xs_WalkError, xj_WalkError, xm_WalkError⟩, xl_WalkError⟩, g_NoKey := PySem.W.mg_of X G aC_NoKey, xc_NoKey := ⟨⟨⟨_, _, _, _, _, _, _, _, _, _, _, _, _, _, _, xL_NoKey, rfl⟩, xa_NoKey, xe_NoKey, xt_NoKey, xk_NoKey⟩, ⟨xg_NoKey, xn_NoKey, xe_NoKey, xd_NoKey, xc_NoKey, xs_NoKey, xj_NoKey, xm_NoKey⟩, xl_NoKey⟩, sv_NoKey := sv_NoKey, iC_NoKey := a8, tI_NoKey := tI_NoKey, no_NoKey_key := no_NoKey_key, sb_NoKey_WalkError := sb_NoKey_WalkError, sb_NoKey_Twice := sb_NoKey_Twice, sb_NoKey_NoKey := sb_NoKey_NoKey, g_Twice := PySem.W.mg_of X G aC_Twice, xc_Twice := ⟨⟨⟨_, _, _, _, _, _, _, _, _, _, _, _, _, _, _, xL_Twice, rfl⟩, xa_Twice, xe_Twice, xt_Twice, xk_Twice⟩, ⟨xg_Twice, xn_Twice, xe_Twice, xd_Twice, xc_Twice, xs_Twice, xj_Twice, xm_Twice⟩, xl_Twice⟩, sv_Twice := sv_Twice, iC_Twice := a4, tI_Twice := tI_Twice, no_Twice_key := no_Twice_key, sb_Twice_WalkError := sb_Twice_WalkError, sb_Twice_Twice := sb_Twice_Twice, sb_Twice_NoKey := sb_Twice_NoKey, g_Leaves := PySem.W.mg_of X G aC_Leaves, cl_Leaves := ⟨pg_Leaves, hd_Leaves, po_Leaves, sa_Leaves⟩, mk_Leaves := ⟨mk_Leaves, a1, i1, kc_Leaves⟩, me_Leaves_leaf_at := ⟨a2, i2, k2⟩, me_Leaves_has := ⟨a3, i3, k3⟩, me_Leaves_many := ⟨a11, i11, k11⟩, me_Leaves_add := ⟨a5, i5, k5⟩, me_Leaves_discard := ⟨a9, i9, k9⟩, me_Leaves_join_at := ⟨a7, i7, k7⟩, me_Leaves_all_of := ⟨a6, i6, k6⟩, na_Leaves_parted := na_Leaves_parted, cr_WalkError := ⟨cg_WalkError, ca_WalkError⟩, ve_WalkError := cv_WalkError, k_MOST_KEYS := PySem.W.mg_of X G kk_MOST_KEYS, k_LEAST_OF_TWO := PySem.W.mg_of X G kk_LEAST_OF_TWO, n_ValueError := PySem.W.mg_none_of X G z_ValueError, n_bool := PySem.W.mg_none_of X G z_bool, n_int := PySem.W.mg_none_of X G z_int, n_isinstance := PySem.W.mg_none_of X G z_isinstance, n_len := PySem.W.mg_none_of X G z_len, n_list := PySem.W.mg_none_of X G z_list, n_max := PySem.W.mg_none_of X G z_max, n_range := PySem.W.mg_none_of X G z_range, n_sorted := PySem.W.mg_none_of X G z_sorted, n_sum := PySem.W.mg_none_of X G z_sum }
  exact ⟨_, fun s v => .of_eq rfl, _, fun base _ _ => ok_law T⟩
theorem walk {l : PySem.W.OpenLaw} {q : Program} {loose : List Str} {XP : (Str → Option Value) → Heap → Prop} {YP : World → Heap → Prop} {d : DefRec} {K : Params → PySem.W.Frag} (hn : l.most = some 63) (hdf : d.params.defaults = [])
    (hY : ∀ (w : World) (h : Heap), YP w h → (K w.params).In h)
    (F : ∀ (w : World) (mg : Str → Option Value) (fa : Addr) (h : Heap), (K w.params).In h → h.Ns mainGlobals mg → mg d.name = some (.ref fa) →
      ∃ fd : FuncData, (∀ (s : Shared) (u : Value), BindsTo s fd ⟨[u], []⟩ [("_law_script", u)]) ∧ ∃ D : Ad, ∀ base : Heap, (K w.params).In base → base.Ns mainGlobals mg → FnOk l.prog w (K w.params) mg base (L2.CX l.prog w) 6 fa fd ["_law_script"] (sp_law (K w.params) D)) :
    PySem.W.WalkO q loose XP YP l.row.toRowW d [] (fun f vs => PySem.call f vs) :=
  L2.walk_of (n := 63) (k := 6) (x := "_law_script") (CX := fun w => L2.CX l.prog w) (sp := fun w => spEnd (K w.params)) hn (by decide) hdf ⟨rfl, by decide, by decide⟩ hY
    (fun w mg fa h a b c => by
      obtain ⟨fd, h1, D, h2⟩ := F w mg fa h a b c
      exact ⟨fd, h1, fun base x y => (h2 base x y).imp fun vs H Q E z => sp_law_end z⟩)
    (fun _ H a ns hl hO hS => ⟨.ref a, rfl, a, ns, rfl, hS, hl, fun _ => rfl⟩) fun _ _ _ _ _ z => cx_false z
end Toy
open PySem PySem.W PyProof.Rows
set_option maxRecDepth 100000 in
set_option maxHeartbeats 0 in
theorem PySem.Challenge.cw_staywalk_k21_a_few_keys_in_leaves_holds : PySem.Challenge.rw_staywalk_k21_a_few_keys_in_leaves.Holds := by
  w_on; o_law; k_head; (case hw => w_witness2)
  k_fill
  refine Toy.walk (l := PySem.Challenge.rw_staywalk_k21_a_few_keys_in_leaves) rfl rfl (fun w h Y => PySem.W.kIn_of Y) ?F
  case F =>
    intro w mg fa h KX G hmg
    refine' Toy.all_mk KX G hmg ?a1 ?i1 ?l1 ?c1 ?k1 ?a2 ?i2 ?l2 ?c2 ?k2 ?a3 ?i3 ?l3 ?c3 ?k3 ?a4 ?i4 ?l4 ?c4 ?k4 ?a5 ?i5 ?l5 ?c5 ?k5 ?a6 ?i6 ?l6 ?c6 ?k6 ?a7 ?i7 ?l7 ?c7 ?k7 ?a8 ?i8 ?l8 ?c8 ?k8 ?a9 ?i9 ?l9 ?c9 ?k9 ?a10 ?l10 ?c10 ?k10 ?a11 ?i11 ?l11 ?c11 ?k11 ?a12 ?l12 ?c12 ?k12 ?a13 ?l13 ?c13 ?k13 ?a14 ?l14 ?c14 ?k14 ?a15 ?l15 ?c15 ?k15 ?a16 ?l16 ?c16 ?k16 ?aC_WalkError ?xL_WalkError ?xa_WalkError ?xe_WalkError ?xt_WalkError ?xk_WalkError ?xg_WalkError ?xn_WalkError ?xd_WalkError ?xc_WalkError ?xs_WalkError ?xj_WalkError ?xm_WalkError ?xl_WalkError ?aC_NoKey ?xL_NoKey ?xa_NoKey ?xe_NoKey ?xt_NoKey ?xk_NoKey ?xg_NoKey ?xn_NoKey ?xd_NoKey ?xc_NoKey ?xs_NoKey ?xj_NoKey ?xm_NoKey ?xl_NoKey ?sv_NoKey ?tI_NoKey ?no_NoKey_key ?sb_NoKey_WalkError ?sb_NoKey_Twice ?sb_NoKey_NoKey ?aC_Twice ?xL_Twice ?xa_Twice ?xe_Twice ?xt_Twice ?xk_Twice ?xg_Twice ?xn_Twice ?xd_Twice ?xc_Twice ?xs_Twice ?xj_Twice ?xm_Twice ?xl_Twice ?sv_Twice ?tI_Twice ?no_Twice_key ?sb_Twice_WalkError ?sb_Twice_Twice ?sb_Twice_NoKey ?aC_Leaves ?pg_Leaves ?hd_Leaves ?po_Leaves ?sa_Leaves ?mk_Leaves ?kc_Leaves ?na_Leaves_parted ?cg_WalkError ?ca_WalkError ?cv_WalkError ?kk_MOST_KEYS ?kk_LEAST_OF_TWO ?z_ValueError ?z_bool ?z_int ?z_isinstance ?z_len ?z_list ?z_max ?z_range ?z_sorted ?z_sum
    (case aC_WalkError => k_is)
    (case aC_NoKey => k_is)
    (case aC_Twice => k_is)
    (case aC_Leaves => k_is)
    (case a1 => k_is)
    (case i1 => k_is)
    (case l1 => k_is)
    (case c1 => k_is)
    (case k1 => k_is)
    (case a2 => k_is)
    (case i2 => k_is)
    (case l2 => k_is)
    (case c2 => k_is)
    (case k2 => k_is)
    (case a3 => k_is)
    (case i3 => k_is)
    (case l3 => k_is)
    (case c3 => k_is)
    (case k3 => k_is)
    (case a4 => k_is)
    (case i4 => k_is)
    (case l4 => k_is)
    (case c4 => k_is)
    (case k4 => k_is)
    (case a5 => k_is)
    (case i5 => k_is)
    (case l5 => k_is)
    (case c5 => k_is)
    (case k5 => k_is)
    (case a6 => k_is)
    (case i6 => k_is)
    (case l6 => k_is)
    (case c6 => k_is)
    (case k6 => k_is)
    (case a7 => k_is)
    (case i7 => k_is)
    (case l7 => k_is)
    (case c7 => k_is)
    (case k7 => k_is)
    (case a8 => k_is)
    (case i8 => k_is)
    (case l8 => k_is)
    (case c8 => k_is)
    (case k8 => k_is)
    (case a9 => k_is)
    (case i9 => k_is)
    (case l9 => k_is)
    (case c9 => k_is)
    (case k9 => k_is)
    (case a10 => k_is)
    (case l10 => k_is)
    (case c10 => k_is)
    (case k10 => k_is)
    (case a11 => k_is)
    (case i11 => k_is)
    (case l11 => k_is)
    (case c11 => k_is)
    (case k11 => k_is)
    (case a12 => k_is)
    (case l12 => k_is)
    (case c12 => k_is)
    (case k12 => k_is)
    (case a13 => k_is)
    (case l13 => k_is)
    (case c13 => k_is)
    (case k13 => k_is)
    (case a14 => k_is)
    (case l14 => k_is)
    (case c14 => k_is)
    (case k14 => k_is)
    (case a15 => k_is)
    (case l15 => k_is)
    (case c15 => k_is)
    (case k15 => k_is)
    (case a16 => k_is)
    (case l16 => k_is)
    (case c16 => k_is)
    (case k16 => k_is)
    (case xL_WalkError => k_is)
    (case xa_WalkError => k_is)
    (case xe_WalkError => k_is)
    (case xt_WalkError => k_is)
    (case xk_WalkError => k_is)
    (case xg_WalkError => k_is)
    (case xn_WalkError => k_is)
    (case xd_WalkError => k_is)
    (case xc_WalkError => k_is)
    (case xs_WalkError => k_is)
    (case xj_WalkError => k_is)
    (case xm_WalkError => k_is)
    (case xl_WalkError => k_is)
    (case xL_NoKey => k_is)
    (case xa_NoKey => k_is)
    (case xe_NoKey => k_is)
    (case xt_NoKey => k_is)
    (case xk_NoKey => k_is)
    (case xg_NoKey => k_is)
    (case xn_NoKey => k_is)
    (case xd_NoKey => k_is)
    (case xc_NoKey => k_is)
    (case xs_NoKey => k_is)
    (case xj_NoKey => k_is)
    (case xm_NoKey => k_is)
    (case xl_NoKey => k_is)
    (case sv_NoKey => k_is)
    (case tI_NoKey => k_is)
    (case no_NoKey_key => k_is)
    (case sb_NoKey_WalkError => k_is)
    (case sb_NoKey_Twice => k_is)
    (case sb_NoKey_NoKey => k_is)
    (case xL_Twice => k_is)
    (case xa_Twice => k_is)
    (case xe_Twice => k_is)
    (case xt_Twice => k_is)
    (case xk_Twice => k_is)
    (case xg_Twice => k_is)
    (case xn_Twice => k_is)
    (case xd_Twice => k_is)
    (case xc_Twice => k_is)
    (case xs_Twice => k_is)
    (case xj_Twice => k_is)
    (case xm_Twice => k_is)
    (case xl_Twice => k_is)
    (case sv_Twice => k_is)
    (case tI_Twice => k_is)
    (case no_Twice_key => k_is)
    (case sb_Twice_WalkError => k_is)
    (case sb_Twice_Twice => k_is)
    (case sb_Twice_NoKey => k_is)
    (case pg_Leaves => k_is)
    (case hd_Leaves => k_is)
    (case po_Leaves => k_is)
    (case sa_Leaves => k_is)
    (case mk_Leaves => k_is)
    (case kc_Leaves => k_is)
    (case na_Leaves_parted => k_is)
    (case cg_WalkError => k_is)
    (case ca_WalkError => k_is)
    (case cv_WalkError => k_is)
    (case kk_MOST_KEYS => k_is)
    (case kk_LEAST_OF_TWO => k_is)
    (case z_ValueError => k_is)
    (case z_bool => k_is)
    (case z_int => k_is)
    (case z_isinstance => k_is)
    (case z_len => k_is)
    (case z_list => k_is)
    (case z_max => k_is)
    (case z_range => k_is)
    (case z_sorted => k_is)
    (case z_sum => k_is)
