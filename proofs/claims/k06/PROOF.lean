import PyProof.Rows.All
import Wide.All
import OpenK.AllK
import Wide.FinOn
import HandS.ForMost
import HandS.ForExc
import HandS.IsInst
import HandS.Flow
import HandS.Wide
import HandS.Style
import KE.KBits
import KE.BitLaws
import KE.KEqDict
import HandS.Iter
import HandS.SortRule
import PySem.Challenge.RW_staywalk_k06_whole_rows_within_rows
set_option Elab.async false
set_option linter.all false
set_option maxRecDepth 100000
set_option maxHeartbeats 4000000
/-! Z1: a small calculus over HandS: what a def may rely on is a list of cells that it owns (L) and a part that stays (B). -/
namespace Z
open PySem L2

abbrev Cell := Addr × HO
/-- B stays for ever, L is owned, both lie in H, apart -/
structure W (B : Hp) (L : List Cell) (H : Hp) : Prop where
  sub : Same B H
  has : ∀ c ∈ L, H c.1 = some c.2
  nd : (L.map (·.1)).Nodup
  out : ∀ c ∈ L, B c.1 = none
def Same' (A B : Hp) : Prop := Same A B
theorem szl {n : Nat} (h : n ≤ 100000) : n ≤ sizeLine := Nat.le_trans h (by decide)
theorem szlt {n : Nat} (h : n < 100000) : n < sizeLine := Nat.lt_of_lt_of_le h (by decide)
theorem same_refl (H : Hp) : Same H H := fun _ _ e => e
theorem same_trans {A B C : Hp} (x : Same A B) (y : Same B C) : Same A C := fun b o e => y b o (x b o e)
theorem same_new {B : Hp} {p : Addr} {o : HO} (h : B p = none) : Same B (upd B p o) := fun b u e => by
  rw [upd_ne (ne_of_none e h)]
  exact e
theorem Same.tq {K : PySem.W.Frag} {H H' : Hp} {a : Addr} {xs : List V} (e : Same H H') (h : SqT K H a xs) : SqT K H' a xs := by
  rcases h with (h | ⟨o, h⟩) | h
  · exact .inl (.inl (e _ _ h))
  · exact .inl (.inr ⟨o, e _ _ h⟩)
  · exact .inr h
theorem Same.rd {A B : Hp} {a : Addr} {o : HO} (s : Same A B) (h : A a = some o) : B a = some o := s _ _ h
theorem Same.sq {K : PySem.W.Frag} {H H' : Hp} {a : Addr} {xs : List V} (e : Same H H') (h : SqL K H a xs) : SqL K H' a xs := L2.Same.seq e h
namespace W
variable {B B' H : Hp} {L L' R : List Cell} {a p : Addr} {o o' : HO}
theorem perm (w : W B L H) (h : L.Perm L') : W B L' H :=
  ⟨w.sub, fun c hc => w.has c (h.mem_iff.mpr hc), (h.map _).nodup_iff.mp w.nd, fun c hc => w.out c (h.mem_iff.mpr hc)⟩
theorem get (w : W B L H) (h : (a, o) ∈ L) : H a = some o := w.has _ h
theorem freeB (w : W B L H) (h : H p = none) : B p = none := by
  cases e : B p with
  | none => rfl
  | some u => rw [w.sub _ _ e] at h; cases h
theorem freeL (w : W B L H) (h : H p = none) : p ∉ L.map (·.1) := fun m => by
  obtain ⟨c, hc, rfl⟩ := List.mem_map.mp m
  rw [w.has c hc] at h
  cases h
/-- a new thing that stays -/
theorem newB (w : W B L H) (h : H p = none) (o : HO) : W (upd B p o) L (upd H p o) := by
  refine ⟨fun b u e => ?_, fun c hc => ?_, w.nd, fun c hc => ?_⟩
  · by_cases q : b = p
    · subst q; rw [upd_same] at e ⊢; exact e
    · rw [upd_ne q] at e ⊢; exact w.sub _ _ e
  · have q : c.1 ≠ p := fun q => w.freeL h (List.mem_map.mpr ⟨c, hc, q⟩)
    rw [upd_ne q]; exact w.has c hc
  · have q : c.1 ≠ p := fun q => w.freeL h (List.mem_map.mpr ⟨c, hc, q⟩)
    rw [upd_ne q]; exact w.out c hc
/-- a new thing that is owned -/
theorem newL (w : W B L H) (h : H p = none) (o : HO) : W B ((p, o) :: L) (upd H p o) := by
  refine ⟨fun b u e => ?_, fun c hc => ?_, ?_, fun c hc => ?_⟩
  · rw [upd_ne (ne_of_none e (w.freeB h))]; exact w.sub _ _ e
  · rcases List.mem_cons.mp hc with rfl | hc
    · exact upd_same
    · have q : c.1 ≠ p := fun q => w.freeL h (List.mem_map.mpr ⟨c, hc, q⟩)
      rw [upd_ne q]; exact w.has c hc
  · exact List.nodup_cons.mpr ⟨w.freeL h, w.nd⟩
  · rcases List.mem_cons.mp hc with rfl | hc
    · exact w.freeB h
    · exact w.out c hc
/-- an owned thing stays from now on -/
theorem give (w : W B ((p, o) :: L) H) : W (upd B p o) L H := by
  have n := List.nodup_cons.mp w.nd
  refine ⟨fun b u e => ?_, fun c hc => w.has c (List.mem_cons_of_mem _ hc), n.2, fun c hc => ?_⟩
  · by_cases q : b = p
    · subst q; rw [upd_same] at e; cases e; exact w.has _ (List.mem_cons_self ..)
    · rw [upd_ne q] at e; exact w.sub _ _ e
  · have q : c.1 ≠ p := fun q => n.1 (List.mem_map.mpr ⟨c, hc, q⟩)
    rw [upd_ne q]; exact w.out c (List.mem_cons_of_mem _ hc)
theorem drop (w : W B (L ++ R) H) : W B R H :=
  ⟨w.sub, fun c hc => w.has c (List.mem_append_right _ hc), by have n := w.nd; rw [List.map_append] at n; exact (List.nodup_append.mp n).2.1, fun c hc => w.out c (List.mem_append_right _ hc)⟩
theorem drop1 (w : W B ((p, o) :: L) H) : W B L H := W.drop (L := [(p, o)]) w
theorem outB (w : W B L H) (h : (a, o) ∈ L) : B a = none := w.out _ h
/-- an owned thing is written -/
theorem put (w : W B (L ++ (a, o) :: R) H) (o' : HO) : W B (L ++ (a, o') :: R) (upd H a o') := by
  have n := w.nd
  rw [List.map_append, List.map_cons] at n
  have n1 := List.nodup_append.mp n
  have n2 := List.nodup_cons.mp n1.2.1
  have ha : ∀ c ∈ L ++ R, c.1 ≠ a := fun c hc q => by
    rcases List.mem_append.mp hc with hc | hc
    · exact n1.2.2 _ (List.mem_map.mpr ⟨c, hc, rfl⟩) _ (List.mem_cons_self ..) q
    · exact n2.1 (List.mem_map.mpr ⟨c, hc, q⟩)
  have hm : ∀ c ∈ L ++ (a, o') :: R, c = (a, o') ∨ c ∈ L ++ R := fun c hc => by
    rcases List.mem_append.mp hc with hc | hc
    · exact .inr (List.mem_append_left _ hc)
    · rcases List.mem_cons.mp hc with hc | hc
      · exact .inl hc
      · exact .inr (List.mem_append_right _ hc)
  have hi : ∀ c ∈ L ++ R, c ∈ L ++ (a, o) :: R := fun c hc => by
    rcases List.mem_append.mp hc with hc | hc
    · exact List.mem_append_left _ hc
    · exact List.mem_append_right _ (List.mem_cons_of_mem _ hc)
  have h0 : B a = none := w.out (a, o) (List.mem_append_right _ (List.mem_cons_self ..))
  refine ⟨fun b u e => ?_, fun c hc => ?_, ?_, fun c hc => ?_⟩
  · rw [upd_ne (ne_of_none e h0)]; exact w.sub _ _ e
  · rcases hm c hc with rfl | hc
    · exact upd_same
    · rw [upd_ne (ha c hc)]; exact w.has c (hi c hc)
  · rw [List.map_append, List.map_cons]; exact n
  · rcases hm c hc with rfl | hc
    · exact h0
    · exact w.out c (hi c hc)
theorem put0 (w : W B ((a, o) :: R) H) (o' : HO) : W B ((a, o') :: R) (upd H a o') := put (L := []) w o'
theorem put1 {c1 : Cell} (w : W B (c1 :: (a, o) :: R) H) (o' : HO) : W B (c1 :: (a, o') :: R) (upd H a o') := put (L := [c1]) w o'
theorem put2 {c1 c2 : Cell} (w : W B (c1 :: c2 :: (a, o) :: R) H) (o' : HO) : W B (c1 :: c2 :: (a, o') :: R) (upd H a o') := put (L := [c1, c2]) w o'
theorem put3 {c1 c2 c3 : Cell} (w : W B (c1 :: c2 :: c3 :: (a, o) :: R) H) (o' : HO) : W B (c1 :: c2 :: c3 :: (a, o') :: R) (upd H a o') := put (L := [c1, c2, c3]) w o'
theorem seq {K : PySem.W.Frag} {xs : List V} (w : W B L H) (h : SqL K B a xs) : SqL K H a xs := Same.seq w.sub h
theorem rd (w : W B L H) (h : B a = some o) : H a = some o := w.sub _ _ h
theorem sq {K : PySem.W.Frag} {xs : List V} (w : W B L H) (h : SqL K B a xs) : SqL K H a xs := L2.Same.seq w.sub h
theorem tq {K : PySem.W.Frag} {xs : List V} (w : W B L H) (h : SqT K B a xs) : SqT K H a xs := Z.Same.tq w.sub h
theorem law {K : PySem.W.Frag} {a : Addr} {xs : List V} (h : SqL K H a xs) : ∃ B, SqL K B a xs ∧ W B [] H := ⟨H, h, ⟨same_refl H, by simp, by simp, by simp⟩⟩
theorem nil (H : Hp) : W H [] H := ⟨same_refl H, by simp, by simp, by simp⟩
end W
/-! ### readings, step by step -/
def Br (b : Bool) (A C : Prop) : Prop := if b = true then A else C
def rTst (x : V) (H : Hp) (Q : Bool → Hp → Prop) : Prop := ∃ k, x = .bl k ∧ Q k H
section
variable {K : PySem.W.Frag} {σ : L2.St} {H : Hp} {D : Ends} {t u tb : TS} {te ta tx tc : TE} {tt tu tw : TT} {Q : VK} {R : Bool → Hp → Prop} {v x y : V} {b : Bool} {A C : Prop} {i : Nat} {g : TG} {r r' : R2}
theorem g_seq (h : t { D with nx := u D } σ H) : tSeq t u D σ H := h
theorem g_next (h : D.nx σ H) : tNext D σ H := h
theorem g_brk (h : D.bk σ H) : tBreak D σ H := h
theorem g_cont (h : D.ct σ H) : tCont D σ H := h
theorem g_asg (h : te σ H fun x H1 => g x σ H1 D.nx) : tAsg te g D σ H := h
theorem g_name {Q : L2.St → Hp → Prop} (h : Q (σ.set i (some v)) H) : gName i v σ H Q := h
theorem g_dropE (h : te σ H fun _ H1 => D.nx σ H1) : tDrop te D σ H := h
theorem g_ret (h : te σ H D.rt) : tRet te D σ H := h
theorem g_retN (h : D.rt .non H) : tRetN D σ H := h
theorem g_ifS (h : tt σ H fun b H1 => Br b (t D σ H1) (u D σ H1)) : tIfS tt t u D σ H := h
theorem g_ifJ (J : L2.St → Hp → Prop) (hJ : ∀ σ' H', J σ' H' → D.nx σ' H') (h : ∀ N : L2.St → Hp → Prop, (∀ σ' H', J σ' H' → N σ' H') → tt σ H fun b H1 => Br b (t { D with nx := N } σ H1) (u { D with nx := N } σ H1)) : tIfS tt t u D σ H := h D.nx hJ
theorem g_test (h : te σ H fun x H1 => rTst x H1 R) : tTest te σ H R := h
theorem g_tB (h : te σ H fun x H1 => rTst x H1 R) : tB te σ H R := h
theorem g_tst (h : R b H) : rTst (.bl b) H R := ⟨b, rfl, h⟩
theorem g_and (h : tt σ H fun b H1 => Br b (tu σ H1 R) (R false H1)) : tAnd tt tu σ H R := h
theorem g_or (h : tt σ H fun b H1 => Br b (R true H1) (tu σ H1 R)) : tOr tt tu σ H R := h
theorem g_not (h : tt σ H fun b H1 => R (!b) H1) : tNot tt σ H R := h
theorem g_andV (h : te σ H fun x H1 => rTst x H1 fun b H1 => Br b (tx σ H1 Q) (Q (.bl false) H1)) : tAndV te tx σ H Q := h
theorem g_orV (h : te σ H fun x H1 => rTst x H1 fun b H1 => Br b (Q (.bl true) H1) (tx σ H1 Q)) : tOrV te tx σ H Q := h
theorem g_notV (h : te σ H fun x H1 => rTst x H1 fun b H1 => Q (.bl (!b)) H1) : tNotV te σ H Q := h
theorem g_if (h : tt σ H fun b H1 => Br b (te σ H1 Q) (tx σ H1 Q)) : tIf tt te tx σ H Q := h
theorem g_yes (h : R true H) : tYes σ H R := h
theorem g_var (e : σ[i]? = some (some v)) (h : Q v H) : tVar i σ H Q := ⟨v, e, h⟩
theorem g_c (h : Q v H) : tC v σ H Q := h
theorem g_op (h : ta σ H fun x H1 => tx σ H1 fun y H2 => r x y H2 Q) : tOp r ta tx σ H Q := h
theorem g_un {r : V → Hp → VK → Prop} (h : ta σ H fun x H1 => r x H1 Q) : tUn r ta σ H Q := h
theorem g_chain (h : ta σ H fun x H1 => tx σ H1 fun y H2 => r x y H2 fun z H3 => rTst z H3 fun k H4 => Br k (tc σ H4 fun w' H4 => r' y w' H4 Q) (Q (.bl false) H4)) : tChain r r' ta tx tc σ H Q := h
theorem g_cb {r : List V → Hp → VK → Prop} {t : TA} (h : t σ H fun vs H1 => r vs H1 Q) : tCB r t σ H Q := h
theorem g_nil {Q : List V → Hp → Prop} (h : Q [] H) : tNil σ H Q := h
theorem g_cons {tr : TA} {Q : List V → Hp → Prop} (h : te σ H fun x H1 => tr σ H1 fun xs H2 => Q (x :: xs) H2) : tCons te tr σ H Q := h
theorem g_call {sp : Sp} {dvs : List V} {E : XK} {t : TA} (h : t σ H fun vs H1 => sp (vs ++ dvs) H1 Q E) : tCall sp dvs E t σ H Q := h
theorem g_aug {ti : TIp} (e : σ[i]? = some (some v)) (h : te σ H fun y H1 => ti v y H1 fun z H2 => D.nx (σ.set i (some z)) H2) : tAug i te ti D σ H := ⟨v, e, h⟩
theorem g_ip {f : Int → Int → Int} {m n : Int} (h : Q (.int (f m n)) H) : ipI f (.int m) (.int n) H Q := ⟨m, n, rfl, rfl, h⟩
theorem r_I {Cc : Int → Int → Prop} {gg : Int → Int → V} {m n : Int} (c : Cc m n) (h : Q (gg m n) H) : rI Cc gg (.int m) (.int n) H Q := ⟨m, n, rfl, rfl, c, h⟩
theorem r_I0 {gg : Int → Int → V} {m n : Int} (h : Q (gg m n) H) : rI0 gg (.int m) (.int n) H Q := ⟨m, n, rfl, rfl, h⟩
theorem r_U {gg : Int → V} {m : Int} (h : Q (gg m) H) : rU gg (.int m) H Q := ⟨m, rfl, h⟩
theorem dec_ii {m n : Int} : decide (V.int m = V.int n) = decide (m = n) := by simp
theorem dec_bb {m n : Bool} : decide (V.bl m = V.bl n) = decide (m = n) := by simp
theorem dec_ss {m n : Str} : decide (V.str m = V.str n) = decide (m = n) := by simp
theorem r_eqI {m n : Int} (h : Q (.bl (decide (m = n))) H) : rEq (.int m) (.int n) H Q := ⟨rfl, by rw [dec_ii]; exact h⟩
theorem r_neI {m n : Int} (h : Q (.bl (!decide (m = n))) H) : rNe (.int m) (.int n) H Q := ⟨rfl, by rw [dec_ii]; exact h⟩
theorem r_eqB {m n : Bool} (h : Q (.bl (decide (m = n))) H) : rEq (.bl m) (.bl n) H Q := ⟨rfl, by rw [dec_bb]; exact h⟩
theorem r_neB {m n : Bool} (h : Q (.bl (!decide (m = n))) H) : rNe (.bl m) (.bl n) H Q := ⟨rfl, by rw [dec_bb]; exact h⟩
theorem r_eqS {m n : Str} (h : Q (.bl (decide (m = n))) H) : rEq (.str m) (.str n) H Q := ⟨rfl, by rw [dec_ss]; exact h⟩
theorem r_neS {m n : Str} (h : Q (.bl (!decide (m = n))) H) : rNe (.str m) (.str n) H Q := ⟨rfl, by rw [dec_ss]; exact h⟩
def rTupN (Q : VK) (xs : List V) (H1 : Hp) : Prop := xs.length ≤ sizeLine ∧ ∀ p, H1 p = none → Q (.ref p) (upd H1 p (.tup xs))
def rLstN (Q : VK) (xs : List V) (H1 : Hp) : Prop := xs.length ≤ sizeLine ∧ ∀ p, H1 p = none → Q (.ref p) (upd H1 p (.lst xs))
theorem r_isB {m n : Bool} (h : Q (.bl (decide (m = n))) H) : rIsB (.bl m) (.bl n) H Q := ⟨m, n, rfl, rfl, h⟩
theorem r_notB {m n : Bool} (h : Q (.bl (!decide (m = n))) H) : rNotB (.bl m) (.bl n) H Q := ⟨m, n, rfl, rfl, h⟩
theorem r_tup {ta : TA} (h : ta σ H (rTupN Q)) : tTup ta σ H Q := h
theorem r_lst {ta : TA} (h : ta σ H (rLstN Q)) : tLst ta σ H Q := h
/-! new things that stay -/
section
variable {B : Hp} {L : List Cell} {xs ys : List V}
theorem d_tup (w : W B L H) (hl : xs.length ≤ sizeLine) (q : ∀ p B' H', H p = none → Same B B' → B' p = some (.tup xs) → W B' L H' → Q (.ref p) H') : rTupN Q xs H :=
  ⟨hl, fun p hp => q p _ _ hp (same_new (w.freeB hp)) upd_same (w.newB hp _)⟩
theorem d_lst (w : W B L H) (hl : xs.length ≤ sizeLine) (q : ∀ p B' H', H p = none → Same B B' → B' p = some (.lst xs) → W B' L H' → Q (.ref p) H') : rLstN Q xs H :=
  ⟨hl, fun p hp => q p _ _ hp (same_new (w.freeB hp)) upd_same (w.newB hp _)⟩
theorem d_dnew (w : W B L H) (q : ∀ p B' H', H p = none → Same B B' → B' p = some (.dK []) → W B' L H' → Q (.ref p) H') : tDNewK σ H Q :=
  fun p hp => q p _ _ hp (same_new (w.freeB hp)) upd_same (w.newB hp _)
theorem d_cat {a b : Addr} (w : W B L H) (h1 : H a = some (.lst xs)) (h2 : H b = some (.lst ys)) (hl : xs.length + ys.length ≤ sizeLine)
    (q : ∀ p B' H', H p = none → Same B B' → B' p = some (.lst (xs ++ ys)) → W B' L H' → Q (.ref p) H') : rCat (.ref a) (.ref b) H Q :=
  ⟨a, b, xs, ys, rfl, rfl, h1, h2, hl, fun p hp => q p _ _ hp (same_new (w.freeB hp)) upd_same (w.newB hp _)⟩
theorem d_slL {a : Addr} {lo hi : Option Int} (w : W B L H) (h : SqL K H a xs) (q : ∀ p B' H', H p = none → Same B B' → B' p = some (.lst (cutV xs lo hi)) → W B' L H' → Q (.ref p) H') : rSlL K (.ref a) lo hi H Q :=
  ⟨a, xs, rfl, h, fun p hp => q p _ _ hp (same_new (w.freeB hp)) upd_same (w.newB hp _)⟩
/-! new things that are owned -/
theorem o_lst (w : W B L H) (hl : xs.length ≤ sizeLine) (q : ∀ p H', H p = none → W B ((p, .lst xs) :: L) H' → Q (.ref p) H') : rLstN Q xs H :=
  ⟨hl, fun p hp => q p _ hp (w.newL hp _)⟩
theorem o_dnew (w : W B L H) (q : ∀ p H', H p = none → W B ((p, .dK []) :: L) H' → Q (.ref p) H') : tDNewK σ H Q :=
  fun p hp => q p _ hp (w.newL hp _)
end
section
variable {r1 r2 r3 r4 : R2} {t1 t2 t3 t4 t5 : TE}
end
/-! branches -/
theorem br {p : Prop} [Decidable p] (h1 : p → A) (h2 : ¬ p → C) : Br (decide p) A C := by
  unfold Br
  by_cases h : p
  · rw [if_pos (decide_eq_true h)]; exact h1 h
  · rw [if_neg (by simp [h])]; exact h2 h
theorem brN {p : Prop} [Decidable p] (h1 : ¬ p → A) (h2 : p → C) : Br (!decide p) A C := by
  unfold Br
  by_cases h : p
  · rw [if_neg (by simp [h])]; exact h2 h
  · rw [if_pos (by simp [h])]; exact h1 h
theorem br_pt {p : Prop} [Decidable p] (c : p) (h : A) : Br (decide p) A C := br (fun _ => h) fun n => (n c).elim
theorem br_pf {p : Prop} [Decidable p] (c : ¬ p) (h : C) : Br (decide p) A C := br (fun n => (c n).elim) fun _ => h
theorem br_nt {p : Prop} [Decidable p] (c : ¬ p) (h : A) : Br (!decide p) A C := brN (fun _ => h) fun n => (c n).elim
theorem br_nf {p : Prop} [Decidable p] (c : p) (h : C) : Br (!decide p) A C := brN (fun n => (n c).elim) fun _ => h
theorem brB (h1 : b = true → A) (h2 : b = false → C) : Br b A C := by
  unfold Br
  cases b
  · rw [if_neg (by simp)]; exact h2 rfl
  · rw [if_pos rfl]; exact h1 rfl
theorem brBN (h1 : b = false → A) (h2 : b = true → C) : Br (!b) A C := by
  cases b
  · exact brB (fun _ => h1 rfl) (fun z => nomatch z)
  · exact brB (fun z => nomatch z) (fun _ => h2 rfl)
theorem brT (h : A) : Br true A C := by unfold Br; rw [if_pos rfl]; exact h
theorem brF (h : C) : Br false A C := by unfold Br; rw [if_neg (by simp)]; exact h
theorem br_rn {p : Addr} (h : C) : Br (decide (V.ref p = V.non)) A C := br_pf nofun h
theorem br_in {n : Int} (h : C) : Br (decide (V.int n = V.non)) A C := br_pf nofun h
theorem br_sn {n : Str} (h : C) : Br (decide (V.str n = V.non)) A C := br_pf nofun h
theorem br_nn (h : A) : Br (decide (V.non = V.non)) A C := br_pt rfl h
theorem brN_rn {p : Addr} (h : A) : Br (!decide (V.ref p = V.non)) A C := br_nt nofun h
theorem brN_in {n : Int} (h : A) : Br (!decide (V.int n = V.non)) A C := br_nt nofun h
theorem brN_sn {n : Str} (h : A) : Br (!decide (V.str n = V.non)) A C := br_nt nofun h
theorem brN_nn (h : C) : Br (!decide (V.non = V.non)) A C := br_nf rfl h
theorem brNT (h : C) : Br (!true) A C := brF h
theorem brNF (h : A) : Br (!false) A C := brT h
theorem br_t (e : b = true) (h : A) : Br b A C := by rw [e]; exact brT h
theorem br_f (e : b = false) (h : C) : Br b A C := by rw [e]; exact brF h
end
/-! ### loops, by the turn -/
def FOR (J : It) (g : TG) (tb : TS) (D : Ends) (σ : L2.St) (H1 : Hp) : Prop := ∃ W : Nat → Nat → L2.St → Hp → Prop, (∃ m, W 0 m σ H1) ∧ ∀ i m σ H, W i m σ H →
  (J.stop i H ∧ D.nx σ H) ∨ (J.go i H ∧ ∃ N : L2.St → Hp → Prop, (∀ σ' H', N σ' H' → ∃ m', m' < m ∧ W (i + 1) m' σ' H') ∧ ∀ x H', J.yld i H x H' → g x σ H' fun σ2 H2 => tb { D with nx := N, ct := N, bk := D.nx } σ2 H2)
section
variable {K : PySem.W.Frag} {σ : L2.St} {H : Hp} {D : Ends} {tb : TS} {g : TG} {wi : TI} {R : It → Hp → Prop}
theorem g_for (h : wi σ H fun J H1 => FOR J g tb D σ H1) : tFor wi g tb D σ H := h
def rRng1 (R : It → Hp → Prop) (vs : List V) (H1 : Hp) : Prop := ∃ j : Int, vs = [.int j] ∧ -(2 ^ 62) ≤ j ∧ j < 2 ^ 62 ∧ R (Itr 0 j.toNat) H1
def rRng2 (R : It → Hp → Prop) (vs : List V) (H1 : Hp) : Prop := ∃ i j : Int, vs = [.int i, .int j] ∧ (-(2 ^ 62) ≤ i ∧ i < 2 ^ 62 ∧ -(2 ^ 62) ≤ j ∧ j < 2 ^ 62) ∧ R (Itr i (j - i).toNat) H1
def rIl (K : PySem.W.Frag) (R : It → Hp → Prop) (x : V) (H1 : Hp) : Prop := ∃ a, x = .ref a ∧ (∃ xs, SqL K H1 a xs) ∧ R (Itl K a) H1
def rIt (K : PySem.W.Frag) (R : It → Hp → Prop) (x : V) (H1 : Hp) : Prop := ∃ a, x = .ref a ∧ (∃ xs, SqT K H1 a xs) ∧ R (Itt K a) H1
theorem g_rng1 {ta : TA} (h : ta σ H (rRng1 R)) : iRng1 ta σ H R := h
theorem g_rng2 {ta : TA} (h : ta σ H (rRng2 R)) : iRng2 ta σ H R := h
theorem g_ilist {tl : TE} (h : tl σ H (rIl K R)) : iList K tl σ H R := h
theorem g_itup {tl : TE} (h : tl σ H (rIt K R)) : iTup K tl σ H R := h
theorem r_rng1 {m : Int} (h : -(2 ^ 62) ≤ m ∧ m < 2 ^ 62) (q : R (Itr 0 m.toNat) H) : rRng1 R [.int m] H := ⟨m, rfl, h.1, h.2, q⟩
theorem r_rng2 {i j : Int} (h : -(2 ^ 62) ≤ i ∧ i < 2 ^ 62 ∧ -(2 ^ 62) ≤ j ∧ j < 2 ^ 62) (q : R (Itr i (j - i).toNat) H) : rRng2 R [.int i, .int j] H := ⟨i, j, rfl, h, q⟩
theorem r_il {a : Addr} {xs : List V} (h : SqL K H a xs) (q : R (Itl K a) H) : rIl K R (.ref a) H := ⟨a, rfl, ⟨xs, h⟩, q⟩
theorem r_it {a : Addr} {xs : List V} (h : SqT K H a xs) (q : R (Itt K a) H) : rIt K R (.ref a) H := ⟨a, rfl, ⟨xs, h⟩, q⟩
/-- a loop over lo, lo + 1, .. -/
theorem FOR.range {lo : Int} {n : Nat} (Pv : Nat → L2.St → Hp → Prop) (h0 : Pv 0 σ H)
    (hs : ∀ i σ H, i < n → Pv i σ H → g (.int (lo + i)) σ H fun σ2 H2 => tb { D with nx := Pv (i + 1), ct := Pv (i + 1), bk := D.nx } σ2 H2) (hd : ∀ σ H, Pv n σ H → D.nx σ H) : FOR (Itr lo n) g tb D σ H :=
  for_range Pv h0 hs hd
theorem FOR.list {a : Addr} {xs : List V} (Pv : Nat → L2.St → Hp → Prop) (h0 : Pv 0 σ H) (hl : ∀ i σ H, i ≤ xs.length → Pv i σ H → SqL K H a xs)
    (hs : ∀ i x σ H, xs[i]? = some x → Pv i σ H → g x σ H fun σ2 H2 => tb { D with nx := Pv (i + 1), ct := Pv (i + 1), bk := D.nx } σ2 H2) (hd : ∀ σ H, Pv xs.length σ H → D.nx σ H) : FOR (Itl K a) g tb D σ H :=
  for_list Pv h0 hl hs hd
theorem FOR.tup {a : Addr} {xs : List V} (Pv : Nat → L2.St → Hp → Prop) (h0 : Pv 0 σ H) (hl : ∀ i σ H, i ≤ xs.length → Pv i σ H → SqT K H a xs)
    (hs : ∀ i x σ H, xs[i]? = some x → Pv i σ H → g x σ H fun σ2 H2 => tb { D with nx := Pv (i + 1), ct := Pv (i + 1), bk := D.nx } σ2 H2) (hd : ∀ σ H, Pv xs.length σ H → D.nx σ H) : FOR (Itt K a) g tb D σ H :=
  for_tup Pv h0 hl hs hd
end
def LC (J : It) (D : Addr) (g : TG) (tt : TT) (te : TE) (vs : List Nat) (σ : L2.St) (H1 : Hp) (Q : VK) : Prop := ∃ W : Nat → Nat → Hp → Prop, (∃ m, W 0 m (upd H1 D (.lst []))) ∧ ∀ i m H, W i m H →
  (J.stop i H ∧ Q (.ref D) H) ∨ (J.go i H ∧ ∃ Nx : Hp → Prop, (∀ H', Nx H' → ∃ m', m' < m ∧ W (i + 1) m' H') ∧ ∀ x H', J.yld i H x H' → g x (wipe σ vs) H' fun σ2 H2 => wipe σ2 vs = wipe σ vs ∧ tt σ2 H2 fun b H3 =>
    if b = true then te σ2 H3 fun y H4 => ∃ acc, H4 D = some (.lst acc) ∧ acc.length < sizeLine ∧ Nx (upd H4 D (.lst (acc ++ [y]))) else Nx H3)
/-- what an element's making asks: the items so far stand at D, one more comes -/
def rAcc (D : Addr) (Nx : Hp → Prop) (y : V) (H4 : Hp) : Prop := ∃ acc, H4 D = some (.lst acc) ∧ acc.length < sizeLine ∧ Nx (upd H4 D (.lst (acc ++ [y])))
theorem g_lc {wi : TI} {g : TG} {tt : TT} {te : TE} {vs : List Nat} {σ : L2.St} {H : Hp} {Q : VK} (h : wi σ H fun J H1 => ∀ D, H1 D = none → LC J D g tt te vs σ H1 Q) : tLc wi g tt te vs σ H Q := h
section
variable {K : PySem.W.Frag} {B H H1 : Hp} {L : List Cell} {D : Addr} {Q : VK} {g : TG} {tt : TT} {te : TE} {vs : List Nat} {σ : L2.St} {acc : List V} {y : V} {Nx : Hp → Prop}
theorem r_acc (w : W B ((D, .lst acc) :: L) H) (hl : acc.length < sizeLine) (h : ∀ H', W B ((D, .lst (acc ++ [y])) :: L) H' → Nx H') : rAcc D Nx y H :=
  ⟨acc, w.has _ (List.mem_cons_self ..), hl, h _ (w.put0 _)⟩
/-- a comprehension over a list of what stays: Pv i B acc, what the first i items have given -/
theorem LC.list {a : Addr} {xs : List V} (w : W B L H1) (hD : H1 D = none) (hx : SqL K B a xs) (hlen : xs.length < sizeLine) (Pv : Nat → Hp → List V → Prop) (h0 : Pv 0 B [])
    (hs : ∀ i x B' acc H (Nx : Hp → Prop), xs[i]? = some x → Same B B' → W B' ((D, .lst acc) :: L) H → Pv i B' acc → acc.length ≤ i → acc.length < sizeLine →
      (∀ B'' acc' H', Same B' B'' → W B'' ((D, .lst acc') :: L) H' → Pv (i + 1) B'' acc' → acc'.length ≤ i + 1 → Nx H') →
      g x (wipe σ vs) H fun σ2 H2 => wipe σ2 vs = wipe σ vs ∧ tt σ2 H2 fun b H3 => Br b (te σ2 H3 (rAcc D Nx)) (Nx H3))
    (hd : ∀ B' B'' acc H, Same B B'' → Same' B' B'' → B'' D = some (.lst acc) → W B'' L H → Pv xs.length B' acc → acc.length ≤ xs.length → Q (.ref D) H) : LC (Itl K a) D g tt te vs σ H1 Q := by
  refine lc_list (K := K) (a := a) (xs := xs) (fun i H => ∃ B' acc, Same B B' ∧ W B' ((D, .lst acc) :: L) H ∧ Pv i B' acc ∧ acc.length ≤ i) ⟨B, [], same_refl B, w.newL hD _, h0, Nat.le_refl _⟩
    (fun i H _ ⟨B', acc, s, w', _⟩ => Same.seq (same_trans s w'.sub) hx) ?_ (fun H ⟨B', acc, s, w', p, l⟩ => hd B' _ acc H (same_trans s (same_new (w'.out _ (List.mem_cons_self ..)))) (same_new (w'.out _ (List.mem_cons_self ..))) upd_same w'.give p l)
  rintro i x H hi ⟨B', acc, s, w', p, l⟩
  have hil := (List.getElem?_eq_some_iff.mp hi).1
  exact hs i x B' acc H _ hi s w' p l (by omega) fun B'' acc' H' s' w'' p' l' => ⟨B'', acc', same_trans s s', w'', p', l'⟩
theorem LC.range {lo : Int} {n : Nat} (w : W B L H1) (hD : H1 D = none) (hlen : n < sizeLine) (Pv : Nat → Hp → List V → Prop) (h0 : Pv 0 B [])
    (hs : ∀ (i : Nat) B' acc H (Nx : Hp → Prop), i < n → Same B B' → W B' ((D, .lst acc) :: L) H → Pv i B' acc → acc.length ≤ i → acc.length < sizeLine →
      (∀ B'' acc' H', Same B' B'' → W B'' ((D, .lst acc') :: L) H' → Pv (i + 1) B'' acc' → acc'.length ≤ i + 1 → Nx H') →
      g (.int (lo + i)) (wipe σ vs) H fun σ2 H2 => wipe σ2 vs = wipe σ vs ∧ tt σ2 H2 fun b H3 => Br b (te σ2 H3 (rAcc D Nx)) (Nx H3))
    (hd : ∀ B' B'' acc H, Same B B'' → Same' B' B'' → B'' D = some (.lst acc) → W B'' L H → Pv n B' acc → acc.length ≤ n → Q (.ref D) H) : LC (Itr lo n) D g tt te vs σ H1 Q := by
  refine lc_range (lo := lo) (n := n) (fun i H => ∃ B' acc, Same B B' ∧ W B' ((D, .lst acc) :: L) H ∧ Pv i B' acc ∧ acc.length ≤ i) ⟨B, [], same_refl B, w.newL hD _, h0, Nat.le_refl _⟩
    ?_ (fun H ⟨B', acc, s, w', p, l⟩ => hd B' _ acc H (same_trans s (same_new (w'.out _ (List.mem_cons_self ..)))) (same_new (w'.out _ (List.mem_cons_self ..))) upd_same w'.give p l)
  rintro i H hi ⟨B', acc, s, w', p, l⟩
  exact hs i B' acc H _ hi s w' p l (by omega) fun B'' acc' H' s' w'' p' l' => ⟨B'', acc', same_trans s s', w'', p', l'⟩
end
/-! ### slices, subscripts -/
def rPart (Q : Option Int → Hp → Prop) (x : V) (H : Hp) : Prop := ∃ i, x = .int i ∧ Q (some i) H
section
variable {K : PySem.W.Frag} {σ : L2.St} {H : Hp} {Q : VK} {te : TE} {tl th : TO}
theorem g_sl {r : V → Option Int → Option Int → Hp → VK → Prop} (h : te σ H fun x H1 => tl σ H1 fun l H2 => th σ H2 fun u H3 => r x l u H3 Q) : tSl r te tl th σ H Q := h
theorem g_nopart {Q : Option Int → Hp → Prop} (h : Q none H) : tNoPart σ H Q := h
theorem g_part {Q : Option Int → Hp → Prop} (h : te σ H (rPart Q)) : tPart te σ H Q := h
theorem r_part {Q : Option Int → Hp → Prop} {i : Int} (h : Q (some i) H) : rPart Q (.int i) H := ⟨i, rfl, h⟩
theorem r_slL {a : Addr} {xs : List V} {lo hi : Option Int} (h : SqL K H a xs) (q : ∀ p, H p = none → Q (.ref p) (upd H p (.lst (cutV xs lo hi)))) : rSlL K (.ref a) lo hi H Q := ⟨a, xs, rfl, h, q⟩
def cutI (ns : List Int) (lo hi : Option Int) : List Int := (ns.drop (HT.sIx ns.length 0 lo)).take (HT.sIx ns.length ns.length hi - HT.sIx ns.length 0 lo)
theorem cutV_int (ns : List Int) (lo hi : Option Int) : cutV (ns.map V.int) lo hi = (cutI ns lo hi).map V.int := by
  unfold cutV cutI
  rw [List.length_map, List.map_take, List.map_drop]
theorem cutI_len (ns : List Int) (lo hi : Option Int) : (cutI ns lo hi).length ≤ ns.length := by
  unfold cutI
  rw [List.length_take, List.length_drop]
  omega
theorem r_ixL {a : Addr} {xs : List V} {i : Int} {v : V} (h : SqL K H a xs) (e : atI xs i = some v) (q : Q v H) : rIxL K (.ref a) (.int i) H Q := ⟨a, xs, i, v, rfl, rfl, h, e, q⟩
theorem r_ixT {a : Addr} {xs : List V} {i : Int} {v : V} (h : SqT K H a xs) (e : atI xs i = some v) (q : Q v H) : rIxT K (.ref a) (.int i) H Q := ⟨a, xs, i, v, rfl, rfl, h, e, q⟩
theorem r_t0 {a : Addr} {xs : List V} {v : V} (h : SqT K H a (v :: xs)) (q : Q v H) : rIxT K (.ref a) (.int 0) H Q := by
  refine ⟨a, v :: xs, 0, v, rfl, rfl, h, ?_, q⟩
  unfold atI ixN
  rw [if_pos (by decide), if_pos (by simp only [List.length_cons]; omega)]
  rfl
theorem r_t1 {a : Addr} {xs : List V} {u v : V} (h : SqT K H a (u :: v :: xs)) (q : Q v H) : rIxT K (.ref a) (.int 1) H Q := by
  refine ⟨a, u :: v :: xs, 1, v, rfl, rfl, h, ?_, q⟩
  unfold atI ixN
  rw [if_pos (by decide), if_pos (by simp only [List.length_cons]; omega)]
  rfl
theorem r_t2 {a : Addr} {xs : List V} {u z v : V} (h : SqT K H a (u :: z :: v :: xs)) (q : Q v H) : rIxT K (.ref a) (.int 2) H Q := by
  refine ⟨a, u :: z :: v :: xs, 2, v, rfl, rfl, h, ?_, q⟩
  unfold atI ixN
  rw [if_pos (by decide), if_pos (by simp only [List.length_cons]; omega)]
  rfl
theorem getV {ns : List Int} {i : Nat} {x : V} (h : (ns.map V.int)[i]? = some x) : ∃ n, x = .int n ∧ ns[i]? = some n ∧ i < ns.length := by
  rw [List.getElem?_map] at h
  cases e : ns[i]? with
  | none => rw [e] at h; cases h
  | some n => rw [e] at h; exact ⟨n, (Option.some.inj h).symm, rfl, (List.getElem?_eq_some_iff.mp e).1⟩
end
/-! ### promises by the number of arguments -/
def Sp0 (φ : Hp → VK → XK → Prop) : Sp := fun vs H Q E => vs = [] ∧ φ H Q E
def Sp1 (φ : V → Hp → VK → XK → Prop) : Sp := fun vs H Q E => ∃ x, vs = [x] ∧ φ x H Q E
def Sp2 (φ : V → V → Hp → VK → XK → Prop) : Sp := fun vs H Q E => ∃ x y, vs = [x, y] ∧ φ x y H Q E
def Sp3 (φ : V → V → V → Hp → VK → XK → Prop) : Sp := fun vs H Q E => ∃ x y z, vs = [x, y, z] ∧ φ x y z H Q E
def Sp4 (φ : V → V → V → V → Hp → VK → XK → Prop) : Sp := fun vs H Q E => ∃ x y z u, vs = [x, y, z, u] ∧ φ x y z u H Q E
def Sp5 (φ : V → V → V → V → V → Hp → VK → XK → Prop) : Sp := fun vs H Q E => ∃ x y z u v, vs = [x, y, z, u, v] ∧ φ x y z u v H Q E
section
variable {vs : List V} {H : Hp} {Q : VK} {E : XK}
theorem sp0_len {φ} (h : Sp0 φ vs H Q E) : vs.length = 0 := by obtain ⟨rfl, _⟩ := h; rfl
theorem sp1_len {φ} (h : Sp1 φ vs H Q E) : vs.length = 1 := by obtain ⟨x, rfl, _⟩ := h; rfl
theorem sp2_len {φ} (h : Sp2 φ vs H Q E) : vs.length = 2 := by obtain ⟨x, y, rfl, _⟩ := h; rfl
theorem sp3_len {φ} (h : Sp3 φ vs H Q E) : vs.length = 3 := by obtain ⟨x, y, z, rfl, _⟩ := h; rfl
theorem sp4_len {φ} (h : Sp4 φ vs H Q E) : vs.length = 4 := by obtain ⟨x, y, z, u, rfl, _⟩ := h; rfl
theorem sp5_len {φ} (h : Sp5 φ vs H Q E) : vs.length = 5 := by obtain ⟨x, y, z, u, v, rfl, _⟩ := h; rfl
end
/-- a law's own promise -/
def spEnd (K : PySem.W.Frag) : Sp := Sp1 fun x H Q E => ∃ (a : Addr) (ns : List Int), x = .ref a ∧ SqL K H a (ns.map V.int) ∧ ns.length ≤ 63 ∧ ∀ H', Q (.bl true) H'
section
variable {P : Program} {w : World} {K : PySem.W.Frag} {mg : Str → Option Value} {base : Heap} {N : List Str} {qual : Str} {scope : Scope} {f : Addr} {cd : Value} {A : Around} {outer : List Env} {s : Shared} {H : Hp} {E : XK}
theorem pX : Passes (L2.CX P w) (cxOf (L2.CX P w) P w K mg base N qual scope f cd A outer s H E) E := passes_call (takes_of rfl rfl rfl rfl) fun _ _ _ _ h => h
theorem cx_false {l : List Env} {e : Value} {s' : Shared} (h : L2.CX P w l H s (fun _ _ _ => False) e s') : False := by
  obtain ⟨_, _, _, _, _, _, _, _, _, _, _, _, z⟩ := h
  exact z
theorem passF {X : Cx} : Passes (L2.CX P w) X (fun _ _ _ => False) := fun _ _ _ _ _ _ _ h => (cx_false h).elim
end
/-! ### union of two ways -/
theorem pe_either {X : Cx} {e : Expr} {t u : TE} (h1 : PE X e t) (h2 : PE X e u) : PE X e (fun σ H Q => t σ H Q ∨ u σ H Q) :=
  ⟨fun pins s σ H Q I h => h.elim (h1.run pins s σ H Q I) (h2.run pins s σ H Q I)⟩
/-! ### len, str, fields, methods, new instances, dicts: by names -/
def rLen (K : PySem.W.Frag) : List V → Hp → VK → Prop := fun xs H Q => ∃ p ys, xs = [.ref p] ∧ (SqL K H p ys ∨ SqT K H p ys) ∧ Q (.int ys.length) H
theorem call_lenZ {X : Cx} : CallR X (.builtin "len") (rLen X.K) := call_len_seq
def rLenStr : List V → Hp → VK → Prop := fun xs H Q => ∃ z, xs = [.str z] ∧ z.length ≤ sizeLine ∧ Q (.int z.length) H
theorem call_lenS {X : Cx} : CallR X (.builtin "len") rLenStr := call_len_str
def rLenDi : List V → Hp → VK → Prop := fun xs H Q => ∃ a kvs, xs = [V.ref a] ∧ H a = some (.dK kvs) ∧ Q (.int kvs.length) H
theorem call_lenDi {X : Cx} : CallR X (.builtin "len") rLenDi := call_lenD
def rStrI : List V → Hp → VK → Prop := fun xs H Q => ∃ i, xs = [.int i] ∧ i.natAbs.log2 < 1920 ∧ Q (.str (toString i)) H
theorem call_strI {X : Cx} : CallR X (.type "str") rStrI := call_str_int
def rIsNo : R2 := fun x y H Q => y = .non ∧ Q (.bl (decide (x = .non))) H
def rNotNo : R2 := fun x y H Q => y = .non ∧ Q (.bl (!decide (x = .non))) H
theorem op_isNo {X : Cx} : OpR X (compareOp .Is) rIsNo := op_isN
theorem op_notNo {X : Cx} : OpR X (compareOp .IsNot) rNotNo := op_notN
def rAddS : R2 := fun x y H Q => ∃ i j, x = .str i ∧ y = .str j ∧ i.length + j.length ≤ sizeLine ∧ Q (.str (i ++ j)) H
theorem op_addS {X : Cx} : OpR X (binaryOp .Add) rAddS := op_add_str
def rListOf (K : PySem.W.Frag) : List V → Hp → VK → Prop := fun xs H Q => ∃ p ys, xs = [.ref p] ∧ (SqL K H p ys ∨ SqT K H p ys) ∧ ∀ l, H l = none → Q (.ref l) (upd H l (.lst ys))
theorem call_listOf {X : Cx} : CallR X (.type "list") (rListOf X.K) := call_list_of
def rFldN (K : PySem.W.Frag) (f : Str) (Q : VK) (x : V) (H1 : Hp) : Prop := ∃ a C dx fs v, x = .ref a ∧ H1 a = some (.ins C dx fs) ∧ Cls K C ∧ NoAttr K C f ∧ fs.lookup f = some v ∧ Q v H1
def rStF (K : PySem.W.Frag) (f : Str) (P : Hp → Prop) (y x : V) (H2 : Hp) : Prop := ∃ a C dx fs, x = .ref a ∧ H2 a = some (.ins C dx fs) ∧ Cls K C ∧ NoAttr K C f ∧ fs.length < 1000 ∧ P (upd H2 a (.ins C dx (putF f y fs)))
def rMe (C : Addr) (m : Str) (P : Prop) (x : V) (H1 : Hp) : Prop := ∃ a dx fs, x = .ref a ∧ H1 a = some (.ins C dx fs) ∧ fs.lookup m = none ∧ P
def rMk (C : Addr) (sp : Sp) (dvs : List V) (E : XK) (Q : VK) (vs : List V) (H1 : Hp) : Prop := ∀ x dx, H1 x = none → H1 dx = none → dx ≠ x → sp (.ref x :: (vs ++ dvs)) (upd (upd H1 dx (.own x)) x (.ins C dx [])) (fun v H2 => v = .non ∧ Q (.ref x) H2) E
def rDIn (Q : VK) (y x : V) (H2 : Hp) : Prop := ∃ a o, x = .ref a ∧ DGet H2 a y o ∧ Q (.bl o.isSome) H2
def rDNi (Q : VK) (y x : V) (H2 : Hp) : Prop := ∃ a o, x = .ref a ∧ DGet H2 a y o ∧ Q (.bl (!o.isSome)) H2
def rDGe (Q : VK) (x y : V) (H2 : Hp) : Prop := ∃ a v, x = .ref a ∧ DGet H2 a y (some v) ∧ Q v H2
def rDPu (P : Hp → Prop) (v x y : V) (H3 : Hp) : Prop := ∃ a H4, x = .ref a ∧ DPut H3 a y v H4 ∧ P H4
def rDPo (Q : VK) (x y : V) (H2 : Hp) : Prop := ∃ kvs k v, ∃ a, x = .ref a ∧ H2 a = some (.dK kvs) ∧ y = kV k ∧ valV kvs k = some v ∧ Q v (upd H2 a (.dK (dropK kvs k)))
section
variable {K : PySem.W.Frag} {σ : L2.St} {H : Hp} {Q : VK} {ta tb tv td ty : TE} {t : TA} {D : Ends} {f m : Str} {a p C dx : Addr} {fs : List (Str × V)} {v x y : V} {xs : List V} {sp : Sp} {dvs : List V} {E : XK} {P : Hp → Prop} {R : Prop} {i : Int} {z u : Str} {kvs : List (Key × V)} {n : Int}
theorem r_lenL (h : SqL K H p xs) (q : Q (.int xs.length) H) : rLen K [.ref p] H Q := ⟨p, xs, rfl, .inl h, q⟩
theorem r_lenT (h : SqT K H p xs) (q : Q (.int xs.length) H) : rLen K [.ref p] H Q := ⟨p, xs, rfl, .inr h, q⟩
theorem r_lenS (h : z.length ≤ sizeLine) (q : Q (.int z.length) H) : rLenStr [.str z] H Q := ⟨z, rfl, h, q⟩
theorem r_lenD (h : H p = some (.dK kvs)) (q : Q (.int kvs.length) H) : rLenDi [.ref p] H Q := ⟨p, kvs, rfl, h, q⟩
theorem r_strI (h : i.natAbs.log2 < 1920) (q : Q (.str (toString i)) H) : rStrI [.int i] H Q := ⟨i, rfl, h, q⟩
theorem r_isNo (q : Q (.bl (decide (x = .non))) H) : rIsNo x .non H Q := ⟨rfl, q⟩
theorem r_notNo (q : Q (.bl (!decide (x = .non))) H) : rNotNo x .non H Q := ⟨rfl, q⟩
theorem r_addS (h : z.length + u.length ≤ sizeLine) (q : Q (.str (z ++ u)) H) : rAddS (.str z) (.str u) H Q := ⟨z, u, rfl, rfl, h, q⟩
theorem g_fld (h : ta σ H (rFldN K f Q)) : tFld K ta f σ H Q := h
theorem r_fld (h : H a = some (.ins C dx fs)) (c : Cls K C) (no : NoAttr K C f) (l : fs.lookup f = some v) (q : Q v H) : rFldN K f Q (.ref a) H := ⟨a, C, dx, fs, v, rfl, h, c, no, l, q⟩
theorem g_sfld (h : tv σ H fun y H1 => ta σ H1 (rStF K f (D.nx σ) y)) : sFld K ta tv f D σ H := h
theorem r_sfld (h : H a = some (.ins C dx fs)) (c : Cls K C) (no : NoAttr K C f) (l : fs.length < 1000) (q : P (upd H a (.ins C dx (putF f y fs)))) : rStF K f P y (.ref a) H := ⟨a, C, dx, fs, rfl, h, c, no, l, q⟩
theorem g_meth (h : ta σ H fun x H1 => rMe C m (t σ H1 fun vs H2 => sp (x :: (vs ++ dvs)) H2 Q E) x H1) : tMeth C m sp dvs E ta t σ H Q := h
theorem r_meth (h : H a = some (.ins C dx fs)) (l : fs.lookup m = none) (q : R) : rMe C m R (.ref a) H := ⟨a, dx, fs, rfl, h, l, q⟩
theorem g_make (h : t σ H (rMk C sp dvs E Q)) : tMake C sp dvs E t σ H Q := h
theorem g_din (h : ty σ H fun y H1 => td σ H1 (rDIn Q y)) : tDIn ty td σ H Q := h
theorem g_dni (h : ty σ H fun y H1 => td σ H1 (rDNi Q y)) : tDNotIn ty td σ H Q := h
theorem g_dge (h : td σ H fun x H1 => ty σ H1 (rDGe Q x)) : tDGet td ty σ H Q := h
theorem g_dpu (h : tv σ H fun v H1 => td σ H1 fun x H2 => ty σ H2 (rDPu (D.nx σ) v x)) : sDPut td ty tv D σ H := h
theorem r_din (h : H a = some (.dK kvs)) (q : Q (.bl (valV kvs (Sum.inl n)).isSome) H) : rDIn Q (.int n) (.ref a) H := ⟨a, _, rfl, DGet.k (k := Sum.inl n) h, q⟩
theorem r_dni (h : H a = some (.dK kvs)) (q : Q (.bl (!(valV kvs (Sum.inl n)).isSome)) H) : rDNi Q (.int n) (.ref a) H := ⟨a, _, rfl, DGet.k (k := Sum.inl n) h, q⟩
theorem r_dge (h : H a = some (.dK kvs)) (e : valV kvs (Sum.inl n) = some v) (q : Q v H) : rDGe Q (.ref a) (.int n) H := ⟨a, v, rfl, by have := DGet.k (k := Sum.inl n) h; rw [e] at this; exact this, q⟩
theorem r_dpu (h : H a = some (.dK kvs)) (l : kvs.length < sizeLine) (q : P (upd H a (.dK (putK kvs (Sum.inl n) v)))) : rDPu P v (.ref a) (.int n) H := ⟨a, _, rfl, DPut.k (k := Sum.inl n) h l, q⟩
end
/-! ### a list of numbers, by its place -/
theorem atI_nat' {xs : List V} {i : Int} (h0 : 0 ≤ i) (h1 : i < xs.length) : atI xs i = xs[i.toNat]? := by
  unfold atI ixN
  rw [if_pos h0, if_pos h1]
  rfl
theorem atI_ex {ns : List Int} {i : Int} (h0 : 0 ≤ i) (h1 : i < ns.length) : ∃ v, v ∈ ns ∧ atI (ns.map V.int) i = some (.int v) := by
  have hl : i.toNat < ns.length := by omega
  refine ⟨ns[i.toNat], List.getElem_mem _, ?_⟩
  rw [atI_nat' h0 (by rw [List.length_map]; exact h1), List.getElem?_map, List.getElem?_eq_getElem hl]
  rfl
section
variable {K : PySem.W.Frag} {H : Hp} {σ : L2.St} {a : Addr} {u v x : V} {n : Nat} {t1 t2 t3 : TG} {Q : L2.St → Hp → Prop}
theorem g_tup2 (h : SqT K H a [u, v]) (hn : n = 2) (q : t1 u σ H fun σ' H' => t2 v σ' H' Q) : gTup K n (gCons t1 (gCons t2 gNil)) (.ref a) σ H Q :=
  ⟨a, _, rfl, h, hn.symm, u, _, rfl, (show t1 u σ H fun σ' H' => gCons t2 gNil [v] σ' H' Q from by
    have e : (fun σ' H' => gCons t2 gNil [v] σ' H' Q) = fun σ' H' => t2 v σ' H' Q := by
      funext σ' H'
      refine propext ⟨fun ⟨v', r, e, h⟩ => ?_, fun h => ⟨v, [], rfl, ?_⟩⟩
      · cases e
        have e2 : (fun σ' H' => gNil [] σ' H' Q) = Q := by funext a b; exact propext ⟨fun h => h.2, fun h => ⟨rfl, h⟩⟩
        rwa [e2] at h
      · have e2 : (fun σ' H' => gNil [] σ' H' Q) = Q := by funext a b; exact propext ⟨fun h => h.2, fun h => ⟨rfl, h⟩⟩
        rwa [e2]
    rw [e]
    exact q)⟩
end
section
variable {c : TT} {tb : TS} {D : Ends} {σ : L2.St} {H : Hp} {m : Nat}
def WhB (Pv : Nat → L2.St → Hp → Prop) (m : Nat) (tb : TS) (D : Ends) (σ : L2.St) (H1 : Hp) : Prop := ∃ N : L2.St → Hp → Prop, (∀ σ' H', N σ' H' → ∃ m', m' < m ∧ Pv m' σ' H') ∧ tb { D with nx := N, ct := N, bk := D.nx } σ H1
theorem g_while (m : Nat) (Pv : Nat → L2.St → Hp → Prop) (h0 : Pv m σ H) (hs : ∀ m σ H, Pv m σ H → c σ H fun b H1 => Br b (WhB Pv m tb D σ H1) (D.nx σ H1)) : tWhile c tb D σ H := ⟨Pv, ⟨m, h0⟩, hs⟩
theorem g_whb {Pv : Nat → L2.St → Hp → Prop} (h : tb { D with nx := fun σ' H' => ∃ m', m' < m ∧ Pv m' σ' H', ct := fun σ' H' => ∃ m', m' < m ∧ Pv m' σ' H', bk := D.nx } σ H) : WhB Pv m tb D σ H := ⟨_, fun _ _ h => h, h⟩
end
/-! ### == of data -/
theorem eqvAll_ints : ∀ ns ms : List Int, PyData.eqvAll (ns.map PyData.int) (ms.map PyData.int) = decide (ns = ms)
  | [], [] => by simp [PyData.eqvAll]
  | [], _ :: _ => by simp [PyData.eqvAll]
  | _ :: _, [] => by simp [PyData.eqvAll]
  | a :: r, b :: t => by
    simp only [List.map_cons, PyData.eqvAll, PyData.eqv, eqvAll_ints r t]
    by_cases h : a = b <;> by_cases h' : r = t <;> simp [h, h']
theorem canAll_ints : ∀ ns : List Int, PyData.canLayAll0 (ns.map PyData.int) = true
  | [] => by simp [PyData.canLayAll0]
  | _ :: r => by simp [PyData.canLayAll0, PyData.canLay0, canAll_ints r]
theorem depAll_ints : ∀ ns : List Int, PyData.depthAll (ns.map PyData.int) = 0
  | [] => by simp [PyData.depthAll]
  | _ :: r => by simp [PyData.depthAll, PyData.depth, depAll_ints r]
theorem sh_lints (ns : List Int) : SeqAt.shaped (.list (ns.map PyData.int)) = true := by simp [SeqAt.shaped, PyData.canLay0, PyData.depth, canAll_ints, depAll_ints]
theorem sh_tints (ns : List Int) : SeqAt.shaped (.tuple (ns.map PyData.int)) = true := by simp [SeqAt.shaped, PyData.canLay0, PyData.depth, canAll_ints, depAll_ints]
section
variable {K : PySem.W.Frag} {H : Hp} {Q : VK} {a b : Addr} {ns ms : List Int} {x y : V} {d : PyData}
theorem dp_ints : ∀ ns : List Int, DpAll K H (ns.map V.int) (ns.map PyData.int)
  | [] => .nil
  | _ :: r => .cons (.int _) (dp_ints r)
theorem eqv_self (h : SeqAt.shaped d = true) : PyData.eqv d d = true := SeqAt.eqv_refl d (SeqAt.canLay_of_shaped h)
theorem r_eqD (h1 : Dp K H x d) (h2 : Dp K H y d) (sh : SeqAt.shaped d = true) (q : Q (.bl true) H) : rEqD K x y H Q := ⟨d, d, h1, h2, sh, sh, by rw [eqv_self sh]; exact q⟩
theorem r_neD (h1 : Dp K H x d) (h2 : Dp K H y d) (sh : SeqAt.shaped d = true) (q : Q (.bl false) H) : rNeD K x y H Q := ⟨d, d, h1, h2, sh, sh, by rw [eqv_self sh]; exact q⟩
theorem r_eqLI (h1 : SqL K H a (ns.map V.int)) (h2 : SqL K H b (ms.map V.int)) (q : Q (.bl (decide (ns = ms))) H) : rEqD K (.ref a) (.ref b) H Q :=
  ⟨_, _, .lst h1 (dp_ints ns), .lst h2 (dp_ints ms), sh_lints ns, sh_lints ms, by rw [PyData.eqv, eqvAll_ints]; exact q⟩
theorem r_neLI (h1 : SqL K H a (ns.map V.int)) (h2 : SqL K H b (ms.map V.int)) (q : Q (.bl (!decide (ns = ms))) H) : rNeD K (.ref a) (.ref b) H Q :=
  ⟨_, _, .lst h1 (dp_ints ns), .lst h2 (dp_ints ms), sh_lints ns, sh_lints ms, by rw [PyData.eqv, eqvAll_ints]; exact q⟩
theorem r_eqTI (h1 : SqT K H a (ns.map V.int)) (h2 : SqT K H b (ms.map V.int)) (q : Q (.bl (decide (ns = ms))) H) : rEqD K (.ref a) (.ref b) H Q :=
  ⟨_, _, .tup h1 (dp_ints ns), .tup h2 (dp_ints ms), sh_tints ns, sh_tints ms, by rw [PyData.eqv, eqvAll_ints]; exact q⟩
theorem r_neTI (h1 : SqT K H a (ns.map V.int)) (h2 : SqT K H b (ms.map V.int)) (q : Q (.bl (!decide (ns = ms))) H) : rNeD K (.ref a) (.ref b) H Q :=
  ⟨_, _, .tup h1 (dp_ints ns), .tup h2 (dp_ints ms), sh_tints ns, sh_tints ms, by rw [PyData.eqv, eqvAll_ints]; exact q⟩
theorem r_eqDI (h1 : Dp K H x d) (sh : SeqAt.shaped d = true) (n : Int) (q : Q (.bl (PyData.eqv d (.int n))) H) : rEqD K x (.int n) H Q := ⟨d, _, h1, .int n, sh, rfl, q⟩
end
/-! ### isinstance -/
theorem kb_int_int : kitB "int" "int" = some true := by decide +kernel
theorem kb_int_bool : kitB "int" "bool" = some false := by decide +kernel
theorem kb_int_str : kitB "int" "str" = some false := by decide +kernel
theorem kb_int_tuple : kitB "int" "tuple" = some false := by decide +kernel
theorem kb_int_list : kitB "int" "list" = some false := by decide +kernel
theorem kb_bool_int : kitB "bool" "int" = some true := by decide +kernel
theorem kb_bool_bool : kitB "bool" "bool" = some true := by decide +kernel
theorem kb_bool_str : kitB "bool" "str" = some false := by decide +kernel
theorem kb_non_int : kitB "NoneType" "int" = some false := by decide +kernel
theorem kb_non_bool : kitB "NoneType" "bool" = some false := by decide +kernel
theorem kb_non_str : kitB "NoneType" "str" = some false := by decide +kernel
theorem kb_str_int : kitB "str" "int" = some false := by decide +kernel
theorem kb_str_bool : kitB "str" "bool" = some false := by decide +kernel
theorem kb_str_str : kitB "str" "str" = some true := by decide +kernel
theorem kb_tup_int : kitB "tuple" "int" = some false := by decide +kernel
theorem kb_tup_bool : kitB "tuple" "bool" = some false := by decide +kernel
theorem kb_tup_str : kitB "tuple" "str" = some false := by decide +kernel
theorem kb_tup_tup : kitB "tuple" "tuple" = some true := by decide +kernel
theorem kb_tup_list : kitB "tuple" "list" = some false := by decide +kernel
theorem kb_list_int : kitB "list" "int" = some false := by decide +kernel
theorem kb_list_bool : kitB "list" "bool" = some false := by decide +kernel
theorem kb_list_str : kitB "list" "str" = some false := by decide +kernel
theorem kb_list_list : kitB "list" "list" = some true := by decide +kernel
theorem kb_list_tup : kitB "list" "tuple" = some false := by decide +kernel
theorem kb_dict_int : kitB "dict" "int" = some false := by decide +kernel
theorem kb_dict_bool : kitB "dict" "bool" = some false := by decide +kernel
section
variable {K : PySem.W.Frag} {H : Hp} {Q : VK} {x : V} {t n : String} {b : Bool} {i : Int} {z : Str}
theorem r_isi (ty : TyX K H x (.type t)) (h : kitB t n = some b) (q : Q (.bl b) H) : rIsi K [x, .ty n] H Q := ⟨x, .ty n, .type t, .type n, b, rfl, .ty n, ty, kit_ty h, q⟩
theorem isi_ii (q : Q (.bl true) H) : rIsi K [.int i, .ty "int"] H Q := r_isi (.base (.int i)) kb_int_int q
theorem isi_ib (q : Q (.bl false) H) : rIsi K [.int i, .ty "bool"] H Q := r_isi (.base (.int i)) kb_int_bool q
theorem isi_bi (q : Q (.bl true) H) : rIsi K [.bl b, .ty "int"] H Q := r_isi (.base (.bl b)) kb_bool_int q
theorem isi_bb (q : Q (.bl true) H) : rIsi K [.bl b, .ty "bool"] H Q := r_isi (.base (.bl b)) kb_bool_bool q
theorem isi_ni (q : Q (.bl false) H) : rIsi K [.non, .ty "int"] H Q := r_isi (.base .non) kb_non_int q
theorem isi_si (q : Q (.bl false) H) : rIsi K [.str z, .ty "int"] H Q := r_isi (.base (.str z)) kb_str_int q
end
/-! ### names of built-ins -/
theorem bt_len : bootBuiltins "len" = some (.builtin "len") := by decide +kernel
theorem bt_isinstance : bootBuiltins "isinstance" = some (.builtin "isinstance") := by decide +kernel
theorem bt_int : bootBuiltins "int" = some (.type "int") := by decide +kernel
theorem bt_bool : bootBuiltins "bool" = some (.type "bool") := by decide +kernel
theorem bt_str : bootBuiltins "str" = some (.type "str") := by decide +kernel
theorem bt_list : bootBuiltins "list" = some (.type "list") := by decide +kernel
theorem bt_tuple : bootBuiltins "tuple" = some (.type "tuple") := by decide +kernel
theorem bt_dict : bootBuiltins "dict" = some (.type "dict") := by decide +kernel
theorem bt_min : bootBuiltins "min" = some (.builtin "min") := by decide +kernel
theorem bt_max : bootBuiltins "max" = some (.builtin "max") := by decide +kernel
theorem bt_sum : bootBuiltins "sum" = some (.builtin "sum") := by decide +kernel
theorem bt_all : bootBuiltins "all" = some (.builtin "all") := by decide +kernel
theorem bt_any : bootBuiltins "any" = some (.builtin "any") := by decide +kernel
theorem bt_sorted : bootBuiltins "sorted" = some (.builtin "sorted") := by decide +kernel
theorem bt_ValueError : bootBuiltins "ValueError" = some (.type "ValueError") := by decide +kernel
end Z

/-! Mbits: the bits of a number the other way round, in plain Lean. -/
namespace Z
open PySem PySem.W PyProof.Rows
/-- the k lowest bits of n, turned about -/
def rv : Nat → Nat → Nat
  | 0, _ => 0
  | k + 1, n => 2 * rv k n + n / 2 ^ k % 2
theorem rv_lt (k n : Nat) : rv k n < 2 ^ k := by
  induction k with
  | zero => simp [rv]
  | succ k ih => simp only [rv, Nat.pow_succ]; omega
theorem pow_pos2 (k : Nat) : 0 < 2 ^ k := Nat.pow_pos (by decide)
theorem rv_add (j k n : Nat) : rv (j + k) n = rv j n * 2 ^ k + rv k (n / 2 ^ j) := by
  induction k with
  | zero => simp [rv]
  | succ k ih =>
    have e : n / 2 ^ (j + k) = n / 2 ^ j / 2 ^ k := by rw [Nat.div_div_eq_div_mul, ← Nat.pow_add]
    show 2 * rv (j + k) n + n / 2 ^ (j + k) % 2 = _
    rw [ih, e, Nat.pow_succ]
    show _ = rv j n * (2 ^ k * 2) + (2 * rv k (n / 2 ^ j) + n / 2 ^ j / 2 ^ k % 2)
    rw [Nat.mul_add, ← Nat.mul_assoc (rv j n), Nat.mul_comm (rv j n * 2 ^ k) 2, Nat.mul_comm 2 (rv j n * 2 ^ k)]
    omega
theorem rv_one (n : Nat) : rv 1 n = n % 2 := by simp [rv]
theorem rv_succ (k n : Nat) : rv (k + 1) n = (n % 2) * 2 ^ k + rv k (n / 2) := by
  rw [Nat.add_comm k 1, rv_add, rv_one, Nat.pow_one]
theorem rv_zero (k : Nat) : rv k 0 = 0 := by
  induction k with
  | zero => rfl
  | succ k ih => simp [rv, ih]
theorem rv_congr {k a b : Nat} (h : a % 2 ^ k = b % 2 ^ k) : rv k a = rv k b := by
  induction k generalizing a b with
  | zero => rfl
  | succ k ih =>
    rw [rv_succ, rv_succ]
    have h2 : a % 2 = b % 2 := by
      have := congrArg (· % 2) h
      simp only [Nat.pow_succ, Nat.mod_mul_left_mod] at this
      exact this
    have h3 : a / 2 % 2 ^ k = b / 2 % 2 ^ k := by
      have q : ∀ x : Nat, x % 2 ^ (k + 1) / 2 = x / 2 % 2 ^ k := fun x => by
        rw [Nat.pow_succ, Nat.mul_comm, Nat.mod_mul_right_div_self]
      rw [← q a, ← q b, h]
    rw [h2, ih h3]
theorem rv_mod (k n : Nat) : rv k (n % 2 ^ k) = rv k n := rv_congr (Nat.mod_mod _ _)
theorem rv_rv (k n : Nat) : rv k (rv k n) = n % 2 ^ k := by
  induction k generalizing n with
  | zero => simp [rv, Nat.mod_one]
  | succ k ih =>
    have e : rv (k + 1) n = 2 * rv k n + n / 2 ^ k % 2 := rfl
    rw [rv_succ, e]
    have e1 : (2 * rv k n + n / 2 ^ k % 2) % 2 = n / 2 ^ k % 2 := by omega
    have e2 : (2 * rv k n + n / 2 ^ k % 2) / 2 = rv k n := by omega
    rw [e1, e2, ih, Nat.pow_succ, Nat.mod_mul]
    rw [Nat.mul_comm, Nat.add_comm]
theorem rv_bit {k d : Nat} (n : Nat) (h : d < k) : rv k n / 2 ^ (k - 1 - d) % 2 = n / 2 ^ d % 2 := by
  have e : k = (d + 1) + (k - 1 - d) := by omega
  have q : rv k n = rv (d + 1) n * 2 ^ (k - 1 - d) + rv (k - 1 - d) (n / 2 ^ (d + 1)) := by
    conv => lhs; rw [e]
    exact rv_add _ _ _
  have l := rv_lt (k - 1 - d) (n / 2 ^ (d + 1))
  rw [q, Nat.mul_comm, Nat.mul_add_div (pow_pos2 _), Nat.div_eq_of_lt l, Nat.add_zero]
  show (2 * rv d n + n / 2 ^ d % 2) % 2 = _
  omega
theorem rv_inj {k a b : Nat} (h : rv k a = rv k b) : a % 2 ^ k = b % 2 ^ k := by rw [← rv_rv, ← rv_rv, h]
/-- sixteen bits turned about -/
@[irreducible] def r16 (n : Nat) : Nat := rv 16 n
theorem r16_eq (n : Nat) : r16 n = rv 16 n := by unfold r16; rfl
theorem r16_lt (n : Nat) : r16 n < 65536 := by rw [r16_eq]; exact rv_lt 16 n
theorem r16_r16 (n : Nat) : r16 (r16 n) = n % 65536 := by rw [r16_eq, r16_eq]; exact rv_rv 16 n
/-! by the program's own operators -/
theorem bor_even (a : Int) {b : Int} (h0 : 0 ≤ b) (h1 : b ≤ 1) : Builtin.bitOr (a * 2) b = a * 2 + b := by
  have e : Builtin.bitAnd (a * 2) b = 0 := by
    rw [kbt_halves]
    have e1 : a * 2 % 2 = 0 := by omega
    have e2 : b / 2 = 0 := by omega
    rw [e1, e2]
    have e3 : Builtin.bitAnd (a * 2 / 2) 0 = 0 := by
      have := kbt_mask (a * 2 / 2) 0
      simpa using this
    rw [e3]
    simp
  have x := bitXor_and (a * 2) b
  unfold Builtin.bitXor at x
  rw [e] at x
  omega
def tnI (n : Int) : Nat → Int
  | 0 => 0
  | k + 1 => Builtin.bitOr (tnI n k * 2 ^ (1 : Int).toNat) (Builtin.bitAnd (n / 2 ^ ((0 : Int) + (k : Nat)).toNat) 1)
theorem tnI_eq (n k : Nat) : tnI (n : Int) k = (rv k n : Nat) := by
  induction k with
  | zero => rfl
  | succ k ih =>
    show Builtin.bitOr (tnI n k * 2 ^ (1 : Int).toNat) (Builtin.bitAnd ((n : Int) / 2 ^ ((0 : Int) + (k : Nat)).toNat) 1) = ((2 * rv k n + n / 2 ^ k % 2 : Nat) : Int)
    have e1 : ((0 : Int) + (k : Nat)).toNat = k := by omega
    have e2 : (1 : Int).toNat = 1 := rfl
    rw [bitAnd_m1, e1, e2, ih, Int.pow_succ, Int.pow_zero, Int.one_mul, bor_even _ (by omega) (by omega)]
    have e3 : (n : Int) / 2 ^ k = ((n / 2 ^ k : Nat) : Int) := by simp
    rw [e3]
    omega
theorem tnI_small (n : Nat) {k : Nat} (h : k ≤ 16) : (tnI (n : Int) k).natAbs < 2 ^ 64 := by
  rw [tnI_eq, Int.natAbs_natCast]
  exact Nat.lt_of_lt_of_le (rv_lt k n) (Nat.pow_le_pow_right (by decide) (by omega))
end Z
namespace Z
open PySem PySem.W PyProof.Rows
theorem r16_mod (k : Nat) : r16 (k % 65536) = r16 k := by
  rw [r16_eq, r16_eq]
  exact rv_mod 16 k
theorem and_pow (k s : Nat) : Builtin.bitAnd (k : Int) (((2 ^ s : Nat) : Int) - 1) = ((k % 2 ^ s : Nat) : Int) := by
  have h := kbt_mask (k : Int) s
  have e : ((2 ^ s : Nat) : Int) = (2 : Int) ^ s := by simp
  rw [e, h, ← e]
  simp
theorem and_mark (k : Nat) : Builtin.bitAnd (k : Int) (65536 - 1) = ((k % 65536 : Nat) : Int) := and_pow k 16
theorem pow_dvd16 {s : Nat} (h : s ≤ 16) : 2 ^ s ∣ 65536 := (Nat.pow_dvd_pow_iff_le_right (by decide : 1 < 2)).mpr h
theorem pow_mul16 {s : Nat} (h : s ≤ 16) : 2 ^ s * 2 ^ (16 - s) = 65536 := by
  rw [← Nat.pow_add, Nat.add_sub_cancel' h]
theorem mod16 {s : Nat} (k : Nat) (h : s ≤ 16) : k % 65536 % 2 ^ s = k % 2 ^ s := Nat.mod_mod_of_dvd k (pow_dvd16 h)
theorem div16 {s : Nat} (h : s ≤ 16) : 65536 / 2 ^ s = 2 ^ (16 - s) := by
  rw [← pow_mul16 h]
  exact Nat.mul_div_cancel_left _ (pow_pos2 s)
theorem pow_le16 {s : Nat} (h : s ≤ 16) : 2 ^ s ≤ 65536 := Nat.le_of_dvd (by decide) (pow_dvd16 h)
/-- a place: its block, and where in it -/
theorem r16_split {s : Nat} (k : Nat) (h : s ≤ 16) : r16 k = rv s k * 2 ^ (16 - s) + rv (16 - s) (k / 2 ^ s) := by
  rw [r16_eq]
  have := rv_add s (16 - s) k
  rwa [Nat.add_sub_cancel' h] at this
theorem r16_slot {s n : Nat} (h : s ≤ 16) (hn : n < 2 ^ s) : r16 n = rv s n * 2 ^ (16 - s) := by
  rw [r16_split n h, Nat.div_eq_of_lt hn, rv_zero, Nat.add_zero]
theorem r16_div {s : Nat} (k : Nat) (h : s ≤ 16) : r16 k / 2 ^ (16 - s) = rv s k := by
  rw [r16_split k h, Nat.mul_comm, Nat.mul_add_div (pow_pos2 _), Nat.div_eq_of_lt (rv_lt _ _), Nat.add_zero]
theorem slotAt_eq {s : Nat} (p : Nat) (h : s ≤ 16) : r16 p % 2 ^ s = rv s (p / 2 ^ (16 - s)) := by
  have e := rv_add (16 - s) s p
  rw [Nat.sub_add_cancel h] at e
  rw [r16_eq, e, Nat.mul_comm, Nat.mul_add_mod, Nat.mod_eq_of_lt (rv_lt _ _)]
/-- the place lies in the stretch of just that slot -/
theorem in_stretch {s n : Nat} (k : Nat) (h : s ≤ 16) (hn : n < 2 ^ s) : (r16 n ≤ r16 k ∧ r16 k < r16 n + 2 ^ (16 - s)) ↔ k % 2 ^ s = n := by
  have e1 := r16_split k h
  have e2 := r16_slot h hn
  have l := rv_lt (16 - s) (k / 2 ^ s)
  constructor
  · rintro ⟨h1, h2⟩
    have q : rv s k = rv s n := by
      have d := r16_div k h
      rw [← d]
      apply Nat.div_eq_of_lt_le
      · rw [← e2]; exact h1
      · rw [Nat.succ_mul, ← e2]; exact h2
    have := rv_inj q
    rwa [Nat.mod_eq_of_lt hn] at this
  · intro e
    have q : rv s k = rv s n := by rw [← e, rv_mod]
    rw [e1, e2, q]
    omega
theorem at_stretch {s n p : Nat} (h : s ≤ 16) (hn : n < 2 ^ s) (h1 : r16 n ≤ p) (h2 : p < r16 n + 2 ^ (16 - s)) : r16 p % 2 ^ s = n := by
  have e2 := r16_slot h hn
  have q : p / 2 ^ (16 - s) = rv s n := by
    apply Nat.div_eq_of_lt_le
    · rw [← e2]; exact h1
    · rw [Nat.succ_mul, ← e2]; exact h2
  rw [slotAt_eq p h, q, rv_rv, Nat.mod_eq_of_lt hn]
theorem stretch_end {s n : Nat} (h : s ≤ 16) (hn : n < 2 ^ s) : r16 n + 2 ^ (16 - s) ≤ 65536 := by
  rw [r16_slot h hn, ← pow_mul16 h]
  have := rv_lt s n
  calc rv s n * 2 ^ (16 - s) + 2 ^ (16 - s) = (rv s n + 1) * 2 ^ (16 - s) := by rw [Nat.succ_mul]
    _ ≤ 2 ^ s * 2 ^ (16 - s) := Nat.mul_le_mul_right _ this
theorem r16_inj {a b : Nat} (h : r16 a = r16 b) : a % 65536 = b % 65536 := by
  rw [r16_eq, r16_eq] at h
  exact rv_inj h
end Z
namespace Z
open PySem PySem.W PyProof.Rows
theorem and_half (b : Nat) : ∀ a : Int, 0 < b → (b : Int) ≠ 2 * Builtin.bitAnd a b := by
  induction b using Nat.strongRecOn with
  | _ b ih =>
    intro a hb e
    have hh := kbt_halves a b
    by_cases o : b % 2 = 1
    · omega
    · have e2 : ((b : Int) / 2) = ((b / 2 : Nat) : Int) := by omega
      rw [if_neg (by omega), e2] at hh
      exact ih (b / 2) (by omega) (a / 2) (by omega) (by omega)
theorem xor_other {a b : Nat} (h0 : 0 < b) (h1 : b < 65536) : ∃ m : Nat, Builtin.bitXor (a : Int) (b : Int) = (m : Int) ∧ m % 65536 ≠ a % 65536 := by
  have x := bitXor_and (a : Int) (b : Int)
  have r1 := bitAnd_range (a : Int) (y := (b : Int)) (by omega)
  have r2 := bitAnd_range (b : Int) (y := (a : Int)) (by omega)
  rw [bitAnd_comm] at r2
  have n := and_half b (a : Int) h0
  refine ⟨(Builtin.bitXor (a : Int) (b : Int)).toNat, by omega, fun h => ?_⟩
  omega
end Z
namespace Z
open PySem PySem.W PyProof.Rows
theorem pow4 (d : Nat) : (4 : Int) * 2 ^ d = ((2 ^ (d + 2) : Nat) : Int) := by
  rw [Nat.pow_add, Nat.mul_comm]; simp
theorem st_e {n s : Nat} (hs : s ≤ 16) : ((r16 n : Nat) : Int) + 65536 / ((2 ^ s : Nat) : Int) = ((r16 n + 2 ^ (16 - s) : Nat) : Int) := by
  rw [← div16 hs, Int.natCast_add, Int.natCast_ediv]; simp
theorem rv_one1 (k : Nat) : rv (k + 1) 1 = 2 ^ k := by
  rw [rv_succ]
  show 1 % 2 * 2 ^ k + rv k 0 = _
  rw [rv_zero]
  omega
theorem half_second {s n : Nat} (hs : s ≤ 15) (hn : n < 2 ^ s) : r16 (n + 2 ^ s) = r16 n + 2 ^ (16 - (s + 1)) := by
  have h : s ≤ 16 := by omega
  have e1 := r16_split (n + 2 ^ s) h
  have e2 := r16_slot h hn
  have e3 : rv s (n + 2 ^ s) = rv s n := rv_congr (Nat.add_mod_right _ _)
  have e4 : (n + 2 ^ s) / 2 ^ s = 1 := by rw [Nat.add_div_right _ (pow_pos2 s), Nat.div_eq_of_lt hn]
  have e5 : 16 - s = 16 - (s + 1) + 1 := by omega
  rw [e1, e2, e3, e4]
  congr 1
  rw [e5]
  exact rv_one1 _
theorem half_pow {s : Nat} (hs : s ≤ 15) : 2 ^ (16 - s) = 2 ^ (16 - (s + 1)) + 2 ^ (16 - (s + 1)) := by
  have e5 : 16 - s = 16 - (s + 1) + 1 := by omega
  rw [e5, Nat.pow_succ]
  omega
theorem pow_two2 (s : Nat) : (2 : Int) * ((2 ^ s : Nat) : Int) = ((2 ^ (s + 1) : Nat) : Int) := by
  rw [Nat.pow_succ]; omega
theorem rv_perm (s : Nat) : ((List.range (2 ^ s)).map (rv s)).Perm (List.range (2 ^ s)) := by
  have n1 : ((List.range (2 ^ s)).map (rv s)).Nodup := by
    refine List.pairwise_map.mpr (List.Pairwise.imp_of_mem ?_ List.nodup_range)
    intro a b ha hb hne h
    have := rv_inj h
    rw [Nat.mod_eq_of_lt (List.mem_range.mp ha), Nat.mod_eq_of_lt (List.mem_range.mp hb)] at this
    exact hne this
  refine (List.perm_ext_iff_of_nodup n1 List.nodup_range).mpr fun x => ?_
  rw [List.mem_range, List.mem_map]
  constructor
  · rintro ⟨y, _, rfl⟩
    exact rv_lt s y
  · intro h
    exact ⟨rv s x, List.mem_range.mpr (rv_lt s x), by rw [rv_rv, Nat.mod_eq_of_lt h]⟩
theorem sorted_places {s : Nat} (hs : s ≤ 16) {l : List Int} (hp : l.Perm ((List.range (2 ^ s)).map fun i => ((r16 i : Nat) : Int))) (ho : l.Pairwise (· ≤ ·)) :
    l = (List.range (2 ^ s)).map fun i => ((i * 2 ^ (16 - s) : Nat) : Int) := by
  have e : ((List.range (2 ^ s)).map fun i => ((r16 i : Nat) : Int)) = ((List.range (2 ^ s)).map (rv s)).map fun i => ((i * 2 ^ (16 - s) : Nat) : Int) := by
    rw [List.map_map]
    refine List.map_congr_left fun i hi => ?_
    show ((r16 i : Nat) : Int) = ((rv s i * 2 ^ (16 - s) : Nat) : Int)
    rw [r16_slot hs (List.mem_range.mp hi)]
  rw [e] at hp
  have hp2 := hp.trans ((rv_perm s).map _)
  refine List.Perm.eq_of_pairwise (le := (· ≤ ·)) (fun a b _ _ h1 h2 => Int.le_antisymm h1 h2) ho ?_ hp2
  refine List.pairwise_map.mpr ((List.pairwise_lt_range).imp fun {a b} h => ?_)
  have : a * 2 ^ (16 - s) ≤ b * 2 ^ (16 - s) := Nat.mul_le_mul_right _ (Nat.le_of_lt h)
  omega
theorem r16_at {s p : Nat} (hs : s ≤ 16) (hp : p < 65536) : r16 (r16 p % 2 ^ s) = p / 2 ^ (16 - s) * 2 ^ (16 - s) := by
  have l : p / 2 ^ (16 - s) < 2 ^ s := (Nat.div_lt_iff_lt_mul (pow_pos2 _)).mpr (by rw [pow_mul16 hs]; exact hp)
  rw [r16_slot hs (Nat.mod_lt _ (pow_pos2 s)), slotAt_eq p hs, rv_rv, Nat.mod_eq_of_lt l]
theorem next_slot {s n : Nat} (hs : s ≤ 16) (hn : n < 2 ^ s) (h : r16 n + 2 ^ (16 - s) < 65536) : r16 (r16 (r16 n + 2 ^ (16 - s)) % 2 ^ s) = r16 n + 2 ^ (16 - s) := by
  rw [r16_at hs h, r16_slot hs hn]
  have e : rv s n * 2 ^ (16 - s) + 2 ^ (16 - s) = (rv s n + 1) * 2 ^ (16 - s) := by rw [Nat.succ_mul]
  rw [e, Nat.mul_div_cancel _ (pow_pos2 _)]
theorem prev_slot {s n : Nat} (hs : s ≤ 16) (hn : n < 2 ^ s) (h : 0 < r16 n) : r16 (r16 (r16 n - 1) % 2 ^ s) + 2 ^ (16 - s) = r16 n := by
  have l := r16_lt n
  rw [r16_at hs (by omega)]
  rw [r16_slot hs hn] at h ⊢
  have hw := pow_pos2 (16 - s)
  generalize 2 ^ (16 - s) = w at h hw ⊢
  cases e : rv s n with
  | zero => rw [e] at h; simp at h
  | succ q =>
    have e2 : (q + 1) * w - 1 = q * w + (w - 1) := by rw [Nat.succ_mul]; omega
    rw [e2, Nat.mul_comm q w, Nat.mul_add_div hw, Nat.div_eq_of_lt (by omega), Nat.add_zero, Nat.succ_mul]
theorem pow_split {s g : Nat} (hs : s ≤ g) (hg : g ≤ 16) : 2 ^ (16 - s) = 2 ^ (g - s) * 2 ^ (16 - g) := by
  rw [← Nat.pow_add]
  congr 1
  omega
theorem sub_stretch {s g n m : Nat} (hs : s ≤ g) (hg : g ≤ 16) (hm : m < 2 ^ g) (hn : n < 2 ^ s) (hmn : m % 2 ^ s = n) : r16 n ≤ r16 m ∧ r16 m + 2 ^ (16 - g) ≤ r16 n + 2 ^ (16 - s) := by
  have h := (in_stretch m (show s ≤ 16 by omega) hn).mpr hmn
  refine ⟨h.1, ?_⟩
  have h2 := h.2
  rw [r16_slot hg hm, r16_slot (show s ≤ 16 by omega) hn, pow_split hs hg] at h2 ⊢
  have hv := pow_pos2 (16 - g)
  generalize 2 ^ (16 - g) = v at h2 hv ⊢
  rw [← Nat.mul_assoc, ← Nat.add_mul] at h2 ⊢
  have h3 := Nat.lt_of_mul_lt_mul_right h2
  have h4 : (rv g m + 1) * v ≤ (rv s n * 2 ^ (g - s) + 2 ^ (g - s)) * v := Nat.mul_le_mul_right v h3
  rwa [Nat.succ_mul] at h4
theorem slot_mono {s a b : Nat} (hs : s ≤ 16) (h : r16 a ≤ r16 b) : r16 (a % 2 ^ s) ≤ r16 (b % 2 ^ s) := by
  rw [r16_slot hs (Nat.mod_lt _ (pow_pos2 s)), r16_slot hs (Nat.mod_lt _ (pow_pos2 s)), rv_mod, rv_mod, ← r16_div a hs, ← r16_div b hs]
  exact Nat.mul_le_mul_right _ (Nat.div_le_div_right h)
theorem mod_mod_pow {s g : Nat} (k : Nat) (hs : s ≤ g) : k % 2 ^ g % 2 ^ s = k % 2 ^ s := Nat.mod_mod_of_dvd k ((Nat.pow_dvd_pow_iff_le_right (by decide : 1 < 2)).mpr hs)
/-- the j-th slot of the greater row in a stretch -/
theorem inner_slot {s g n j : Nat} (hs : s ≤ g) (hg : g ≤ 16) (hn : n < 2 ^ s) (hj : j < 2 ^ (g - s)) :
    r16 (r16 n + j * 2 ^ (16 - g)) % 2 ^ g % 2 ^ s = n ∧ r16 (r16 (r16 n + j * 2 ^ (16 - g)) % 2 ^ g) = r16 n + j * 2 ^ (16 - g) := by
  have e := pow_split hs hg
  have hv := pow_pos2 (16 - g)
  have l : (j + 1) * 2 ^ (16 - g) ≤ 2 ^ (g - s) * 2 ^ (16 - g) := Nat.mul_le_mul_right _ hj
  rw [Nat.succ_mul] at l
  have se := stretch_end (show s ≤ 16 by omega) hn
  rw [e] at se
  constructor
  · rw [mod_mod_pow _ hs]
    exact at_stretch (by omega) hn (by omega) (by rw [e]; omega)
  · rw [r16_at hg (by omega), r16_slot (show s ≤ 16 by omega) hn, e, ← Nat.mul_assoc, ← Nat.add_mul, Nat.mul_div_cancel _ hv]
end Z

/-! Z2: rules of my own: chains of three and four, d.update(e). -/
namespace Z
open PySem PySem.Spec PyProof.Rows L2
section
variable {X : Cx} {a b c d f : Expr} {ta tb tc td tf : TE} {pos : Pos} {pins : List (Addr × Obj)} {σ : L2.St} {H : Hp}
def tLink (r : R2) (y : V) (tc : TE) (nxt : V → L2.St → Hp → VK → Prop) : V → L2.St → Hp → VK → Prop := fun x σ H Q => r x y H fun z H3 => rTst z H3 fun k H4 => Br k (tc σ H4 fun w H5 => nxt w σ H5 Q) (Q (.bl false) H4)
def tChain3 (r r' r'' : R2) (ta tb tc td : TE) : TE := fun σ H Q => ta σ H fun x H1 => tb σ H1 fun y H2 => r x y H2 fun z H3 => rTst z H3 fun k H4 => Br k (tc σ H4 fun z' H5 => r' y z' H5 fun u H6 => rTst u H6 fun k' H7 => Br k' (td σ H7 fun w' H8 => r'' z' w' H8 Q) (Q (.bl false) H7)) (Q (.bl false) H4)
theorem pe_chain3 {op op' op'' : CmpOp} {r r' r'' : R2} (ho : OpR X (compareOp op) r) (ho' : OpR X (compareOp op') r') (ho'' : OpR X (compareOp op'') r'') (ha : PE X a ta) (hb : PE X b tb) (hc : PE X c tc) (hd : PE X d td)
    (hm : lastMarks [op, op', op''] [b, c, d] = false := by with_unfolding_all rfl) : PE X (.Compare a [op, op', op''] [b, c, d] pos) (tChain3 r r' r'' ta tb tc td) := by
  refine ⟨fun pins s σ H Q I h => ?_⟩
  refine Compare_chain (thn (ha.run pins s σ H _ I h) fun v s1 ⟨x, H1, I1, r1, q1⟩ => chain_link (thn (hb.run pins s1 σ H1 _ I1 q1) fun u s2 ⟨y, H2, I2, r2, q2⟩ =>
    thn (ho pins s2 σ H2 x y v u _ I2 r1 r2 q2) fun d s3 ⟨z, H3, I3, r3, k, e, q3⟩ => ?_)) hm
  subst e
  cases r3
  refine wpAny_truthy_bool ?_
  unfold Br at q3
  cases k with
  | false => exact ite_ff ⟨.bl false, H3, I3, rfl, q3⟩
  | true =>
    refine ite_tt (chain_link (thn (hc.run pins s3 σ H3 _ I3 q3) fun w' s4 ⟨z', H4, I4, r4, q4⟩ => thn (ho' pins s4 σ H4 y z' u w' _ I4 r2 r4 q4) fun d' s5 ⟨u2, H5, I5, r5, k2, e2, q5⟩ => ?_))
    subst e2
    cases r5
    refine wpAny_truthy_bool ?_
    cases k2 with
    | false => exact ite_ff ⟨.bl false, H5, I5, rfl, q5⟩
    | true => exact ite_tt (chain_last (thn (hd.run pins s5 σ H5 _ I5 q5) fun w2 s6 ⟨z2, H6, I6, r6, q6⟩ => ho'' pins s6 σ H6 z' z2 w' w2 Q I6 r4 r6 q6))
def tChain4 (r1 r2 r3 r4 : R2) (ta tb tc td tf : TE) : TE := fun σ H Q => ta σ H fun x H1 => tb σ H1 fun y H2 => r1 x y H2 fun z H3 => rTst z H3 fun k H4 => Br k (tc σ H4 fun z' H5 => r2 y z' H5 fun u H6 => rTst u H6 fun k' H7 => Br k' (td σ H7 fun w' H8 => r3 z' w' H8 fun u H6 => rTst u H6 fun k' H7 => Br k' (tf σ H7 fun w2 H8 => r4 w' w2 H8 Q) (Q (.bl false) H7)) (Q (.bl false) H7)) (Q (.bl false) H4)
theorem pe_chain4 {o1 o2 o3 o4 : CmpOp} {q1 q2 q3 q4 : R2} (h1 : OpR X (compareOp o1) q1) (h2 : OpR X (compareOp o2) q2) (h3 : OpR X (compareOp o3) q3) (h4 : OpR X (compareOp o4) q4) (ha : PE X a ta) (hb : PE X b tb) (hc : PE X c tc) (hd : PE X d td) (hf : PE X f tf)
    (hm : lastMarks [o1, o2, o3, o4] [b, c, d, f] = false := by with_unfolding_all rfl) : PE X (.Compare a [o1, o2, o3, o4] [b, c, d, f] pos) (tChain4 q1 q2 q3 q4 ta tb tc td tf) := by
  refine ⟨fun pins s σ H Q I h => ?_⟩
  refine Compare_chain (thn (ha.run pins s σ H _ I h) fun v s1 ⟨x, H1, I1, r1, q1⟩ => chain_link (thn (hb.run pins s1 σ H1 _ I1 q1) fun u s2 ⟨y, H2, I2, r2, q2⟩ =>
    thn (h1 pins s2 σ H2 x y v u _ I2 r1 r2 q2) fun d s3 ⟨z, H3, I3, r3, k, e, q3⟩ => ?_)) hm
  subst e
  cases r3
  refine wpAny_truthy_bool ?_
  unfold Br at q3
  cases k with
  | false => exact ite_ff ⟨.bl false, H3, I3, rfl, q3⟩
  | true =>
    refine ite_tt (chain_link (thn (hc.run pins s3 σ H3 _ I3 q3) fun w' s4 ⟨z', H4, I4, r4, q4⟩ => thn (h2 pins s4 σ H4 y z' u w' _ I4 r2 r4 q4) fun d' s5 ⟨u2, H5, I5, r5, k2, e2, q5⟩ => ?_))
    subst e2
    cases r5
    refine wpAny_truthy_bool ?_
    cases k2 with
    | false => exact ite_ff ⟨.bl false, H5, I5, rfl, q5⟩
    | true =>
      refine ite_tt (chain_link (thn (hd.run pins s5 σ H5 _ I5 q5) fun w2 s6 ⟨z2, H6, I6, r6, q6⟩ => thn (h3 pins s6 σ H6 z' z2 w' w2 _ I6 r4 r6 q6) fun d' s7 ⟨u2, H7, I7, r7, k2, e2, q7⟩ => ?_))
      subst e2
      cases r7
      refine wpAny_truthy_bool ?_
      cases k2 with
      | false => exact ite_ff ⟨.bl false, H7, I7, rfl, q7⟩
      | true => exact ite_tt (chain_last (thn (hf.run pins s7 σ H7 _ I7 q7) fun w3 s8 ⟨z3, H8, I8, r8, q8⟩ => h4 pins s8 σ H8 z2 z3 w2 w3 Q I8 r6 r8 q8))
end
section
variable {σ : L2.St} {H : Hp} {Q : VK} {r1 r2 r3 r4 : R2} {ta tb tc td tf : TE}
theorem g_chain3 (h : ta σ H fun x H1 => tb σ H1 fun y H2 => r1 x y H2 fun z H3 => rTst z H3 fun k H4 => Br k (tc σ H4 fun z' H5 => r2 y z' H5 fun u H6 => rTst u H6 fun k' H7 => Br k' (td σ H7 fun w' H8 => r3 z' w' H8 Q) (Q (.bl false) H7)) (Q (.bl false) H4)) : tChain3 r1 r2 r3 ta tb tc td σ H Q := h
theorem g_chain4 (h : ta σ H fun x H1 => tb σ H1 fun y H2 => r1 x y H2 fun z H3 => rTst z H3 fun k H4 => Br k (tc σ H4 fun z' H5 => r2 y z' H5 fun u H6 => rTst u H6 fun k' H7 => Br k' (td σ H7 fun w' H8 => r3 z' w' H8 fun u H6 => rTst u H6 fun k' H7 => Br k' (tf σ H7 fun w2 H8 => r4 w' w2 H8 Q) (Q (.bl false) H7)) (Q (.bl false) H7)) (Q (.bl false) H4)) : tChain4 r1 r2 r3 r4 ta tb tc td tf σ H Q := h
end
section
variable {X : Cx}
def rUpd : V → List V → Hp → VK → Prop := fun x vs H Q => ∃ a b kvs more, x = .ref a ∧ vs = [.ref b] ∧ b ≠ a ∧ H a = some (.dK kvs) ∧ H b = some (.dK more) ∧ kvs.length + more.length ≤ sizeLine ∧ Q .non (upd H a (.dK (mergeK kvs more)))
theorem mt_update : MtR X "dict.update" rUpd := by
  intro pins s σ H x vs v us Q I rx rv h
  obtain ⟨a, b, kvs, more, rfl, rfl, hab, hA, hB, hz, q⟩ := h
  cases rx
  obtain ⟨u, rfl, ru⟩ := vals1 rv
  cases ru
  obtain ⟨z, hd, vs, rel, dd⟩ := dk_of I.hok hA
  obtain ⟨z2, hd2, vs2, rel2, dd2⟩ := dk_of I.hok hB
  refine call_meetsIn PySem.F.slot_dict_update dd.typeIs PySem.F.entry_dict_update (PySem.F.args_dict_update_2 _ _) (meets_dict_update (mixKind X.prog X.w) a b (Ne.symm hab) hd2)
    ⟨vs, vs2, dd, dd2, by rw [← rel.length, ← rel2.length]; exact hz, fun h' dd' _ hs => ?_⟩
  have he : ∃ q, h'.get? a = some q := let ⟨q, _, _, hq, _⟩ := dd'; ⟨q, hq⟩
  refine ⟨.non, _, d_write (t' := s.toks) I (by rw [hA]; exact True.intro) hs he (dk_new (Nat.le_trans (length_mergeK more kvs) hz) hd (rel2.merge rel) dd'), rfl, q⟩
end
end Z

/-! Z3: sorted of pairs of ints. -/
namespace Z
open PySem PySem.Spec PyProof.Rows L2
def pairOf (B : Hp) (p : Addr) : Int × Int := match B p with | some (.tup [.int i, .int j]) => (i, j) | _ => (0, 0)
theorem pairOf_eq {B : Hp} {p : Addr} {i j : Int} (h : B p = some (.tup [.int i, .int j])) : pairOf B p = (i, j) := by unfold pairOf; rw [h]
def vAd : V → Addr | .ref a => a | _ => 0
def rSortP (K : PySem.W.Frag) : List V → Hp → VK → Prop := rSortedPO K
theorem call_sortP {X : Cx} : CallR X (.builtin "sorted") (rSortP X.K) := cr_sortedPO
theorem refs_of : ∀ {ys : List V}, (∀ y ∈ ys, ∃ p, y = V.ref p) → ∃ qs : List Addr, ys = qs.map V.ref
  | [], _ => ⟨[], rfl⟩
  | y :: ys, h => by
    obtain ⟨p, rfl⟩ := h y (List.mem_cons_self ..)
    obtain ⟨qs, rfl⟩ := refs_of fun z hz => h z (List.mem_cons_of_mem _ hz)
    exact ⟨p :: qs, rfl⟩
theorem map_ref_perm {ps qs : List Addr} (h : (ps.map V.ref).Perm (qs.map V.ref)) : ps.Perm qs := by
  have := h.map vAd
  rwa [List.map_map, List.map_map, show (vAd ∘ V.ref) = id from rfl, List.map_id, List.map_id] at this
theorem r_sortP {K : PySem.W.Frag} {B H : Hp} {L : List Cell} {a : Addr} {ps : List Addr} {Q : VK} (w : W B L H) (h : SqL K B a (ps.map V.ref)) (hp : ∀ p ∈ ps, ∃ i j, B p = some (.tup [.int i, .int j]))
    (q : ∀ (p : Addr) (B' H' : Hp) (qs : List Addr), Same B B' → qs.Perm ps → (qs.map fun p => (pairOf B p).1).Pairwise (· ≤ ·) → qs.Pairwise (fun x y => ¬ ((pairOf B y).1 < (pairOf B x).1 ∨ ((pairOf B y).1 = (pairOf B x).1 ∧ (pairOf B y).2 < (pairOf B x).2))) → B' p = some (.lst (qs.map V.ref)) → W B' L H' → Q (.ref p) H') : rSortP K [.ref a] H Q := by
  refine ⟨a, ps.map V.ref, fun v => pairOf B (vAd v), rfl, w.sq h, fun x hx => ?_, fun ys p hs hb hn => ?_⟩
  · obtain ⟨t, ht, rfl⟩ := List.mem_map.mp hx
    obtain ⟨i, j, e⟩ := hp t ht
    refine ⟨t, rfl, ?_⟩
    show H t = some (.tup [.int (pairOf B t).1, .int (pairOf B t).2])
    rw [pairOf_eq e]
    exact w.rd e
  · obtain ⟨qs, rfl⟩ := refs_of (ys := ys) fun y hy => by
      obtain ⟨t, _, e⟩ := List.mem_map.mp (hb.perm.mem_iff.mp hy)
      exact ⟨t, e.symm⟩
    have pm := map_ref_perm hb.perm
    have pw : qs.Pairwise (fun x y => ¬ ((pairOf B y).1 < (pairOf B x).1 ∨ ((pairOf B y).1 = (pairOf B x).1 ∧ (pairOf B y).2 < (pairOf B x).2))) := by
      have := List.pairwise_map.mp hs
      exact this.imp fun {x y} hxy => SrtO.lexB_no.mp hxy
    refine q p _ _ qs (same_new (w.freeB hn)) pm (List.pairwise_map.mpr (pw.imp fun {x y} hxy => by omega)) pw upd_same (w.newB hn _)
end Z

/-! Z4: sorted of tuples (int, data), like ints ahead of like data. -/
namespace SrtO
open PySem PyProof.Rows Srt
section
variable {prog : Program} {w : World} {A : Around} {s : Shared}
def IsPD (h : Heap) (v : Value) (x : Int) (d : PyData) : Prop := ∃ a o t n u as, v = .ref a ∧ h.get? a = some o ∧ o.cls = .type "tuple" ∧ o.data = .seq #[.int x t, u] n ∧ Reads h u d as
theorem pd_firsts {h : Heap} : ∀ {vs : List Value}, (∀ v ∈ vs, ∃ x d, IsPD h v x d) → ∃ fs : List Value, PySem.W.KatTups h vs fs ∧ fs.length = vs.length ∧ ∀ f ∈ fs, ∃ x t, f = Value.int x t
  | [], _ => ⟨[], PySem.W.KatTups.nil, rfl, fun _ hm => by simp at hm⟩
  | v :: vs, hp => by
    obtain ⟨fs, h1, h2, h3⟩ := pd_firsts (vs := vs) fun v' hm => hp v' (List.mem_cons_of_mem _ hm)
    obtain ⟨x, d, a, o, t, n, u, as, e, ho, hc, hd, _⟩ := hp v (List.mem_cons_self ..)
    subst e
    refine ⟨.int x t :: fs, PySem.W.KatTups.cons ho hc hd rfl h1, by rw [List.length_cons, List.length_cons, h2], fun f hm => ?_⟩
    rcases List.mem_cons.mp hm with rfl | hm
    · exact ⟨x, t, rfl⟩
    · exact h3 f hm
theorem pd_swo (k : Value → Int) : Swo fun v u => decide (k v < k u) := by
  refine ⟨fun x y h => ?_, fun x y z h1 h2 => ?_⟩
  · rw [decide_eq_true_eq] at h
    rw [decide_eq_false_iff_not]
    omega
  · rw [decide_eq_false_iff_not] at h1 h2 ⊢
    omega
theorem pd_cmp {vs : List Value} {k : Value → Int} {g : Value → PyData} (hp : ∀ v ∈ vs, IsPD s.heap v (k v) (g v)) (hg : ∀ v ∈ vs, (g v).canLay0 = true ∧ (g v).depth ≤ 8) (hu : A.units + 8 < cLine) (heq : ∀ v ∈ vs, ∀ u ∈ vs, k v = k u → g v = g u) :
    Cmp prog w A s (tuples' true) (fun p => p.1 ∈ vs) (lt2 fun v u => decide (k v < k u)) := by
  intro p q hm hm'
  have h1 := hp _ hm
  have h2 := hp _ hm'
  have g1 := hg _ hm
  have g2 := hg _ hm'
  have g3 := heq _ hm _ hm'
  show wpAny (model prog w) A (keyLt' (tuples' true) p.1 q.1) (fun r s' => s' = s ∧ r = decide (k p.1 < k q.1)) (fun _ _ => False) s
  generalize k p.1 = x at h1 g3 ⊢
  generalize k q.1 = x' at h2 g3 ⊢
  generalize g p.1 = d at h1 g1 g3
  generalize g q.1 = d' at h2 g2 g3
  obtain ⟨a, o, t, n, u, as, e, ho, hc, hd, r1⟩ := h1
  obtain ⟨a', o', t', n', u', as', e', ho', hc', hd', r2⟩ := h2
  rw [e, e']
  refine PySem.W.kat_lt ho hd ho' hd' ?_
  show PySem.W.KatLex prog w A true (decide (2 < 2)) _ [(.int x t, .int x' t'), (u, u')] 0 s
  refine PySem.W.kat_cons (SeqAt.EqAt.int_int x t x' t' prog w _ _ ?_)
  refine PySem.W.kat_go (fun e1 => ?_) (fun e1 => ?_)
  · have ex : x = x' := by simpa using e1
    have ed := g3 ex
    subst ed
    refine PySem.W.kat_yes (PySem.W.kat_cons (SeqAt.eqAt_reads d d A s u u' as as' r1 r2 g1.1 g1.1 (by have := g1.2; omega) prog w _ _ ?_))
    rw [SeqAt.eqv_refl d g1.1]
    exact PySem.W.kat_yes (PySem.W.kat_nil ⟨rfl, (decide_eq_false (by omega)).symm⟩)
  · exact PySem.W.kat_no (oneLt_int ⟨rfl, rfl⟩)
def IsPT (h : Heap) (v : Value) (x y z : Int) : Prop := ∃ a o t n u, v = .ref a ∧ h.get? a = some o ∧ o.cls = .type "tuple" ∧ o.data = .seq #[.int x t, u] n ∧ Srt.IsPair h u y z
theorem pair_reads {h : Heap} {u : Value} {y z : Int} (p : Srt.IsPair h u y z) : ∃ as, Reads h u (.tuple [.int y, .int z]) as := by
  obtain ⟨a, o, t, u, n, rfl, ho, hc, hd⟩ := p
  exact ⟨_, Reads.tuple ho hc hd (.cons (.int _ _) (.cons (.int _ _) .nil))⟩
theorem IsPT.pd {h : Heap} {v : Value} {x y z : Int} (p : IsPT h v x y z) : IsPD h v x (.tuple [.int y, .int z]) := by
  obtain ⟨a, o, t, n, u, e, ho, hc, hd, q⟩ := p
  obtain ⟨as, r⟩ := pair_reads q
  exact ⟨a, o, t, n, u, as, e, ho, hc, hd, r⟩
theorem IsPT.keeps {h h' : Heap} {v : Value} {x y z : Int} (p : IsPT h v x y z) (kp : ∀ b o, h.get? b = some o → o.cls = .type "tuple" → h'.get? b = some o) : IsPT h' v x y z := by
  obtain ⟨a, o, t, n, u, e, ho, hc, hd, q⟩ := p
  exact ⟨a, o, t, n, u, e, kp _ _ ho hc, hc, hd, q.keeps kp⟩
theorem sorted_pt {l : Addr} {vs : List Value} {k : Value → Int} {g : Value → Int × Int} {E : Value → Shared → Prop} {Q : Value → Shared → Prop} (hl : s.heap.IsList l vs.toArray) (hz : vs.length ≤ sizeLine) (hp : ∀ v ∈ vs, IsPT s.heap v (k v) (g v).1 (g v).2)
    (hu : A.units + 20 < cLine) (heq : ∀ v ∈ vs, ∀ u ∈ vs, k v = k u → g v = g u)
    (h : ∀ (h' : Heap) (d : Addr) (out : List Value), Srtd (fun v u => decide (k v < k u)) out → Stb (fun v u => decide (k v < k u)) out vs → (∀ b o, s.heap.get? b = some o → h'.get? b = some o) → s.heap.objs.size ≤ d → (∃ n, h'.get? d = some (seqObj "list" out.toArray n)) → Q (.ref d) { s with heap := h' }) :
    wpAny (model prog w) A (call (.builtin "sorted") [.ref l]) Q E s := by
  refine sorted_ord (pd_swo k) hl hz (fun h2 h₁ a ha kk => ?_) fun out hs hb => ?_
  · intro h' keep
    have hp' : ∀ v ∈ vs, IsPT h' v (k v) (g v).1 (g v).2 := fun v hm => (hp v hm).keeps fun b o e c => keep b o (fun z => by
      subst z
      have e' : some o = some (seqObj "list" vs.toArray 0) := ((kk b o e).2.symm.trans ha)
      cases e'
      exact absurd (Value.type.inj c) (by decide)) (kk b o e).2
    obtain ⟨fs, h1, h2', h3⟩ := pd_firsts fun v hm => ⟨_, _, (hp' v hm).pd⟩
    refine ⟨tuples' true, fun Q E hq => ?_, pd_cmp (s := { s with heap := h' }) (g := fun v => .tuple [.int (g v).1, .int (g v).2]) (fun v hm => (hp' v hm).pd) (fun v _ => by simp [PyData.canLay0, PyData.canLayAll0, PyData.depth, PyData.depthAll]) (by simp only [Around.in1_units]; omega) fun v hv u hu e => by rw [heq v hv u hu e]⟩
    refine PySem.W.kat_kind (T := .type "int") h1 (by omega) (fun f hm => ?_) (by rfl) ?_
    · obtain ⟨x, t, rfl⟩ := h3 f hm
      exact PySem.W.Looks.now
    · have e : (Value.type "int" != Value.type "tuple") = true := by first | decide +kernel | rfl | decide
      rw [e]
      exact hq
  · exact h _ _ out hs hb (fun b o e => sortedAll_old e) (Nat.le_succ _) (sortedAll_at s.heap vs out.toArray)
end
end SrtO

namespace Z
open PySem PySem.Spec PyProof.Rows L2
/-- sorted(xs), xs a list of (int, (int, int)), like first ones having like seconds -/
def rSortT (K : PySem.W.Frag) : List V → Hp → VK → Prop := fun vs H Q => ∃ (a : Addr) (xs : List V) (k : V → Int) (g : V → Int × Int), vs = [V.ref a] ∧ SqL K H a xs ∧
  (∀ x ∈ xs, ∃ t q, x = V.ref t ∧ H t = some (.tup [.int (k x), .ref q]) ∧ H q = some (.tup [.int (g x).1, .int (g x).2])) ∧ (∀ x ∈ xs, ∀ y ∈ xs, k x = k y → g x = g y) ∧
  ∀ ys p, SrtO.Srtd (fun x y => decide (k x < k y)) ys → ys.Perm xs → H p = none → Q (.ref p) (upd H p (.lst ys))
theorem call_sortT {X : Cx} (hu : X.A.units + 64 < cLine) : CallR X (.builtin "sorted") (rSortT X.K) := by
  intro pins s σ H vs us Q I r h
  obtain ⟨a, xs, k, g, rfl, hs, hx, heq, q⟩ := h
  obtain ⟨its, rv, hl, hz⟩ := I.list hs
  obtain ⟨u, rfl, ru⟩ := vals1 r
  obtain rfl : u = Value.ref a := ru
  obtain ⟨e1, e2⟩ := refs_back rv fun x m => by
    obtain ⟨t, q, e, _⟩ := hx x m
    exact ⟨t, e⟩
  have hin : ∀ v ∈ its, backV v ∈ xs := fun v hv => by rw [e1]; exact List.mem_map.mpr ⟨_, hv, rfl⟩
  refine SrtO.sorted_pt (k := fun u => k (backV u)) (g := fun u => g (backV u)) hl.isList (by rw [← rv.length]; exact hz) (fun v hv => ?_) (by omega) (fun v hv u hu e => heq _ (hin v hv) _ (hin u hu) e) fun h' d out h1 h2 kp hd hn => ?_
  · obtain ⟨t, rfl⟩ := e2 v hv
    obtain ⟨t', q', e, ht, hq⟩ := hx _ (hin _ hv)
    cases e
    obtain ⟨_, its2, r2, o, ho, hc, n, hd⟩ := I.hok _ _ ht
    obtain ⟨u1, u2, rfl, ri, rj⟩ := vals2 r2
    obtain ⟨t1, rfl⟩ := ri
    cases rj
    obtain ⟨_, its3, r3, o3, ho3, hc3, n3, hd3⟩ := I.hok _ _ hq
    obtain ⟨u1, u2, rfl, ri, rj⟩ := vals2 r3
    obtain ⟨t3, rfl⟩ := ri
    obtain ⟨t4, rfl⟩ := rj
    exact ⟨t, o, t1, n, _, rfl, ho, hc, hd, q', o3, t3, t4, n3, rfl, ho3, hc3, hd3⟩
  · have h3 : ∀ u ∈ out, ∃ a, u = Value.ref a := fun u hu => e2 u (h2.perm.mem_iff.mp hu)
    obtain ⟨n, hn⟩ := hn
    have hb : (out.map backV).Perm xs := by rw [e1]; exact h2.perm.map backV
    have hn1 : H d = none := I.hok.fresh hd
    have I2 : Inv X pins σ (upd H d (.lst (out.map backV))) { s with heap := h' } := I.laid (t' := s.toks) kp hd ⟨by rw [hb.length_eq]; exact hz, out, n, vals_back h3, hn⟩
    exact ⟨.ref d, _, I2, rfl, q _ d (SrtO.srtd_map h1) hb hn1⟩
def ptK (B : Hp) (v : V) : Int := match B (vAd v) with | some (.tup [.int i, .ref _]) => i | _ => 0
def ptG (B : Hp) (v : V) : Int × Int := match B (vAd v) with | some (.tup [.int _, .ref q]) => pairOf B q | _ => (0, 0)
theorem ptK_eq {B : Hp} {t q : Addr} {i : Int} (h : B t = some (.tup [.int i, .ref q])) : ptK B (.ref t) = i := by unfold ptK; show (match B t with | some (.tup [.int i, .ref _]) => i | _ => 0) = i; rw [h]
theorem ptG_eq {B : Hp} {t q : Addr} {i x y : Int} (h : B t = some (.tup [.int i, .ref q])) (h2 : B q = some (.tup [.int x, .int y])) : ptG B (.ref t) = (x, y) := by
  unfold ptG
  show (match B t with | some (.tup [.int _, .ref q]) => pairOf B q | _ => (0, 0)) = _
  rw [h]
  exact pairOf_eq h2
theorem r_sortT {K : PySem.W.Frag} {B H : Hp} {L : List Cell} {a : Addr} {xs : List V} {Q : VK} {f : Nat → Nat} {g : Nat → Int × Int} (w : W B L H) (h : SqL K B a xs)
    (hx : ∀ x ∈ xs, ∃ (t q : Addr) (key : Nat), x = .ref t ∧ B t = some (.tup [.int (f key : Nat), .ref q]) ∧ B q = some (.tup [.int (g key).1, .int (g key).2])) (hg : ∀ k1 k2, f k1 = f k2 → g k1 = g k2)
    (q : ∀ (p : Addr) (B' H' : Hp) (ys : List V), Same B B' → ys.Perm xs → ys.Pairwise (fun x y => ptK B x ≤ ptK B y) → B' p = some (.lst ys) → W B' L H' → Q (.ref p) H') : rSortT K [.ref a] H Q := by
  refine ⟨a, xs, ptK B, ptG B, rfl, w.sq h, fun x hm => ?_, fun x hm y hm2 e => ?_, fun ys p hs hp hn => ?_⟩
  · obtain ⟨t, q, key, rfl, e1, e2⟩ := hx x hm
    refine ⟨t, q, rfl, ?_, ?_⟩
    · rw [ptK_eq e1]; exact w.rd e1
    · rw [ptG_eq e1 e2]; exact w.rd e2
  · obtain ⟨t, q, key, rfl, e1, e2⟩ := hx x hm
    obtain ⟨t', q', key', rfl, e1', e2'⟩ := hx y hm2
    rw [ptK_eq e1, ptK_eq e1'] at e
    rw [ptG_eq e1 e2, ptG_eq e1' e2']
    exact hg key key' (by omega)
  · refine q p _ _ ys (same_new (w.freeB hn)) hp (hs.imp fun {x y} hxy => ?_) upd_same (w.newB hn _)
    have := of_decide_eq_false hxy
    omega
end Z

open PySem L2 Z
local macro_rules | `(tactic| wtm_at "side") => `(tactic| first | with_reducible assumption | omega | (show _ ∨ _; omega) | (show _ ∧ _; omega) | decide | with_reducible rfl | exact ⟨by decide, by decide, by decide⟩ | (refine ⟨?_, ?_, ?_⟩ <;> first | decide | omega | with_reducible assumption) | (refine ⟨?_, ?_⟩ <;> first | decide | omega | with_reducible assumption))
local macro_rules | `(tactic| wtm_at "mem") => `(tactic| first | with_reducible exact List.mem_cons_self .. | (with_reducible refine List.mem_cons_of_mem _ ?_; wtm_at "mem") | (with_reducible refine List.mem_append_left _ ?_; wtm_at "mem") | (with_reducible refine List.mem_append_right _ ?_; wtm_at "mem") | with_reducible assumption)
local macro_rules | `(tactic| wtm_at "rd") => `(tactic| first | with_reducible assumption | (with_reducible refine' W.get ?wtW ?wtQ; (case wtW => with_reducible assumption); (case wtQ => wtm_at "mem")) | (with_reducible refine' W.rd ?wtW ?wtQ; (case wtW => with_reducible assumption); (case wtQ => wtm_at "rd")) | (with_reducible refine' Z.Same.rd ?wtW ?wtQ; (case wtW => with_reducible assumption); (case wtQ => wtm_at "rd")))
local macro_rules | `(tactic| wtm_at "sq") => `(tactic| first | with_reducible assumption | (with_reducible refine SqL.of ?_; wtm_at "rd") | (with_reducible refine SqT.of ?_; wtm_at "rd") | (with_reducible refine' W.sq ?wtW ?wtQ; (case wtW => with_reducible assumption); (case wtQ => wtm_at "sq")) | (with_reducible refine' Z.Same.sq ?wtW ?wtQ; (case wtW => with_reducible assumption); (case wtQ => wtm_at "sq")) | (with_reducible refine' W.tq ?wtW ?wtQ; (case wtW => with_reducible assumption); (case wtQ => wtm_at "sq")) | (with_reducible refine' Z.Same.tq ?wtW ?wtQ; (case wtW => with_reducible assumption); (case wtQ => wtm_at "sq")))
local macro_rules | `(tactic| wtm_at "s0") => `(tactic| first
  | with_reducible refine g_seq ?_
  | with_reducible refine g_asg ?_
  | with_reducible refine g_name ?_
  | ((with_reducible refine' g_var ?gvE ?gvH); (case gvE => exact rfl))
  | with_reducible refine g_c ?_
  | with_reducible refine g_op ?_
  | with_reducible refine r_I0 ?_
  | ((with_reducible refine r_I ?gvE ?gvH); (case gvE => wtm_at "side"))
  | with_reducible refine g_test ?_
  | with_reducible refine g_tst ?_
  | with_reducible refine g_tB ?_
  | with_reducible refine r_eqI ?_
  | with_reducible refine r_neI ?_
  | with_reducible refine g_cons ?_
  | with_reducible refine g_nil ?_
  | with_reducible refine g_cb ?_
  | with_reducible refine g_call ?_
  | with_reducible refine g_ret ?_
  | with_reducible refine g_retN ?_
  | with_reducible refine g_next ?_
  | with_reducible refine g_un ?_
  | with_reducible refine r_U ?_
  | with_reducible refine g_chain ?_
  | with_reducible refine g_and ?_
  | with_reducible refine g_or ?_
  | with_reducible refine g_not ?_
  | with_reducible refine g_andV ?_
  | with_reducible refine g_orV ?_
  | with_reducible refine g_notV ?_
  | with_reducible refine g_if ?_
  | with_reducible refine brT ?_
  | with_reducible refine brF ?_
  | with_reducible refine brNT ?_
  | with_reducible refine brNF ?_
  | with_reducible refine br_rn ?_
  | with_reducible refine br_in ?_
  | with_reducible refine br_sn ?_
  | with_reducible refine br_nn ?_
  | with_reducible refine brN_rn ?_
  | with_reducible refine brN_in ?_
  | with_reducible refine brN_sn ?_
  | with_reducible refine brN_nn ?_
  | ((with_reducible refine br_pt ?gvE ?gvH); (case gvE => first | with_reducible assumption | omega | with_reducible rfl | (simp only [List.length_cons, List.length_nil]; done) | (simp only [List.length_cons, List.length_nil]; omega) | decide))
  | ((with_reducible refine br_pf ?gvE ?gvH); (case gvE => first | with_reducible assumption | omega | (simp only [List.length_cons, List.length_nil]; done) | (simp only [List.length_cons, List.length_nil]; omega) | decide))
  | ((with_reducible refine br_nt ?gvE ?gvH); (case gvE => first | with_reducible assumption | omega | (simp only [List.length_cons, List.length_nil]; done) | (simp only [List.length_cons, List.length_nil]; omega) | decide))
  | ((with_reducible refine br_nf ?gvE ?gvH); (case gvE => first | with_reducible assumption | omega | with_reducible rfl | (simp only [List.length_cons, List.length_nil]; done) | (simp only [List.length_cons, List.length_nil]; omega) | decide))
  | with_reducible refine isi_ii ?_
  | with_reducible refine isi_ib ?_
  | with_reducible refine isi_bi ?_
  | with_reducible refine isi_bb ?_
  | with_reducible refine isi_ni ?_
  | with_reducible refine isi_si ?_
  | with_reducible refine r_tup ?_
  | with_reducible refine r_lst ?_
  | with_reducible refine g_lc ?_
  | with_reducible refine g_for ?_
  | with_reducible refine g_rng1 ?_
  | with_reducible refine g_rng2 ?_
  | with_reducible refine g_ilist ?_
  | with_reducible refine g_itup ?_
  | ((with_reducible refine r_rng1 ?gvE ?gvH); (case gvE => wtm_at "side"))
  | ((with_reducible refine r_rng2 ?gvE ?gvH); (case gvE => wtm_at "side"))
  | with_reducible refine g_sl ?_
  | with_reducible refine g_nopart ?_
  | with_reducible refine g_part ?_
  | with_reducible refine r_part ?_
  | with_reducible refine g_fld ?_
  | with_reducible refine g_sfld ?_
  | with_reducible refine g_meth ?_
  | with_reducible refine g_make ?_
  | with_reducible refine g_din ?_
  | with_reducible refine g_dni ?_
  | with_reducible refine g_dge ?_
  | with_reducible refine g_dpu ?_
  | with_reducible refine r_isNo ?_
  | with_reducible refine r_notNo ?_
  | ((with_reducible refine' r_t0 ?gvE ?gvH); (case gvE => wtm_at "sq"))
  | ((with_reducible refine' r_t1 ?gvE ?gvH); (case gvE => wtm_at "sq"))
  | ((with_reducible refine' r_t2 ?gvE ?gvH); (case gvE => wtm_at "sq"))
  | ((with_reducible refine' g_tup2 ?gvE ?gvN ?gvH); (case gvE => wtm_at "sq"); (case gvN => rfl))
  | with_reducible refine g_dropE ?_
  | ((with_reducible refine' g_aug ?gvE ?gvH); (case gvE => exact rfl))
  | with_reducible refine g_ip ?_
  | with_reducible refine g_whb ?_
  | with_reducible refine g_yes ?_
  | with_reducible refine g_brk ?_
  | with_reducible refine g_cont ?_
  | with_reducible refine r_isB ?_
  | with_reducible refine r_notB ?_
  | with_reducible refine r_eqB ?_
  | with_reducible refine r_neB ?_
  | with_reducible refine r_eqS ?_
  | with_reducible refine r_neS ?_)
local macro_rules | `(tactic| wtm_at "s") => `(tactic| first | wtm_at "s0" | with_reducible refine g_ifS ?_)
/-! as far as it goes by itself; g0: up to the next if; br: either way -/
local macro_rules | `(tactic| wtm_at "g0") => `(tactic| repeat (wtm_at "s0"))
local macro_rules | `(tactic| wtm_at "br") => `(tactic| with_reducible first | refine br ?_ ?_ | refine brN ?_ ?_ | refine brB ?_ ?_ | refine brBN ?_ ?_)
local macro_rules | `(tactic| wtm_at "go") => `(tactic| repeat (wtm_at "s"))

namespace Toy
open PySem L2 Z
def top (i : Nat) : Stmt := PySem.Challenge.pw_staywalk_k06_whole_rows_within_rows.main.body.getD i (.Pass ⟨0, 0, 0, 0⟩)
abbrev s__law_cell_at : Stmt := top 10
abbrev n__law_cell_at : List Str := ["_law_script", "_law_k"]
theorem sc__law_cell_at : FnScope n__law_cell_at ["_law_script", "_law_k"] (defScope s__law_cell_at) := ⟨rfl, rfl, rfl, by decide +kernel, rfl, by decide +kernel, by decide +kernel⟩
abbrev s_turned : Stmt := top 3
abbrev n_turned : List Str := ["number", "found", "k"]
theorem sc_turned : FnScope n_turned ["number"] (defScope s_turned) := ⟨rfl, rfl, rfl, by decide +kernel, rfl, by decide +kernel, by decide +kernel⟩
abbrev s_slot_at : Stmt := top 8
abbrev n_slot_at : List Str := ["place", "size"]
theorem sc_slot_at : FnScope n_slot_at ["place", "size"] (defScope s_slot_at) := ⟨rfl, rfl, rfl, by decide +kernel, rfl, by decide +kernel, by decide +kernel⟩
abbrev s_stretch_of : Stmt := top 7
abbrev n_stretch_of : List Str := ["slot", "size", "low"]
theorem sc_stretch_of : FnScope n_stretch_of ["slot", "size"] (defScope s_stretch_of) := ⟨rfl, rfl, rfl, by decide +kernel, rfl, by decide +kernel, by decide +kernel⟩
abbrev s__law_inside : Stmt := top 12
abbrev n__law_inside : List Str := ["_law_slot", "_law_size", "_law_great", "_law_low", "_law_high", "_law_place", "_law_many", "_law_found"]
theorem sc__law_inside : FnScope n__law_inside ["_law_slot", "_law_size", "_law_great"] (defScope s__law_inside) := ⟨rfl, rfl, rfl, by decide +kernel, rfl, by decide +kernel, by decide +kernel⟩
abbrev s__law_key : Stmt := top 11
abbrev n__law_key : List Str := ["_law_cell"]
theorem sc__law_key : FnScope n__law_key ["_law_cell"] (defScope s__law_key) := ⟨rfl, rfl, rfl, by decide +kernel, rfl, by decide +kernel, by decide +kernel⟩
abbrev s_mark_of : Stmt := top 4
abbrev n_mark_of : List Str := ["key"]
theorem sc_mark_of : FnScope n_mark_of ["key"] (defScope s_mark_of) := ⟨rfl, rfl, rfl, by decide +kernel, rfl, by decide +kernel, by decide +kernel⟩
abbrev s_place_of : Stmt := top 5
abbrev n_place_of : List Str := ["key"]
theorem sc_place_of : FnScope n_place_of ["key"] (defScope s_place_of) := ⟨rfl, rfl, rfl, by decide +kernel, rfl, by decide +kernel, by decide +kernel⟩
abbrev s_slot_of : Stmt := top 6
abbrev n_slot_of : List Str := ["key", "size"]
theorem sc_slot_of : FnScope n_slot_of ["key", "size"] (defScope s_slot_of) := ⟨rfl, rfl, rfl, by decide +kernel, rfl, by decide +kernel, by decide +kernel⟩
abbrev s__law_key_within : Stmt := top 13
abbrev n__law_key_within : List Str := ["_law_key_here", "_law_size", "_law_great", "_law_slot", "_law_fine", "_law_low", "_law_high", "_law_first", "_law_last"]
theorem sc__law_key_within : FnScope n__law_key_within ["_law_key_here", "_law_size", "_law_great"] (defScope s__law_key_within) := ⟨rfl, rfl, rfl, by decide +kernel, rfl, by decide +kernel, by decide +kernel⟩
abbrev s__law_order : Stmt := top 14
abbrev n__law_order : List Str := ["_law_keys", "_law_size", "_law_rows", "_law_k", "_law_key_here"]
theorem sc__law_order : FnScope n__law_order ["_law_keys", "_law_size"] (defScope s__law_order) := ⟨rfl, rfl, rfl, by decide +kernel, rfl, by decide +kernel, by decide +kernel⟩
abbrev s_law : Stmt := top 15
abbrev n_law : List Str := ["_law_script", "_law_step", "_law_size", "_law_great", "_law_keys", "_law_key_here", "_law_spot", "_law_cell"]
theorem sc_law : FnScope n_law ["_law_script"] (defScope s_law) := ⟨rfl, rfl, rfl, by decide +kernel, rfl, by decide +kernel, by decide +kernel⟩
structure Ad where
  a__law_cell_at : Addr
  d__law_cell_at : FuncData
  a_turned : Addr
  d_turned : FuncData
  a_slot_at : Addr
  d_slot_at : FuncData
  a_stretch_of : Addr
  d_stretch_of : FuncData
  a__law_inside : Addr
  d__law_inside : FuncData
  a__law_key : Addr
  d__law_key : FuncData
  a_mark_of : Addr
  d_mark_of : FuncData
  a_place_of : Addr
  d_place_of : FuncData
  a_slot_of : Addr
  d_slot_of : FuncData
  a__law_key_within : Addr
  d__law_key_within : FuncData
  a__law_order : Addr
  d__law_order : FuncData
  a_law : Addr
  d_law : FuncData
  t_BITS : Tok
  t_PLACES : Tok
structure Txt (K : PySem.W.Frag) (mg : Str → Option Value) (D : Ad) : Prop where
  F__law_cell_at : Fun K "_law_cell_at" "_law_cell_at" s__law_cell_at D.a__law_cell_at D.d__law_cell_at
  b__law_cell_at : Binds K D.d__law_cell_at ["_law_script", "_law_k"] []
  g__law_cell_at : mg "_law_cell_at" = some (.ref D.a__law_cell_at)
  F_turned : Fun K "turned" "turned" s_turned D.a_turned D.d_turned
  b_turned : Binds K D.d_turned ["number"] []
  g_turned : mg "turned" = some (.ref D.a_turned)
  F_slot_at : Fun K "slot_at" "slot_at" s_slot_at D.a_slot_at D.d_slot_at
  b_slot_at : Binds K D.d_slot_at ["place", "size"] []
  g_slot_at : mg "slot_at" = some (.ref D.a_slot_at)
  F_stretch_of : Fun K "stretch_of" "stretch_of" s_stretch_of D.a_stretch_of D.d_stretch_of
  b_stretch_of : Binds K D.d_stretch_of ["slot", "size"] []
  g_stretch_of : mg "stretch_of" = some (.ref D.a_stretch_of)
  F__law_inside : Fun K "_law_inside" "_law_inside" s__law_inside D.a__law_inside D.d__law_inside
  b__law_inside : Binds K D.d__law_inside ["_law_slot", "_law_size", "_law_great"] []
  g__law_inside : mg "_law_inside" = some (.ref D.a__law_inside)
  F__law_key : Fun K "_law_key" "_law_key" s__law_key D.a__law_key D.d__law_key
  b__law_key : Binds K D.d__law_key ["_law_cell"] []
  g__law_key : mg "_law_key" = some (.ref D.a__law_key)
  F_mark_of : Fun K "mark_of" "mark_of" s_mark_of D.a_mark_of D.d_mark_of
  b_mark_of : Binds K D.d_mark_of ["key"] []
  g_mark_of : mg "mark_of" = some (.ref D.a_mark_of)
  F_place_of : Fun K "place_of" "place_of" s_place_of D.a_place_of D.d_place_of
  b_place_of : Binds K D.d_place_of ["key"] []
  g_place_of : mg "place_of" = some (.ref D.a_place_of)
  F_slot_of : Fun K "slot_of" "slot_of" s_slot_of D.a_slot_of D.d_slot_of
  b_slot_of : Binds K D.d_slot_of ["key", "size"] []
  g_slot_of : mg "slot_of" = some (.ref D.a_slot_of)
  F__law_key_within : Fun K "_law_key_within" "_law_key_within" s__law_key_within D.a__law_key_within D.d__law_key_within
  b__law_key_within : Binds K D.d__law_key_within ["_law_key_here", "_law_size", "_law_great"] []
  g__law_key_within : mg "_law_key_within" = some (.ref D.a__law_key_within)
  F__law_order : Fun K "_law_order" "_law_order" s__law_order D.a__law_order D.d__law_order
  b__law_order : Binds K D.d__law_order ["_law_keys", "_law_size"] []
  g__law_order : mg "_law_order" = some (.ref D.a__law_order)
  F_law : Fun K "law" "law" s_law D.a_law D.d_law
  b_law : Binds K D.d_law ["_law_script"] []
  g_law : mg "law" = some (.ref D.a_law)
  k_BITS : mg "BITS" = some (.int 16 D.t_BITS)
  k_PLACES : mg "PLACES" = some (.int 65536 D.t_PLACES)
  n_len : mg "len" = none
  n_min : mg "min" = none
  n_range : mg "range" = none
  n_sorted : mg "sorted" = none
section
variable {P : Program} {w : World} {K : PySem.W.Frag} {mg : Str → Option Value} {base : Heap}
abbrev sp_law (K : PySem.W.Frag) (_ : Ad) : Sp := spEnd K
theorem sp_law_end {K : PySem.W.Frag} {D : Ad} {vs : List V} {H : Hp} {Q : VK} {E : XK} (h : spEnd K vs H Q E) : sp_law K D vs H Q E := h
def sp__law_whole (_ : PySem.W.Frag) (_ : Ad) : Sp := Sp1 fun x H Q _ => ∃ n : Int, x = .int n ∧ Q (.bl true) H

def sp__law_cell_at (K : PySem.W.Frag) (_ : Ad) : Sp := Sp2 fun x y H Q _ => ∃ (a : Addr) (ns : List Int) (i : Nat), x = .ref a ∧ y = .int i ∧ SqL K H a (ns.map V.int) ∧ Q (.int (ns.getD i 0)) H
theorem ok__law_cell_at {D : Ad} (T : Txt K mg D) : FnOk P w K mg base (L2.CX P w) 1 D.a__law_cell_at D.d__law_cell_at ["_law_script", "_law_k"] (sp__law_cell_at K D) := by
  refine T.F__law_cell_at.okX sc__law_cell_at (fun vs H Q E h => sp2_len h) (fun cdv A outer s H vs Q E hr h => ⟨_, (pss_cons (ps_if (pt_cmpR op_lt (pv 1) (pe_callB call_lenZ (by rfl) T.n_len bt_len (pa_cons (pv 0) pa_nil)) (nomark _))
      (pss_one (ps_ret (pe_ix ix_list (pv 0) (pv 1) (fun _ _ => rfl))))
      pss_nil)
    (pss_one (ps_ret pe_int))), ?_⟩)
  obtain ⟨x0, x1, rfl, h⟩ := h
  rw [show L2.start n__law_cell_at [x0, x1] = [some x0, some x1] from rfl]
  try dsimp only [cxOf]
  obtain ⟨a, ns, i, rfl, rfl, hS, k⟩ := h
  wtm_at "go"
  refine r_lenL hS ?_
  wtm_at "go"
  rw [List.length_map]
  refine br (fun h => ?_) (fun h => ?_)
  · wtm_at "go"
    have hi : i < ns.length := by omega
    refine r_ixL (v := .int (ns.getD i 0)) hS ?_ k
    rw [atI_nat' (by omega) (by rw [List.length_map]; exact h), Int.toNat_natCast, List.getElem?_map, List.getD_eq_getElem?_getD, List.getElem?_eq_getElem hi]
    rfl
  · wtm_at "go"
    have hi : ns.length ≤ i := by omega
    rw [List.getD_eq_getElem?_getD, List.getElem?_eq_none hi] at k
    exact k


section
variable {D : Ad} {H : Hp} {Q : VK} {E : XK}
theorem c_whole {n : Int} (q : Q (.bl true) H) : sp__law_whole K D ([.int n] ++ []) H Q E := ⟨_, rfl, n, rfl, q⟩
theorem c_cell {a : Addr} {ns : List Int} {i : Nat} (h : SqL K H a (ns.map V.int)) (q : Q (.int (ns.getD i 0)) H) : sp__law_cell_at K D ([.ref a, .int (i : Nat)] ++ []) H Q E := ⟨_, _, rfl, a, ns, i, rfl, rfl, h, q⟩
theorem c_cell0 {a : Addr} {ns : List Int} (h : SqL K H a (ns.map V.int)) (q : Q (.int (ns.getD 0 0)) H) : sp__law_cell_at K D ([.ref a, .int 0] ++ []) H Q E := c_cell (i := 0) h q
theorem c_cell1 {a : Addr} {ns : List Int} (h : SqL K H a (ns.map V.int)) (q : Q (.int (ns.getD 1 0)) H) : sp__law_cell_at K D ([.ref a, .int 1] ++ []) H Q E := c_cell (i := 1) h q
theorem c_cell2 {a : Addr} {ns : List Int} (h : SqL K H a (ns.map V.int)) (q : Q (.int (ns.getD 2 0)) H) : sp__law_cell_at K D ([.ref a, .int 2] ++ []) H Q E := c_cell (i := 2) h q
theorem c_cell3 {a : Addr} {ns : List Int} (h : SqL K H a (ns.map V.int)) (q : Q (.int (ns.getD 3 0)) H) : sp__law_cell_at K D ([.ref a, .int 3] ++ []) H Q E := c_cell (i := 3) h q
theorem c_cell4 {a : Addr} {ns : List Int} (h : SqL K H a (ns.map V.int)) (q : Q (.int (ns.getD 4 0)) H) : sp__law_cell_at K D ([.ref a, .int 4] ++ []) H Q E := c_cell (i := 4) h q
theorem c_cell9 {a : Addr} {ns : List Int} (h : SqL K H a (ns.map V.int)) (q : Q (.int (ns.getD 9 0)) H) : sp__law_cell_at K D ([.ref a, .int 9] ++ []) H Q E := c_cell (i := 9) h q
end
local macro_rules | `(tactic| wtm_at "s0") => `(tactic| first
  | with_reducible refine c_whole ?_
  | ((with_reducible refine' c_cell0 ?gvE ?gvH); (case gvE => wtm_at "sq"))
  | ((with_reducible refine' c_cell1 ?gvE ?gvH); (case gvE => wtm_at "sq"))
  | ((with_reducible refine' c_cell2 ?gvE ?gvH); (case gvE => wtm_at "sq"))
  | ((with_reducible refine' c_cell3 ?gvE ?gvH); (case gvE => wtm_at "sq"))
  | ((with_reducible refine' c_cell4 ?gvE ?gvH); (case gvE => wtm_at "sq"))
  | ((with_reducible refine' c_cell9 ?gvE ?gvH); (case gvE => wtm_at "sq")))


/-! the program's bits -/
def sp_turned (_ : PySem.W.Frag) (_ : Ad) : Sp := Sp1 fun x H Q _ => ∃ n : Nat, x = .int n ∧ Q (.int (r16 n : Nat)) H
theorem ok_turned {D : Ad} (T : Txt K mg D) : FnOk P w K mg base (L2.CX P w) 1 D.a_turned D.d_turned ["number"] (sp_turned K D) := by
  refine T.F_turned.okX sc_turned (fun vs H Q E h => sp1_len h) (fun cdv A outer s H vs Q E hr h => ⟨_, (pss_cons (ps_set (i := 1) sc_turned.nd rfl (Or.inl rfl) pe_int)
    (pss_cons (ps_for (passes_of rfl) rfl (pi_range1 (by rfl) T.n_range (pa_cons (pe_glob (v := .int 16) rfl T.k_BITS ⟨_, rfl⟩) pa_nil)) (pg_name (i := 2) sc_turned.nd rfl (Or.inl rfl))
      (pss_one (ps_set (i := 1) sc_turned.nd rfl (Or.inl rfl) (pe_op op_or (pe_op op_shl (pv 1) pe_int) (pe_op op_and (pe_op op_shr (pv 0) (pv 2)) pe_int)))))
    (pss_one (ps_ret (pv 1))))), ?_⟩)
  obtain ⟨x0, rfl, h⟩ := h
  rw [show L2.start n_turned [x0] = [some x0, none, none] from rfl]
  try dsimp only [cxOf]
  obtain ⟨n, rfl, k⟩ := h
  wtm_at "go"
  refine FOR.range (fun i σ H' => (∃ v, σ = [some (.int n), some (.int (tnI n i)), v]) ∧ H' = H) ⟨⟨_, rfl⟩, rfl⟩ ?_ ?_
  · rintro i σ H' hi ⟨⟨v, rfl⟩, rfl⟩
    have hb : (tnI n i).natAbs < 2 ^ 64 := tnI_small n (by omega)
    wtm_at "go"
    exact ⟨⟨_, rfl⟩, rfl⟩
  · rintro σ H' ⟨⟨v, rfl⟩, rfl⟩
    wtm_at "go"
    show Q (.int (tnI n 16)) _
    rw [tnI_eq, ← r16_eq]
    exact k


def sp_mark_of (_ : PySem.W.Frag) (_ : Ad) : Sp := Sp1 fun x H Q _ => ∃ n : Nat, x = .int n ∧ Q (.int (n % 65536 : Nat)) H
theorem ok_mark_of {D : Ad} (T : Txt K mg D) : FnOk P w K mg base (L2.CX P w) 1 D.a_mark_of D.d_mark_of ["key"] (sp_mark_of K D) := by
  refine T.F_mark_of.okX sc_mark_of (fun vs H Q E h => sp1_len h) (fun cdv A outer s H vs Q E hr h => ⟨_, (pss_one (ps_ret (pe_op op_and (pv 0) (pe_op op_sub (pe_glob (v := .int 65536) rfl T.k_PLACES ⟨_, rfl⟩) pe_int)))), ?_⟩)
  obtain ⟨x0, rfl, h⟩ := h
  rw [show L2.start n_mark_of [x0] = [some x0] from rfl]
  try dsimp only [cxOf]
  obtain ⟨n, rfl, k⟩ := h
  wtm_at "go"
  rw [and_mark]
  exact k


def sp_place_of (_ : PySem.W.Frag) (_ : Ad) : Sp := Sp1 fun x H Q _ => ∃ n : Nat, x = .int n ∧ Q (.int (r16 n : Nat)) H
theorem ok_place_of {D : Ad} (T : Txt K mg D) : FnOk P w K mg base (L2.CX P w) 2 D.a_place_of D.d_place_of ["key"] (sp_place_of K D) := by
  refine T.F_place_of.okX sc_place_of (fun vs H Q E h => sp1_len h) (fun cdv A outer s H vs Q E hr h => ⟨_, (pss_one (ps_ret (pe_call (ok_turned T) (hr.mono (by decide)) rfl T.g_turned T.F_turned.kp T.b_turned .nil pX (pa_cons (pe_call (ok_mark_of T) (hr.mono (by decide)) rfl T.g_mark_of T.F_mark_of.kp T.b_mark_of .nil pX (pa_cons (pv 0) pa_nil)) pa_nil)))), ?_⟩)
  obtain ⟨x0, rfl, h⟩ := h
  rw [show L2.start n_place_of [x0] = [some x0] from rfl]
  try dsimp only [cxOf]
  obtain ⟨n, rfl, k⟩ := h
  wtm_at "go"
  refine ⟨_, rfl, _, rfl, ?_⟩
  wtm_at "go"
  refine ⟨_, rfl, _, rfl, ?_⟩
  rw [r16_mod]
  exact k


def sp_slot_of (_ : PySem.W.Frag) (_ : Ad) : Sp := Sp2 fun x y H Q _ => ∃ n s : Nat, s ≤ 16 ∧ x = .int n ∧ y = .int (2 ^ s : Nat) ∧ Q (.int (n % 2 ^ s : Nat)) H
def sp_slot_at (_ : PySem.W.Frag) (_ : Ad) : Sp := Sp2 fun x y H Q _ => ∃ n s : Nat, s ≤ 16 ∧ x = .int n ∧ y = .int (2 ^ s : Nat) ∧ Q (.int (r16 n % 2 ^ s : Nat)) H
def sp_stretch_of (_ : PySem.W.Frag) (_ : Ad) : Sp := Sp2 fun x y H Q _ => ∃ n s : Nat, s ≤ 16 ∧ x = .int n ∧ y = .int (2 ^ s : Nat) ∧
  ∀ p, H p = none → Q (.ref p) (upd H p (.tup [.int (r16 n : Nat), .int (r16 n + 2 ^ (16 - s) : Nat)]))
def sp_halves (_ : PySem.W.Frag) (_ : Ad) : Sp := Sp2 fun x y H Q _ => ∃ n m : Int, x = .int n ∧ y = .int m ∧ ∀ p, H p = none → Q (.ref p) (upd H p (.tup [.int n, .int (n + m)]))
section
variable {D : Ad} {H : Hp} {Q : VK} {E : XK} {n s : Nat}
theorem c_turned (q : Q (.int (r16 n : Nat)) H) : sp_turned K D ([.int (n : Nat)] ++ []) H Q E := ⟨_, rfl, n, rfl, q⟩
theorem c_mark (q : Q (.int (n % 65536 : Nat)) H) : sp_mark_of K D ([.int (n : Nat)] ++ []) H Q E := ⟨_, rfl, n, rfl, q⟩
theorem c_place (q : Q (.int (r16 n : Nat)) H) : sp_place_of K D ([.int (n : Nat)] ++ []) H Q E := ⟨_, rfl, n, rfl, q⟩
theorem c_slot_of (hs : s ≤ 16) (q : Q (.int (n % 2 ^ s : Nat)) H) : sp_slot_of K D ([.int (n : Nat), .int (2 ^ s : Nat)] ++ []) H Q E := ⟨_, _, rfl, n, s, hs, rfl, rfl, q⟩
theorem c_slot_at (hs : s ≤ 16) (q : Q (.int (r16 n % 2 ^ s : Nat)) H) : sp_slot_at K D ([.int (n : Nat), .int (2 ^ s : Nat)] ++ []) H Q E := ⟨_, _, rfl, n, s, hs, rfl, rfl, q⟩
theorem c_stretch {B : Hp} {L : List Cell} (w : W B L H) (hs : s ≤ 16) (q : ∀ p B' H', H p = none → Same B B' → B' p = some (.tup [.int (r16 n : Nat), .int (r16 n + 2 ^ (16 - s) : Nat)]) → W B' L H' → Q (.ref p) H') :
    sp_stretch_of K D ([.int (n : Nat), .int (2 ^ s : Nat)] ++ []) H Q E := ⟨_, _, rfl, n, s, hs, rfl, rfl, fun p hp => q p _ _ hp (same_new (w.freeB hp)) upd_same (w.newB hp _)⟩
theorem c_halves {B : Hp} {L : List Cell} {n m : Int} (w : W B L H) (q : ∀ p B' H', H p = none → Same B B' → B' p = some (.tup [.int n, .int (n + m)]) → W B' L H' → Q (.ref p) H') :
    sp_halves K D ([.int n, .int m] ++ []) H Q E := ⟨_, _, rfl, n, m, rfl, rfl, fun p hp => q p _ _ hp (same_new (w.freeB hp)) upd_same (w.newB hp _)⟩
end
local macro_rules | `(tactic| wtm_at "s0") => `(tactic| first
  | with_reducible refine c_turned ?_
  | with_reducible refine c_mark ?_
  | with_reducible refine c_place ?_
  | ((with_reducible refine c_slot_of ?gvE ?gvH); (case gvE => first | assumption | omega))
  | ((with_reducible refine c_slot_at ?gvE ?gvH); (case gvE => first | assumption | omega)))

theorem ok_slot_of {D : Ad} (T : Txt K mg D) : FnOk P w K mg base (L2.CX P w) 2 D.a_slot_of D.d_slot_of ["key", "size"] (sp_slot_of K D) := by
  refine T.F_slot_of.okX sc_slot_of (fun vs H Q E h => sp2_len h) (fun cdv A outer s H vs Q E hr h => ⟨_, (pss_one (ps_ret (pe_op op_and (pe_call (ok_mark_of T) (hr.mono (by decide)) rfl T.g_mark_of T.F_mark_of.kp T.b_mark_of .nil pX (pa_cons (pv 0) pa_nil)) (pe_op op_sub (pv 1) pe_int)))), ?_⟩)
  obtain ⟨x0, x1, rfl, h⟩ := h
  rw [show L2.start n_slot_of [x0, x1] = [some x0, some x1] from rfl]
  try dsimp only [cxOf]
  obtain ⟨n, s, hs, rfl, rfl, k⟩ := h
  wtm_at "go"
  rw [and_pow, mod16 n hs]
  exact k

theorem ok_slot_at {D : Ad} (T : Txt K mg D) : FnOk P w K mg base (L2.CX P w) 2 D.a_slot_at D.d_slot_at ["place", "size"] (sp_slot_at K D) := by
  refine T.F_slot_at.okX sc_slot_at (fun vs H Q E h => sp2_len h) (fun cdv A outer s H vs Q E hr h => ⟨_, (pss_one (ps_ret (pe_op op_and (pe_call (ok_turned T) (hr.mono (by decide)) rfl T.g_turned T.F_turned.kp T.b_turned .nil pX (pa_cons (pv 0) pa_nil)) (pe_op op_sub (pv 1) pe_int)))), ?_⟩)
  obtain ⟨x0, x1, rfl, h⟩ := h
  rw [show L2.start n_slot_at [x0, x1] = [some x0, some x1] from rfl]
  try dsimp only [cxOf]
  obtain ⟨n, s, hs, rfl, rfl, k⟩ := h
  wtm_at "go"
  rw [and_pow]
  exact k

theorem ok_stretch_of {D : Ad} (T : Txt K mg D) : FnOk P w K mg base (L2.CX P w) 2 D.a_stretch_of D.d_stretch_of ["slot", "size"] (sp_stretch_of K D) := by
  refine T.F_stretch_of.okX sc_stretch_of (fun vs H Q E h => sp2_len h) (fun cdv A outer s H vs Q E hr h => ⟨_, (pss_cons (ps_set (i := 2) sc_stretch_of.nd rfl (Or.inl rfl) (pe_call (ok_turned T) (hr.mono (by decide)) rfl T.g_turned T.F_turned.kp T.b_turned .nil pX (pa_cons (pv 0) pa_nil)))
    (pss_one (ps_ret (pe_tup (pa_cons (pv 2) (pa_cons (pe_op op_add (pv 2) (pe_op op_fdiv (pe_glob (v := .int 65536) rfl T.k_PLACES ⟨_, rfl⟩) (pv 1))) pa_nil)))))), ?_⟩)
  obtain ⟨x0, x1, rfl, h⟩ := h
  rw [show L2.start n_stretch_of [x0, x1] = [some x0, some x1, none] from rfl]
  try dsimp only [cxOf]
  obtain ⟨n, s, hs, rfl, rfl, k⟩ := h
  have hz := pow_le16 hs
  have hp := pow_pos2 s
  wtm_at "go"
  rw [st_e hs]
  exact ⟨szl (by simp), k⟩


def sp__law_key (_ : PySem.W.Frag) (_ : Ad) : Sp := Sp1 fun x H Q _ => ∃ (n : Int) (B : Hp) (L : List Cell), x = .int n ∧ W B L H ∧ ∀ (k : Nat) (B' H' : Hp), Same B B' → W B' L H' → k < 10 ^ 39 → Q (.int k) H'
theorem ok__law_key {D : Ad} (T : Txt K mg D) : FnOk P w K mg base (L2.CX P w) 1 D.a__law_key D.d__law_key ["_law_cell"] (sp__law_key K D) := by
  refine T.F__law_key.okX sc__law_key (fun vs H Q E h => sp1_len h) (fun cdv A outer s H vs Q E hr h => ⟨_, (pss_one (ps_ret (pe_op op_mod (pe_op op_fdiv (pv 0) pe_int) (pe_ix ix_list (pe_lst (pa_cons pe_int (pa_cons (pe_op op_pow pe_int pe_int) (pa_cons (pe_op op_pow pe_int pe_int) (pa_cons (pe_op op_pow pe_int pe_int) (pa_cons (pe_op op_pow pe_int pe_int) pa_nil)))))) (pe_op op_mod (pv 0) pe_int) (fun _ _ => rfl))))), ?_⟩)
  obtain ⟨x0, rfl, h⟩ := h
  rw [show L2.start n__law_key [x0] = [some x0] from rfl]
  try dsimp only [cxOf]
  obtain ⟨n, B, L, rfl, w, k⟩ := h
  wtm_at "go"
  refine d_lst w (szl (by simp)) fun p B1 H1 hp s1 i1 w => ?_
  wtm_at "go"
  obtain ⟨v, hv, e⟩ := atI_ex (ns := [100, 2 ^ 16, 2 ^ 32, 2 ^ 48, 10 ^ 39]) (i := n % 5) (by omega) (by simp only [List.length_cons, List.length_nil]; omega)
  refine r_ixL (SqL.of (w.rd i1)) e ?_
  have hb : 0 < v ∧ v ≤ 10 ^ 39 := by
    simp only [List.mem_cons, List.not_mem_nil, or_false] at hv
    rcases hv with rfl | rfl | rfl | rfl | rfl <;> decide
  obtain ⟨hb1, hb2⟩ := hb
  wtm_at "go"
  have h0 := Int.emod_nonneg (n / 5) (Int.ne_of_gt hb1)
  have h1 := Int.emod_lt_of_pos (n / 5) hb1
  have := k (n / 5 % v).toNat B1 H1 s1 w (by omega)
  rwa [Int.toNat_of_nonneg h0] at this



local macro_rules | `(tactic| wtm_at "s0") => `(tactic| first | with_reducible refine g_chain3 ?_ | with_reducible refine g_chain4 ?_)
def sp__law_inside (_ : PySem.W.Frag) (_ : Ad) : Sp := Sp3 fun x y z H Q _ => ∃ (n s g : Nat) (B : Hp) (L : List Cell), s ≤ g ∧ g ≤ s + 4 ∧ g ≤ 16 ∧ n < 2 ^ s ∧ x = .int n ∧ y = .int (2 ^ s : Nat) ∧ z = .int (2 ^ g : Nat) ∧ W B L H ∧
  ∀ (B' H' : Hp), Same B B' → W B' L H' → Q (.bl true) H'
theorem ok__law_inside {D : Ad} (T : Txt K mg D) : FnOk P w K mg base (L2.CX P w) 3 D.a__law_inside D.d__law_inside ["_law_slot", "_law_size", "_law_great"] (sp__law_inside K D) := by
  refine T.F__law_inside.okX sc__law_inside (fun vs H Q E h => sp3_len h) (fun cdv A outer s H vs Q E hr h => ⟨_, (pss_cons (ps_asg (pe_call (ok_stretch_of T) (hr.mono (by decide)) rfl T.g_stretch_of T.F_stretch_of.kp T.b_stretch_of .nil pX (pa_cons (pv 0) (pa_cons (pv 1) pa_nil))) (pg_tup (by rfl) (pgs_cons (pg_name (i := 3) sc__law_inside.nd rfl (Or.inl rfl)) (pgs_cons (pg_name (i := 4) sc__law_inside.nd rfl (Or.inl rfl)) pgs_nil))))
    (pss_cons (ps_set (i := 5) sc__law_inside.nd rfl (Or.inl rfl) (pv 3))
    (pss_cons (ps_set (i := 6) sc__law_inside.nd rfl (Or.inl rfl) pe_int)
    (pss_cons (ps_while (passes_of rfl) (PW.pt (pw_and (pt_cmpR op_lt (pv 5) (pv 4) (nomark _)) (pw_and1 (pt_cmpR op_lt (pv 6) pe_int (nomark _)))))
      (pss_cons (ps_set (i := 7) sc__law_inside.nd rfl (Or.inl rfl) (pe_call (ok_slot_at T) (hr.mono (by decide)) rfl T.g_slot_at T.F_slot_at.kp T.b_slot_at .nil pX (pa_cons (pv 5) (pa_cons (pv 2) pa_nil))))
      (pss_cons (ps_if (PW.pt (pw_or (pt_cmpR op_ne (pe_op op_mod (pv 7) (pv 1)) (pv 0) (nomark _)) (pw_or1 (pt_cmpR op_ne (pe_ix ix_tup (pe_call (ok_stretch_of T) (hr.mono (by decide)) rfl T.g_stretch_of T.F_stretch_of.kp T.b_stretch_of .nil pX (pa_cons (pv 7) (pa_cons (pv 2) pa_nil))) pe_int (fun _ _ => rfl)) (pv 5) (nomark _)))))
        (pss_one (ps_ret pe_bl))
        pss_nil)
      (pss_cons (ps_set (i := 5) sc__law_inside.nd rfl (Or.inl rfl) (pe_ix ix_tup (pe_call (ok_stretch_of T) (hr.mono (by decide)) rfl T.g_stretch_of T.F_stretch_of.kp T.b_stretch_of .nil pX (pa_cons (pv 7) (pa_cons (pv 2) pa_nil))) pe_int (fun _ _ => rfl)))
      (pss_one (ps_set (i := 6) sc__law_inside.nd rfl (Or.inl rfl) (pe_op op_add (pv 6) pe_int)))))))
    (pss_one (ps_ret (pe_and (pe_cmpR op_eq (pv 5) (pv 4) (nomark _)) (pe_one (pe_cmpR op_eq (pv 6) (pe_op op_fdiv (pv 2) (pv 1)) (nomark _)))))))))), ?_⟩)
  obtain ⟨x0, x1, x2, rfl, h⟩ := h
  rw [show L2.start n__law_inside [x0, x1, x2] = [some x0, some x1, some x2, none, none, none, none, none] from rfl]
  try dsimp only [cxOf]
  obtain ⟨n, s, g, B, L, hsg, hg4, hg, hn, rfl, rfl, rfl, w, k⟩ := h
  have hs : s ≤ 16 := by omega
  have hp1 := pow_pos2 s
  have hz1 := pow_le16 hs
  have hp2 := pow_pos2 g
  have hz2 := pow_le16 hg
  have hv := pow_pos2 (16 - g)
  have e := pow_split hsg hg
  have l4 : 2 ^ (g - s) ≤ 2 ^ 4 := Nat.pow_le_pow_right (by decide) (by omega)
  have se := stretch_end hs hn
  wtm_at "g0"
  refine c_stretch w hs fun p B1 H1 hp s1 i1 w => ?_
  wtm_at "g0"
  refine g_while (2 ^ (g - s)) (fun m σ H' => ∃ (j : Nat) (u : Option V) (B' : Hp), j + m = 2 ^ (g - s) ∧ σ = [some (.int n), some (.int (2 ^ s : Nat)), some (.int (2 ^ g : Nat)), some (.int (r16 n)), some (.int (r16 n + 2 ^ (16 - s) : Nat)), some (.int (r16 n + j * 2 ^ (16 - g) : Nat)), some (.int j), u] ∧ Same B B' ∧ W B' L H') ⟨0, none, B1, by omega, by rw [Nat.zero_mul, Nat.add_zero]; rfl, s1, w⟩ ?_
  rintro m σ H2 ⟨j, u, B2, hj, rfl, s2, w⟩
  by_cases hm : m = 0
  · have hj2 : j = 2 ^ (g - s) := by omega
    subst hj2
    rw [← e]
    have e2 : ((2 ^ g : Nat) : Int) / ((2 ^ s : Nat) : Int) = ((2 ^ (g - s) : Nat) : Int) := by
      rw [← Int.natCast_ediv, Nat.pow_div hsg (by decide)]
    wtm_at "go"
    rw [e2]
    wtm_at "go"
    show Q _ _
    rw [decide_eq_true rfl]
    with_reducible exact k _ _ s2 w
  · have hlt : j < 2 ^ (g - s) := by omega
    obtain ⟨a1, a2⟩ := inner_slot hsg hg hn hlt
    have l : (j + 1) * 2 ^ (16 - g) ≤ 2 ^ (g - s) * 2 ^ (16 - g) := Nat.mul_le_mul_right _ hlt
    rw [Nat.succ_mul] at l
    wtm_at "go"
    generalize r16 (r16 n + j * 2 ^ (16 - g)) % 2 ^ g = q at a1 a2 ⊢
    refine c_stretch w hg fun p2 B3 H3 hp3 s3 i3 w => ?_
    wtm_at "go"
    refine c_stretch w hg fun p3 B4 H4 hp4 s4 i4 w => ?_
    wtm_at "go"
    refine ⟨m - 1, by omega, j + 1, some (.int q), B4, by omega, ?_, same_trans s2 (same_trans s3 s4), w⟩
    rw [a2, Nat.succ_mul, ← Nat.add_assoc]
    rfl

def sp__law_key_within (_ : PySem.W.Frag) (_ : Ad) : Sp := Sp3 fun x y z H Q _ => ∃ (n s g : Nat) (B : Hp) (L : List Cell), s ≤ g ∧ g ≤ s + 4 ∧ g ≤ 16 ∧ x = .int n ∧ y = .int (2 ^ s : Nat) ∧ z = .int (2 ^ g : Nat) ∧ W B L H ∧
  ∀ (B' H' : Hp), Same B B' → W B' L H' → Q (.bl true) H'
theorem ok__law_key_within {D : Ad} (T : Txt K mg D) : FnOk P w K mg base (L2.CX P w) 3 D.a__law_key_within D.d__law_key_within ["_law_key_here", "_law_size", "_law_great"] (sp__law_key_within K D) := by
  refine T.F__law_key_within.okX sc__law_key_within (fun vs H Q E h => sp3_len h) (fun cdv A outer s H vs Q E hr h => ⟨_, (pss_cons (ps_set (i := 3) sc__law_key_within.nd rfl (Or.inl rfl) (pe_call (ok_slot_of T) (hr.mono (by decide)) rfl T.g_slot_of T.F_slot_of.kp T.b_slot_of .nil pX (pa_cons (pv 0) (pa_cons (pv 1) pa_nil))))
    (pss_cons (ps_set (i := 4) sc__law_key_within.nd rfl (Or.inl rfl) (pe_call (ok_slot_of T) (hr.mono (by decide)) rfl T.g_slot_of T.F_slot_of.kp T.b_slot_of .nil pX (pa_cons (pv 0) (pa_cons (pv 2) pa_nil))))
    (pss_cons (ps_if (pt_cmpR op_ne (pe_op op_mod (pv 4) (pv 1)) (pv 3) (nomark _))
      (pss_one (ps_ret pe_bl))
      pss_nil)
    (pss_cons (ps_asg (pe_call (ok_stretch_of T) (hr.mono (by decide)) rfl T.g_stretch_of T.F_stretch_of.kp T.b_stretch_of .nil pX (pa_cons (pv 3) (pa_cons (pv 1) pa_nil))) (pg_tup (by rfl) (pgs_cons (pg_name (i := 5) sc__law_key_within.nd rfl (Or.inl rfl)) (pgs_cons (pg_name (i := 6) sc__law_key_within.nd rfl (Or.inl rfl)) pgs_nil))))
    (pss_cons (ps_asg (pe_call (ok_stretch_of T) (hr.mono (by decide)) rfl T.g_stretch_of T.F_stretch_of.kp T.b_stretch_of .nil pX (pa_cons (pv 4) (pa_cons (pv 2) pa_nil))) (pg_tup (by rfl) (pgs_cons (pg_name (i := 7) sc__law_key_within.nd rfl (Or.inl rfl)) (pgs_cons (pg_name (i := 8) sc__law_key_within.nd rfl (Or.inl rfl)) pgs_nil))))
    (pss_one (ps_ret (pe_chain4 op_le op_le op_lt op_le (pv 5) (pv 7) (pe_call (ok_place_of T) (hr.mono (by decide)) rfl T.g_place_of T.F_place_of.kp T.b_place_of .nil pX (pa_cons (pv 0) pa_nil)) (pv 8) (pv 6))))))))), ?_⟩)
  obtain ⟨x0, x1, x2, rfl, h⟩ := h
  rw [show L2.start n__law_key_within [x0, x1, x2] = [some x0, some x1, some x2, none, none, none, none, none, none] from rfl]
  try dsimp only [cxOf]
  obtain ⟨n, s, g, B, L, hsg, hg4, hg, rfl, rfl, rfl, w, k⟩ := h
  have hs : s ≤ 16 := by omega
  have hp1 := pow_pos2 s
  have hp2 := pow_pos2 g
  have m1 := Nat.mod_lt n hp1
  have m2 := Nat.mod_lt n hp2
  have m3 := mod_mod_pow n hsg
  have b1 := sub_stretch hsg hg m2 m1 m3
  have b2 := (in_stretch n hg m2).mpr rfl
  wtm_at "go"
  refine c_stretch w hs fun p B1 H1 hp s1 i1 w => ?_
  wtm_at "go"
  refine c_stretch w hg fun p2 B2 H2 hp2 s2 i2 w => ?_
  wtm_at "go"
  show Q _ _
  rw [decide_eq_true (by omega)]
  with_reducible exact k _ _ (same_trans s1 s2) w

def sp__law_order (K : PySem.W.Frag) (_ : Ad) : Sp := Sp2 fun x y H Q _ => ∃ (a : Addr) (ks : List Nat) (s : Nat) (B : Hp) (L : List Cell), s ≤ 16 ∧ ks.length ≤ 8 ∧ x = .ref a ∧ SqL K B a (ks.map fun (k : Nat) => V.int k) ∧ y = .int (2 ^ s : Nat) ∧ W B L H ∧
  ∀ (B' H' : Hp), Same B B' → W B' L H' → Q (.bl true) H'
theorem ok__law_order {D : Ad} (T : Txt K mg D) : FnOk P w K mg base (L2.CX P w) 3 D.a__law_order D.d__law_order ["_law_keys", "_law_size"] (sp__law_order K D) := by
  refine T.F__law_order.okX sc__law_order (fun vs H Q E h => sp2_len h) (fun cdv A outer s H vs Q E hr h => ⟨_, (pss_cons (ps_set (i := 2) sc__law_order.nd rfl (Or.inl rfl) (pe_callB (call_sortT hr.units) (by rfl) T.n_sorted bt_sorted (pa_cons (pe_lc (own := [("_law_key_here", 4)]) (g := gName 4) rfl sc__law_order.nd (pi_list (pv 0)) (blkOk_by (own := [("_law_key_here", 4)]) (N := n__law_order) (sc := defScope s__law_order) (by decide +kernel)) (fun _ _ _ _ _ => (pg_name (i := 4) sc__law_order.nd rfl (Or.inl rfl))) (fun _ _ _ _ _ => pts_nil) (fun _ _ _ _ _ => (pe_tup (pa_cons (pe_call (sp := sp_place_of K D) (ok_place_of T) (hr.mono (by decide)) rfl T.g_place_of T.F_place_of.kp T.b_place_of .nil passF (pa_cons (pv 4) pa_nil)) (pa_cons (pe_call (sp := sp_stretch_of K D) (ok_stretch_of T) (hr.mono (by decide)) rfl T.g_stretch_of T.F_stretch_of.kp T.b_stretch_of .nil passF (pa_cons (pe_call (sp := sp_slot_of K D) (ok_slot_of T) (hr.mono (by decide)) rfl T.g_slot_of T.F_slot_of.kp T.b_slot_of .nil passF (pa_cons (pv 4) (pa_cons (pv 1) pa_nil))) (pa_cons (pv 1) pa_nil))) pa_nil))))) pa_nil)))
    (pss_cons (ps_for (passes_of rfl) rfl (pi_range2 (by rfl) T.n_range (pa_cons pe_int (pa_cons (pe_callB call_lenZ (by rfl) T.n_len bt_len (pa_cons (pv 2) pa_nil)) pa_nil))) (pg_name (i := 3) sc__law_order.nd rfl (Or.inl rfl))
      (pss_one (ps_if (pt_cmpR op_gt (pe_ix ix_tup (pe_ix ix_tup (pe_ix ix_list (pv 2) (pe_op op_sub (pv 3) pe_int) (fun _ _ => rfl)) pe_int (fun _ _ => rfl)) pe_int (fun _ _ => rfl)) (pe_ix ix_tup (pe_ix ix_tup (pe_ix ix_list (pv 2) (pv 3) (fun _ _ => rfl)) pe_int (fun _ _ => rfl)) pe_int (fun _ _ => rfl)) (nomark _))
        (pss_one (ps_ret pe_bl))
        pss_nil)))
    (pss_one (ps_ret pe_bl)))), ?_⟩)
  obtain ⟨x0, x1, rfl, h⟩ := h
  rw [show L2.start n__law_order [x0, x1] = [some x0, some x1, none, none, none] from rfl]
  try dsimp only [cxOf]
  obtain ⟨a, ks, s, B, L, hs, hl, rfl, hS, rfl, w, k⟩ := h
  have hp1 := pow_pos2 s
  wtm_at "g0"
  refine r_il (xs := ks.map fun (k : Nat) => V.int k) (w.sq hS) ?_
  intro D1 hD
  refine LC.list (K := K) w hD hS (by rw [List.length_map]; exact szlt (by omega)) (fun i B acc => ∃ ts : List (Addr × Addr), acc = ts.map (fun t => V.ref t.1) ∧ ts.length = i ∧ ∀ (j : Nat) (t : Addr × Addr), ts[j]? = some t → ∃ key : Nat, B t.1 = some (.tup [.int (r16 key : Nat), .ref t.2]) ∧ B t.2 = some (.tup [.int (r16 (key % 2 ^ s) : Nat), .int (r16 (key % 2 ^ s) + 2 ^ (16 - s) : Nat)])) ⟨[], rfl, rfl, by simp⟩ ?_ ?_
  · rintro i x B2 acc H2 Nx hi s2 w ⟨ts, rfl, hl3, hp⟩ hl1 hl2 hN
    obtain ⟨key, rfl⟩ : ∃ key : Nat, x = .int key := by
      obtain ⟨y, _, e⟩ := List.mem_map.mp (List.mem_of_getElem? hi)
      exact ⟨y, e.symm⟩
    wtm_at "go"
    refine ⟨rfl, ?_⟩
    wtm_at "go"
    refine c_stretch w hs fun p B3 H3 hp3 s3 i3 w => ?_
    wtm_at "go"
    refine d_tup w (szl (by simp)) fun p2 B4 H4 hp4 s4 i4 w => ?_
    refine r_acc w hl2 fun H5 w5 => ?_
    have s24 := same_trans s3 s4
    refine hN _ _ _ s24 w5 ⟨ts ++ [(p2, p)], by simp, by simp [hl3], fun j q hj => ?_⟩ (by simp at hl1 ⊢; omega)
    by_cases e : j < ts.length
    · rw [List.getElem?_append_left e] at hj
      obtain ⟨k2, e1, e2⟩ := hp j q hj
      exact ⟨k2, s24 _ _ e1, s24 _ _ e2⟩
    · rw [List.getElem?_append_right (by omega)] at hj
      cases e2 : j - ts.length with
      | zero =>
        rw [e2] at hj
        cases hj
        exact ⟨key, i4, s4 _ _ i3⟩
      | succ m => rw [e2] at hj; cases hj
  · rintro B2 B3 acc H2 s2 s3 i3 w ⟨ts, rfl, hl3, hp⟩ hl1
    wtm_at "go"
    have hmem : ∀ t ∈ ts, ∃ key : Nat, B3 t.1 = some (.tup [.int (r16 key : Nat), .ref t.2]) ∧ B3 t.2 = some (.tup [.int (r16 (key % 2 ^ s) : Nat), .int (r16 (key % 2 ^ s) + 2 ^ (16 - s) : Nat)]) := fun t ht => by
      obtain ⟨j, hj⟩ := List.getElem?_of_mem ht
      obtain ⟨key, e1, e2⟩ := hp j t hj
      exact ⟨key, s3 _ _ e1, s3 _ _ e2⟩
    have hx : ∀ x ∈ ts.map (fun t => V.ref t.1), ∃ (t q : Addr) (key : Nat), x = .ref t ∧ B3 t = some (.tup [.int (r16 key : Nat), .ref q]) ∧ B3 q = some (.tup [.int (r16 (key % 2 ^ s) : Nat), .int (r16 (key % 2 ^ s) + 2 ^ (16 - s) : Nat)]) := fun x hx => by
      obtain ⟨t, ht, rfl⟩ := List.mem_map.mp hx
      obtain ⟨key, e1, e2⟩ := hmem t ht
      exact ⟨t.1, t.2, key, rfl, e1, e2⟩
    refine r_sortT (K := K) (f := r16) (g := fun key => ((r16 (key % 2 ^ s) : Nat), (r16 (key % 2 ^ s) + 2 ^ (16 - s) : Nat))) w (SqL.of i3) hx (fun k1 k2 e => ?_) fun p B4 H4 ys s4 pm so i4 w => ?_
    · have e2 : k1 % 2 ^ s = k2 % 2 ^ s := by rw [← mod16 k1 hs, ← mod16 k2 hs, r16_inj e]
      rw [e2]
    wtm_at "go"
    refine r_lenL (SqL.of (w.rd i4)) ?_
    have hyl : ys.length = ts.length := by rw [pm.length_eq, List.length_map]
    have htl : ts.length ≤ 8 := by rw [List.length_map] at hl3; omega
    wtm_at "go"
    refine FOR.range (fun i σ H' => (∃ u, σ = [some (.ref a), some (.int (2 ^ s : Nat)), some (.ref p), u, none]) ∧ H' = H4) ⟨⟨_, rfl⟩, rfl⟩ ?_ ?_
    · rintro i σ H' hi ⟨⟨u, rfl⟩, rfl⟩
      have h1 : i < ys.length := by omega
      have h2 : i + 1 < ys.length := by omega
      obtain ⟨t1, q1, k1, f1, f2, f3⟩ := hx _ (pm.mem_iff.mp (List.getElem_mem h1))
      obtain ⟨t2, q2, k2, g1, g2, g3⟩ := hx _ (pm.mem_iff.mp (List.getElem_mem h2))
      have hle : r16 k1 ≤ r16 k2 := by
        have := List.pairwise_iff_getElem.mp so i (i + 1) h1 h2 (by omega)
        rw [f1, g1, ptK_eq f2, ptK_eq g2] at this
        omega
      have hle2 := slot_mono hs hle
      have a1 : atI ys (1 + (i : Int) - 1) = some (.ref t1) := by
        rw [atI_nat' (by omega) (by omega), show (1 + (i : Int) - 1).toNat = i by omega, List.getElem?_eq_getElem h1, f1]
      have a2 : atI ys (1 + (i : Int)) = some (.ref t2) := by
        rw [atI_nat' (by omega) (by omega), show (1 + (i : Int)).toNat = i + 1 by omega, List.getElem?_eq_getElem h2, g1]
      wtm_at "go"
      refine r_ixL (SqL.of (w.rd i4)) a1 ?_
      wtm_at "go"
      refine r_ixL (SqL.of (w.rd i4)) a2 ?_
      wtm_at "go"
      exact ⟨⟨_, rfl⟩, rfl⟩
    · rintro σ H' ⟨⟨u, rfl⟩, rfl⟩
      wtm_at "go"
      with_reducible exact k _ _ (same_trans s2 s4) w

theorem ok_law {D : Ad} (T : Txt K mg D) : FnOk P w K mg base (L2.CX P w) 4 D.a_law D.d_law ["_law_script"] (sp_law K D) := by
  refine T.F_law.okX sc_law (fun vs H Q E h => sp1_len h) (fun cdv A outer s H vs Q E hr h => ⟨_, (pss_cons (ps_set (i := 1) sc_law.nd rfl (Or.inl rfl) (pe_op op_mod (pe_call (ok__law_cell_at T) (hr.mono (by decide)) rfl T.g__law_cell_at T.F__law_cell_at.kp T.b__law_cell_at .nil pX (pa_cons (pv 0) (pa_cons pe_int pa_nil))) pe_int))
    (pss_cons (ps_set (i := 2) sc_law.nd rfl (Or.inl rfl) (pe_op op_shl pe_int (pv 1)))
    (pss_cons (ps_set (i := 3) sc_law.nd rfl (Or.inl rfl) (pe_op op_shl (pv 2) (pe_op op_mod (pe_call (ok__law_cell_at T) (hr.mono (by decide)) rfl T.g__law_cell_at T.F__law_cell_at.kp T.b__law_cell_at .nil pX (pa_cons (pv 0) (pa_cons pe_int pa_nil))) (pe_callB (call_min2 rfl) (by rfl) T.n_min bt_min (pa_cons pe_int (pa_cons (pe_op op_sub pe_int (pv 1)) pa_nil))))))
    (pss_cons (ps_setLc (i := 4) (own := [("_law_cell", 7)]) (g := gName 7) rfl sc_law.nd rfl rfl (sw_true rfl rfl rfl (by decide +kernel)) (pi_list (pe_slice sl_list (pv 0) (po_some pe_int) (po_some pe_int))) (blkOk_by (own := [("_law_cell", 7)]) (N := n_law) (sc := defScope s_law) (by decide +kernel)) (fun _ _ _ _ _ => (pg_name (i := 7) sc_law.nd rfl (Or.inl rfl))) (fun _ _ _ _ _ => pts_nil) (fun _ _ _ _ _ => (pe_call (sp := sp__law_key K D) (ok__law_key T) (hr.mono (by decide)) rfl T.g__law_key T.F__law_key.kp T.b__law_key .nil passF (pa_cons (pv 7) pa_nil))))
    (pss_cons (ps_for (passes_of rfl) rfl (pi_list (pv 4)) (pg_name (i := 5) sc_law.nd rfl (Or.inl rfl))
      (pss_one (ps_if (PW.pt (pw_or (pt_not (pt_val (pe_call (ok__law_key_within T) (hr.mono (by decide)) rfl T.g__law_key_within T.F__law_key_within.kp T.b__law_key_within .nil pX (pa_cons (pv 5) (pa_cons (pv 2) (pa_cons (pv 3) pa_nil)))))) (pw_or1 (pt_not (pt_val (pe_call (ok__law_inside T) (hr.mono (by decide)) rfl T.g__law_inside T.F__law_inside.kp T.b__law_inside .nil pX (pa_cons (pe_call (ok_slot_of T) (hr.mono (by decide)) rfl T.g_slot_of T.F_slot_of.kp T.b_slot_of .nil pX (pa_cons (pv 5) (pa_cons (pv 2) pa_nil))) (pa_cons (pv 2) (pa_cons (pv 3) pa_nil)))))))))
        (pss_one (ps_ret pe_bl))
        pss_nil)))
    (pss_cons (ps_set (i := 6) sc_law.nd rfl (Or.inl rfl) (pe_call (ok_slot_at T) (hr.mono (by decide)) rfl T.g_slot_at T.F_slot_at.kp T.b_slot_at .nil pX (pa_cons (pe_op op_mod (pe_call (ok__law_cell_at T) (hr.mono (by decide)) rfl T.g__law_cell_at T.F__law_cell_at.kp T.b__law_cell_at .nil pX (pa_cons (pv 0) (pa_cons pe_int pa_nil))) pe_int) (pa_cons (pv 2) pa_nil))))
    (pss_one (ps_ret (pe_and (pe_call (ok__law_inside T) (hr.mono (by decide)) rfl T.g__law_inside T.F__law_inside.kp T.b__law_inside .nil pX (pa_cons (pv 6) (pa_cons (pv 2) (pa_cons (pv 3) pa_nil)))) (pe_and (pe_call (ok__law_order T) (hr.mono (by decide)) rfl T.g__law_order T.F__law_order.kp T.b__law_order .nil pX (pa_cons (pv 4) (pa_cons (pv 2) pa_nil))) (pe_one (pe_call (ok__law_order T) (hr.mono (by decide)) rfl T.g__law_order T.F__law_order.kp T.b__law_order .nil pX (pa_cons (pv 4) (pa_cons (pv 3) pa_nil)))))))))))))), ?_⟩)
  obtain ⟨x0, rfl, h⟩ := h
  rw [show L2.start n_law [x0] = [some x0, none, none, none, none, none, none, none] from rfl]
  try dsimp only [cxOf]
  obtain ⟨a, ns, rfl, hS, hlen, k⟩ := h
  obtain ⟨B0, hS, w⟩ := W.law hS
  wtm_at "go"
  have hs7 : (ns.getD 0 0 % 7).toNat ≤ 6 := by omega
  rw [pow4]
  refine ⟨_, _, rfl, ?_⟩
  wtm_at "go"
  have he : 0 ≤ (ns.getD 1 0 % if 7 - ns.getD 0 0 % 7 < 5 then 7 - ns.getD 0 0 % 7 else 5) ∧ (ns.getD 1 0 % if 7 - ns.getD 0 0 % 7 < 5 then 7 - ns.getD 0 0 % 7 else 5) ≤ 4 ∧ (ns.getD 1 0 % if 7 - ns.getD 0 0 % 7 < 5 then 7 - ns.getD 0 0 % 7 else 5) + ns.getD 0 0 % 7 ≤ 6 := by
    by_cases c : 7 - ns.getD 0 0 % 7 < 5
    · rw [if_pos c]
      have hq : (0:Int) < 7 - ns.getD 0 0 % 7 := by omega
      have h0 := Int.emod_nonneg (ns.getD 1 0) (Int.ne_of_gt hq)
      have h1 := Int.emod_lt_of_pos (ns.getD 1 0) hq
      omega
    · rw [if_neg c]
      omega
  generalize (ns.getD 1 0 % if 7 - ns.getD 0 0 % 7 < 5 then 7 - ns.getD 0 0 % 7 else 5) = z at he ⊢
  generalize hss : (ns.getD 0 0 % 7).toNat + 2 = s
  have hs : s ≤ 8 := by omega
  have hs1 : s ≤ 16 := by omega
  have hz := pow_le16 hs1
  have hna : ((2 ^ s : Nat) : Int).natAbs < 2 ^ 64 := by rw [Int.natAbs_natCast]; omega
  have hp1 := pow_pos2 s
  have eg : ((2 ^ s : Nat) : Int) * 2 ^ z.toNat = ((2 ^ (s + z.toNat) : Nat) : Int) := by rw [Nat.pow_add]; simp
  wtm_at "go"
  rw [eg]
  generalize hgg : s + z.toNat = g
  have hg : s ≤ g := by omega
  have hg4 : g ≤ s + 4 := by omega
  have hg1 : g ≤ 16 := by omega
  wtm_at "go"
  refine d_slL w (w.sq hS) fun q B1 H1 hq s1 i1 w => ?_
  wtm_at "go"
  rw [cutV_int] at i1
  have l1 : (cutI ns (some 3) (some 11)).length ≤ 8 := by
    unfold cutI
    rw [List.length_take]
    simp only [HT.sIx]
    split <;> split <;> omega
  refine r_il (xs := (cutI ns (some 3) (some 11)).map V.int) (SqL.of (w.rd i1)) ?_
  intro D1 hD
  refine LC.list (K := K) w hD (SqL.of i1) (by simp only [List.length_map]; exact szlt (by omega)) (fun i B acc => ∃ ms : List Nat, acc = ms.map (fun (m : Nat) => V.int m)) ⟨[], rfl⟩ ?_ ?_
  · rintro i x B' acc H' Nx hi s w ⟨ms, rfl⟩ hl hl2 hN
    obtain ⟨n, rfl, _, _⟩ := getV hi
    wtm_at "go"
    refine ⟨rfl, ?_⟩
    wtm_at "go"
    refine ⟨_, rfl, _, _, _, rfl, w, fun key B2 H2 s2 w hk => ?_⟩
    refine r_acc w hl2 fun H3 w3 => ?_
    exact hN _ _ _ s2 w3 ⟨ms ++ [key], by simp⟩ (by simp at hl ⊢; omega)
  · rintro B3 B4 acc H3 s3 s34 i4 w ⟨ms, rfl⟩ hl
    rw [List.length_map, List.length_map] at hl
    wtm_at "go"
    refine r_il (xs := ms.map (fun (m : Nat) => V.int m)) (SqL.of (w.rd i4)) ?_
    refine FOR.list (K := K) (xs := ms.map (fun (m : Nat) => V.int m)) (fun i σ H' => ∃ B' v1, σ = [some (.ref a), some (.int (ns.getD 0 0 % 7)), some (.int (2 ^ s : Nat)), some (.int (2 ^ g : Nat)), some (.ref D1), v1, none, none] ∧ Same B4 B' ∧ W B' [] H') ⟨B4, _, rfl, same_refl _, w⟩ (fun i σ H' _ ⟨B', v1, _, s, w⟩ => SqL.of (w.rd (s _ _ i4))) ?_ ?_
    · rintro i x σ H6 hi ⟨B6, v1, rfl, s6, w⟩
      obtain ⟨key, rfl⟩ : ∃ key : Nat, x = .int key := by
        obtain ⟨y, _, e⟩ := List.mem_map.mp (List.mem_of_getElem? hi)
        exact ⟨y, e.symm⟩
      wtm_at "go"
      refine ⟨_, _, _, rfl, key, s, g, B6, [], hg, hg4, hg1, rfl, rfl, rfl, w, fun B7 H7 s7 w => ?_⟩
      wtm_at "go"
      refine ⟨_, _, _, rfl, key % 2 ^ s, s, g, B7, [], hg, hg4, hg1, Nat.mod_lt _ hp1, rfl, rfl, rfl, w, fun B8 H8 s8 w => ?_⟩
      wtm_at "go"
      exact ⟨B8, _, rfl, same_trans s6 (same_trans s7 s8), w⟩
    · rintro σ H' ⟨B6, v1, rfl, s6, w⟩
      have hS2 : SqL K B6 a (ns.map V.int) := Z.Same.sq s6 (Z.Same.sq s3 (Z.Same.sq s1 hS))
      wtm_at "go"
      have e1 : ns.getD 2 0 % 65536 = ((ns.getD 2 0 % 65536).toNat : Int) := by omega
      rw [e1]
      wtm_at "go"
      refine ⟨_, _, _, rfl, _, s, g, B6, [], hg, hg4, hg1, Nat.mod_lt _ hp1, rfl, rfl, rfl, w, fun B7 H7 s7 w => ?_⟩
      wtm_at "go"
      have i7 := s7 _ _ (s6 _ _ i4)
      refine ⟨_, _, rfl, D1, ms, s, B7, [], hs1, by omega, rfl, SqL.of i7, rfl, w, fun B8 H8 s8 w => ?_⟩
      wtm_at "go"
      refine ⟨_, _, rfl, D1, ms, g, B8, [], hg1, by omega, rfl, SqL.of (s8 _ _ i7), rfl, w, fun B9 H9 s9 w => ?_⟩
      with_reducible exact k _


end
theorem all_mk {l : PySem.W.OpenLaw} {w : World} {K : PySem.W.Frag} {h : Heap} {mg : Str → Option Value} {fa f1 f2 f3 f4 f5 f6 f7 f8 f9 f10 f11 f12  : Addr} (X : K.In h) (G : h.Ns mainGlobals mg) (hfa : mg "law" = some (.ref fa))
    {od1 an1 od2 an2 od3 an3 od4 an4 od5 an5 od6 an6 od7 an7 od8 an8 od9 an9 od10 an10 od11 an11 od12 an12 : Option Addr} {sl1 sl2 sl3 sl4 sl5 sl6 sl7 sl8 sl9 sl10 sl11 sl12 : Array (Option Value)} {oc1 kV1 dc1 pm1 cd1 ct1 oc2 kV2 dc2 pm2 cd2 ct2 oc3 kV3 dc3 pm3 cd3 ct3 oc4 kV4 dc4 pm4 cd4 ct4 oc5 kV5 dc5 pm5 cd5 ct5 oc6 kV6 dc6 pm6 cd6 ct6 oc7 kV7 dc7 pm7 cd7 ct7 oc8 kV8 dc8 pm8 cd8 ct8 oc9 kV9 dc9 pm9 cd9 ct9 oc10 kV10 dc10 pm10 cd10 ct10 oc11 kV11 dc11 pm11 cd11 ct11 oc12 kV12 dc12 pm12 cd12 ct12 : Value} {tk_BITS tk_PLACES : Tok}
    (a1 : PySem.W.nsIn K mainGlobals "_law_cell_at" = some (some (.ref f1)))
    (l1 : K.lookup f1 = some ⟨oc1, od1, .func (PySem.W.fnOf "_law_cell_at" "_law_cell_at" (defArgs s__law_cell_at) (defBody s__law_cell_at) (defScope s__law_cell_at) .none kV1 dc1 pm1 an1 cd1 ct1), sl1⟩)
    (c1 : PySem.W.codeIn K cd1 "_law_cell_at" = true)
    (k1 : PySem.W.keepIn K (.ref f1) = true)
    (a2 : PySem.W.nsIn K mainGlobals "turned" = some (some (.ref f2)))
    (l2 : K.lookup f2 = some ⟨oc2, od2, .func (PySem.W.fnOf "turned" "turned" (defArgs s_turned) (defBody s_turned) (defScope s_turned) .none kV2 dc2 pm2 an2 cd2 ct2), sl2⟩)
    (c2 : PySem.W.codeIn K cd2 "turned" = true)
    (k2 : PySem.W.keepIn K (.ref f2) = true)
    (a3 : PySem.W.nsIn K mainGlobals "slot_at" = some (some (.ref f3)))
    (l3 : K.lookup f3 = some ⟨oc3, od3, .func (PySem.W.fnOf "slot_at" "slot_at" (defArgs s_slot_at) (defBody s_slot_at) (defScope s_slot_at) .none kV3 dc3 pm3 an3 cd3 ct3), sl3⟩)
    (c3 : PySem.W.codeIn K cd3 "slot_at" = true)
    (k3 : PySem.W.keepIn K (.ref f3) = true)
    (a4 : PySem.W.nsIn K mainGlobals "stretch_of" = some (some (.ref f4)))
    (l4 : K.lookup f4 = some ⟨oc4, od4, .func (PySem.W.fnOf "stretch_of" "stretch_of" (defArgs s_stretch_of) (defBody s_stretch_of) (defScope s_stretch_of) .none kV4 dc4 pm4 an4 cd4 ct4), sl4⟩)
    (c4 : PySem.W.codeIn K cd4 "stretch_of" = true)
    (k4 : PySem.W.keepIn K (.ref f4) = true)
    (a5 : PySem.W.nsIn K mainGlobals "_law_inside" = some (some (.ref f5)))
    (l5 : K.lookup f5 = some ⟨oc5, od5, .func (PySem.W.fnOf "_law_inside" "_law_inside" (defArgs s__law_inside) (defBody s__law_inside) (defScope s__law_inside) .none kV5 dc5 pm5 an5 cd5 ct5), sl5⟩)
    (c5 : PySem.W.codeIn K cd5 "_law_inside" = true)
    (k5 : PySem.W.keepIn K (.ref f5) = true)
    (a6 : PySem.W.nsIn K mainGlobals "_law_key" = some (some (.ref f6)))
    (l6 : K.lookup f6 = some ⟨oc6, od6, .func (PySem.W.fnOf "_law_key" "_law_key" (defArgs s__law_key) (defBody s__law_key) (defScope s__law_key) .none kV6 dc6 pm6 an6 cd6 ct6), sl6⟩)
    (c6 : PySem.W.codeIn K cd6 "_law_key" = true)
    (k6 : PySem.W.keepIn K (.ref f6) = true)
    (a7 : PySem.W.nsIn K mainGlobals "mark_of" = some (some (.ref f7)))
    (l7 : K.lookup f7 = some ⟨oc7, od7, .func (PySem.W.fnOf "mark_of" "mark_of" (defArgs s_mark_of) (defBody s_mark_of) (defScope s_mark_of) .none kV7 dc7 pm7 an7 cd7 ct7), sl7⟩)
    (c7 : PySem.W.codeIn K cd7 "mark_of" = true)
    (k7 : PySem.W.keepIn K (.ref f7) = true)
    (a8 : PySem.W.nsIn K mainGlobals "place_of" = some (some (.ref f8)))
    (l8 : K.lookup f8 = some ⟨oc8, od8, .func (PySem.W.fnOf "place_of" "place_of" (defArgs s_place_of) (defBody s_place_of) (defScope s_place_of) .none kV8 dc8 pm8 an8 cd8 ct8), sl8⟩)
    (c8 : PySem.W.codeIn K cd8 "place_of" = true)
    (k8 : PySem.W.keepIn K (.ref f8) = true)
    (a9 : PySem.W.nsIn K mainGlobals "slot_of" = some (some (.ref f9)))
    (l9 : K.lookup f9 = some ⟨oc9, od9, .func (PySem.W.fnOf "slot_of" "slot_of" (defArgs s_slot_of) (defBody s_slot_of) (defScope s_slot_of) .none kV9 dc9 pm9 an9 cd9 ct9), sl9⟩)
    (c9 : PySem.W.codeIn K cd9 "slot_of" = true)
    (k9 : PySem.W.keepIn K (.ref f9) = true)
    (a10 : PySem.W.nsIn K mainGlobals "_law_key_within" = some (some (.ref f10)))
    (l10 : K.lookup f10 = some ⟨oc10, od10, .func (PySem.W.fnOf "_law_key_within" "_law_key_within" (defArgs s__law_key_within) (defBody s__law_key_within) (defScope s__law_key_within) .none kV10 dc10 pm10 an10 cd10 ct10), sl10⟩)
    (c10 : PySem.W.codeIn K cd10 "_law_key_within" = true)
    (k10 : PySem.W.keepIn K (.ref f10) = true)
    (a11 : PySem.W.nsIn K mainGlobals "_law_order" = some (some (.ref f11)))
    (l11 : K.lookup f11 = some ⟨oc11, od11, .func (PySem.W.fnOf "_law_order" "_law_order" (defArgs s__law_order) (defBody s__law_order) (defScope s__law_order) .none kV11 dc11 pm11 an11 cd11 ct11), sl11⟩)
    (c11 : PySem.W.codeIn K cd11 "_law_order" = true)
    (k11 : PySem.W.keepIn K (.ref f11) = true)
    (a12 : PySem.W.nsIn K mainGlobals "law" = some (some (.ref f12)))
    (l12 : K.lookup f12 = some ⟨oc12, od12, .func (PySem.W.fnOf "law" "law" (defArgs s_law) (defBody s_law) (defScope s_law) .none kV12 dc12 pm12 an12 cd12 ct12), sl12⟩)
    (c12 : PySem.W.codeIn K cd12 "law" = true)
    (k12 : PySem.W.keepIn K (.ref f12) = true)
    (kk_BITS : PySem.W.nsIn K mainGlobals "BITS" = some (some (.int 16 tk_BITS)))
    (kk_PLACES : PySem.W.nsIn K mainGlobals "PLACES" = some (some (.int 65536 tk_PLACES)))
    (z_len : PySem.W.nsIn K mainGlobals "len" = some none)
    (z_min : PySem.W.nsIn K mainGlobals "min" = some none)
    (z_range : PySem.W.nsIn K mainGlobals "range" = some none)
    (z_sorted : PySem.W.nsIn K mainGlobals "sorted" = some none) :
    ∃ fd : FuncData, (∀ (s : Shared) (v : Value), BindsTo s fd ⟨[v], []⟩ [("_law_script", v)]) ∧ ∃ D : Ad, ∀ base : Heap, K.In base → base.Ns mainGlobals mg → FnOk l.prog w K mg base (L2.CX l.prog w) 4 fa fd ["_law_script"] (sp_law K D) := by
  have e := hfa.symm.trans (PySem.W.mg_of X G a12)
  cases e
  have F1 := fun_mk (st := s__law_cell_at) l1 c1 k1
  have b1 := F1.binds (ps := ["_law_script", "_law_k"]) fun _ _ _ _ _ _ us hl => match us, hl with | [_, _], _ => rfl
  have F2 := fun_mk (st := s_turned) l2 c2 k2
  have b2 := F2.binds (ps := ["number"]) fun _ _ _ _ _ _ us hl => match us, hl with | [_], _ => rfl
  have F3 := fun_mk (st := s_slot_at) l3 c3 k3
  have b3 := F3.binds (ps := ["place", "size"]) fun _ _ _ _ _ _ us hl => match us, hl with | [_, _], _ => rfl
  have F4 := fun_mk (st := s_stretch_of) l4 c4 k4
  have b4 := F4.binds (ps := ["slot", "size"]) fun _ _ _ _ _ _ us hl => match us, hl with | [_, _], _ => rfl
  have F5 := fun_mk (st := s__law_inside) l5 c5 k5
  have b5 := F5.binds (ps := ["_law_slot", "_law_size", "_law_great"]) fun _ _ _ _ _ _ us hl => match us, hl with | [_, _, _], _ => rfl
  have F6 := fun_mk (st := s__law_key) l6 c6 k6
  have b6 := F6.binds (ps := ["_law_cell"]) fun _ _ _ _ _ _ us hl => match us, hl with | [_], _ => rfl
  have F7 := fun_mk (st := s_mark_of) l7 c7 k7
  have b7 := F7.binds (ps := ["key"]) fun _ _ _ _ _ _ us hl => match us, hl with | [_], _ => rfl
  have F8 := fun_mk (st := s_place_of) l8 c8 k8
  have b8 := F8.binds (ps := ["key"]) fun _ _ _ _ _ _ us hl => match us, hl with | [_], _ => rfl
  have F9 := fun_mk (st := s_slot_of) l9 c9 k9
  have b9 := F9.binds (ps := ["key", "size"]) fun _ _ _ _ _ _ us hl => match us, hl with | [_, _], _ => rfl
  have F10 := fun_mk (st := s__law_key_within) l10 c10 k10
  have b10 := F10.binds (ps := ["_law_key_here", "_law_size", "_law_great"]) fun _ _ _ _ _ _ us hl => match us, hl with | [_, _, _], _ => rfl
  have F11 := fun_mk (st := s__law_order) l11 c11 k11
  have b11 := F11.binds (ps := ["_law_keys", "_law_size"]) fun _ _ _ _ _ _ us hl => match us, hl with | [_, _], _ => rfl
  have F12 := fun_mk (st := s_law) l12 c12 k12
  have b12 := F12.binds (ps := ["_law_script"]) fun _ _ _ _ _ _ us hl => match us, hl with | [_], _ => rfl
  have T : Txt K mg { a__law_cell_at := f1, d__law_cell_at := _, a_turned := f2, d_turned := _, a_slot_at := f3, d_slot_at := _, a_stretch_of := f4, d_stretch_of := _, a__law_inside := f5, d__law_inside := _, a__law_key := f6, d__law_key := _, a_mark_of := f7, d_mark_of := _, a_place_of := f8, d_place_of := _, a_slot_of := f9, d_slot_of := _, a__law_key_within := f10, d__law_key_within := _, a__law_order := f11, d__law_order := _, a_law := fa, d_law := _, t_BITS := tk_BITS, t_PLACES := tk_PLACES } := { F__law_cell_at := F1, b__law_cell_at := b1, g__law_cell_at := PySem.W.mg_of X G a1, F_turned := F2, b_turned := b2, g_turned := PySem.W.mg_of X G a2, F_slot_at := F3, b_slot_at := b3, g_slot_at := PySem.W.mg_of X G a3, F_stretch_of := F4, b_stretch_of := b4, g_stretch_of := PySem.W.mg_of X G a4, F__law_inside := F5, b__law_inside := b5, g__law_inside := PySem.W.mg_of X G a5, F__law_key := F6, b__law_key := b6, g__law_key := PySem.W.mg_of X G a6, F_mark_of := F7, b_mark_of := b7, g_mark_of := PySem.W.mg_of X G a7, F_place_of := F8, b_place_of := b8, g_place_of := PySem.W.mg_of X G a8, F_slot_of := F9, b_slot_of := b9, g_slot_of := PySem.W.mg_of X G a9, F__law_key_within := F10, b__law_key_within := b10, g__law_key_within := PySem.W.mg_of X G a10, F__law_order := F11, b__law_order := b11, g__law_order := PySem.W.mg_of X G a11, F_law := F12, b_law := b12, g_law := PySem.W.mg_of X G a12, k_BITS := PySem.W.mg_of X G kk_BITS, k_PLACES := PySem.W.mg_of X G kk_PLACES, n_len := PySem.W.mg_none_of X G z_len, n_min := PySem.W.mg_none_of X G z_min, n_range := PySem.W.mg_none_of X G z_range, n_sorted := PySem.W.mg_none_of X G z_sorted }
  exact ⟨_, fun s v => .of_eq rfl, _, fun base _ _ => ok_law T⟩
theorem walk {l : PySem.W.OpenLaw} {q : Program} {loose : List Str} {XP : (Str → Option Value) → Heap → Prop} {YP : World → Heap → Prop} {d : DefRec} {K : Params → PySem.W.Frag} (hn : l.most = some 63) (hdf : d.params.defaults = [])
    (hY : ∀ (w : World) (h : Heap), YP w h → (K w.params).In h)
    (F : ∀ (w : World) (mg : Str → Option Value) (fa : Addr) (h : Heap), (K w.params).In h → h.Ns mainGlobals mg → mg d.name = some (.ref fa) →
      ∃ fd : FuncData, (∀ (s : Shared) (u : Value), BindsTo s fd ⟨[u], []⟩ [("_law_script", u)]) ∧ ∃ D : Ad, ∀ base : Heap, (K w.params).In base → base.Ns mainGlobals mg → FnOk l.prog w (K w.params) mg base (L2.CX l.prog w) 4 fa fd ["_law_script"] (sp_law (K w.params) D)) :
    PySem.W.WalkO q loose XP YP l.row.toRowW d [] (fun f vs => PySem.call f vs) :=
  L2.walk_of (n := 63) (k := 4) (x := "_law_script") (CX := fun w => L2.CX l.prog w) (sp := fun w => spEnd (K w.params)) hn (by decide) hdf ⟨rfl, by decide, by decide⟩ hY
    (fun w mg fa h a b c => by
      obtain ⟨fd, h1, D, h2⟩ := F w mg fa h a b c
      exact ⟨fd, h1, fun base x y => (h2 base x y).imp fun vs H Q E z => sp_law_end z⟩)
    (fun _ H a ns hl hO hS => ⟨.ref a, rfl, a, ns, rfl, hS, hl, fun _ => rfl⟩) fun _ _ _ _ _ z => cx_false z
end Toy
open PySem PySem.W PyProof.Rows
set_option maxRecDepth 100000 in
set_option maxHeartbeats 0 in
theorem PySem.Challenge.cw_staywalk_k06_whole_rows_within_rows_holds : PySem.Challenge.rw_staywalk_k06_whole_rows_within_rows.Holds := by
  w_on; o_law; k_head; (case hw => w_witness2)
  k_fill
  refine Toy.walk (l := PySem.Challenge.rw_staywalk_k06_whole_rows_within_rows) rfl rfl (fun w h Y => PySem.W.kIn_of Y) ?F
  case F =>
    intro w mg fa h KX G hmg
    refine' Toy.all_mk KX G hmg ?a1 ?l1 ?c1 ?k1 ?a2 ?l2 ?c2 ?k2 ?a3 ?l3 ?c3 ?k3 ?a4 ?l4 ?c4 ?k4 ?a5 ?l5 ?c5 ?k5 ?a6 ?l6 ?c6 ?k6 ?a7 ?l7 ?c7 ?k7 ?a8 ?l8 ?c8 ?k8 ?a9 ?l9 ?c9 ?k9 ?a10 ?l10 ?c10 ?k10 ?a11 ?l11 ?c11 ?k11 ?a12 ?l12 ?c12 ?k12 ?kk_BITS ?kk_PLACES ?z_len ?z_min ?z_range ?z_sorted
    (case a1 => k_is)
    (case l1 => k_is)
    (case c1 => k_is)
    (case k1 => k_is)
    (case a2 => k_is)
    (case l2 => k_is)
    (case c2 => k_is)
    (case k2 => k_is)
    (case a3 => k_is)
    (case l3 => k_is)
    (case c3 => k_is)
    (case k3 => k_is)
    (case a4 => k_is)
    (case l4 => k_is)
    (case c4 => k_is)
    (case k4 => k_is)
    (case a5 => k_is)
    (case l5 => k_is)
    (case c5 => k_is)
    (case k5 => k_is)
    (case a6 => k_is)
    (case l6 => k_is)
    (case c6 => k_is)
    (case k6 => k_is)
    (case a7 => k_is)
    (case l7 => k_is)
    (case c7 => k_is)
    (case k7 => k_is)
    (case a8 => k_is)
    (case l8 => k_is)
    (case c8 => k_is)
    (case k8 => k_is)
    (case a9 => k_is)
    (case l9 => k_is)
    (case c9 => k_is)
    (case k9 => k_is)
    (case a10 => k_is)
    (case l10 => k_is)
    (case c10 => k_is)
    (case k10 => k_is)
    (case a11 => k_is)
    (case l11 => k_is)
    (case c11 => k_is)
    (case k11 => k_is)
    (case a12 => k_is)
    (case l12 => k_is)
    (case c12 => k_is)
    (case k12 => k_is)
    (case kk_BITS => k_is)
    (case kk_PLACES => k_is)
    (case z_len => k_is)
    (case z_min => k_is)
    (case z_range => k_is)
    (case z_sorted => k_is)
