import PyProof.Rows.All
import Wide.All
import OpenK.AllK
import Wide.FinOn
import HandS.ForMost
import HandS.ForExc
import HandS.IsInst
import HandS.Flow
import HandS.Wide
import HandS.Style
import KE.KBits
import KE.BitLaws
import KE.KEqDict
import HandS.Iter
import HandS.SortRule
import HandS.ClsMeth
import HandS.ExcInit
import HandS.Defaults
import HandS.SortInts
import HandS.More
import HandS.WordsDict
import HandS.ExcIs
import HandS.ExcField
import HandS.ExcOwn
import KE.KExcIs
import HandS.TryOnly
import HandS.DictComp
import KE.KSortKey
import HandS.SortKw
import HandS.ListItems
import HandS.HotCalls
import PySem.Challenge.RW_staywalk_k11_one_key_kept
set_option Elab.async false
set_option linter.all false
set_option maxRecDepth 100000
set_option maxHeartbeats 4000000
/-! Z1: a small calculus over HandS: what a def may rely on is a list of cells that it owns (L) and a part that stays (B). -/
namespace Z
open PySem L2

abbrev Cell := Addr × HO
/-- B stays for ever, L is owned, both lie in H, apart -/
structure W (B : Hp) (L : List Cell) (H : Hp) : Prop where
  sub : Same B H
  has : ∀ c ∈ L, H c.1 = some c.2
  nd : (L.map (·.1)).Nodup
  out : ∀ c ∈ L, B c.1 = none
def Same' (A B : Hp) : Prop := Same A B
theorem szl {n : Nat} (h : n ≤ 100000) : n ≤ sizeLine := Nat.le_trans h (by decide)
theorem szlt {n : Nat} (h : n < 100000) : n < sizeLine := Nat.lt_of_lt_of_le h (by decide)
theorem same_refl (H : Hp) : Same H H := fun _ _ e => e
theorem same_trans {A B C : Hp} (x : Same A B) (y : Same B C) : Same A C := fun b o e => y b o (x b o e)
theorem same_new {B : Hp} {p : Addr} {o : HO} (h : B p = none) : Same B (upd B p o) := fun b u e => by
  rw [upd_ne (ne_of_none e h)]
  exact e
theorem Same.tq {K : PySem.W.Frag} {H H' : Hp} {a : Addr} {xs : List V} (e : Same H H') (h : SqT K H a xs) : SqT K H' a xs := by
  rcases h with (h | ⟨o, h⟩) | h
  · exact .inl (.inl (e _ _ h))
  · exact .inl (.inr ⟨o, e _ _ h⟩)
  · exact .inr h
theorem Same.rd {A B : Hp} {a : Addr} {o : HO} (s : Same A B) (h : A a = some o) : B a = some o := s _ _ h
theorem Same.sq {K : PySem.W.Frag} {H H' : Hp} {a : Addr} {xs : List V} (e : Same H H') (h : SqL K H a xs) : SqL K H' a xs := L2.Same.seq e h
namespace W
variable {B B' H : Hp} {L L' R : List Cell} {a p : Addr} {o o' : HO}
theorem perm (w : W B L H) (h : L.Perm L') : W B L' H :=
  ⟨w.sub, fun c hc => w.has c (h.mem_iff.mpr hc), (h.map _).nodup_iff.mp w.nd, fun c hc => w.out c (h.mem_iff.mpr hc)⟩
theorem get (w : W B L H) (h : (a, o) ∈ L) : H a = some o := w.has _ h
theorem freeB (w : W B L H) (h : H p = none) : B p = none := by
  cases e : B p with
  | none => rfl
  | some u => rw [w.sub _ _ e] at h; cases h
theorem freeL (w : W B L H) (h : H p = none) : p ∉ L.map (·.1) := fun m => by
  obtain ⟨c, hc, rfl⟩ := List.mem_map.mp m
  rw [w.has c hc] at h
  cases h
/-- a new thing that stays -/
theorem newB (w : W B L H) (h : H p = none) (o : HO) : W (upd B p o) L (upd H p o) := by
  refine ⟨fun b u e => ?_, fun c hc => ?_, w.nd, fun c hc => ?_⟩
  · by_cases q : b = p
    · subst q; rw [upd_same] at e ⊢; exact e
    · rw [upd_ne q] at e ⊢; exact w.sub _ _ e
  · have q : c.1 ≠ p := fun q => w.freeL h (List.mem_map.mpr ⟨c, hc, q⟩)
    rw [upd_ne q]; exact w.has c hc
  · have q : c.1 ≠ p := fun q => w.freeL h (List.mem_map.mpr ⟨c, hc, q⟩)
    rw [upd_ne q]; exact w.out c hc
/-- a new thing that is owned -/
theorem newL (w : W B L H) (h : H p = none) (o : HO) : W B ((p, o) :: L) (upd H p o) := by
  refine ⟨fun b u e => ?_, fun c hc => ?_, ?_, fun c hc => ?_⟩
  · rw [upd_ne (ne_of_none e (w.freeB h))]; exact w.sub _ _ e
  · rcases List.mem_cons.mp hc with rfl | hc
    · exact upd_same
    · have q : c.1 ≠ p := fun q => w.freeL h (List.mem_map.mpr ⟨c, hc, q⟩)
      rw [upd_ne q]; exact w.has c hc
  · exact List.nodup_cons.mpr ⟨w.freeL h, w.nd⟩
  · rcases List.mem_cons.mp hc with rfl | hc
    · exact w.freeB h
    · exact w.out c hc
/-- an owned thing stays from now on -/
theorem give (w : W B ((p, o) :: L) H) : W (upd B p o) L H := by
  have n := List.nodup_cons.mp w.nd
  refine ⟨fun b u e => ?_, fun c hc => w.has c (List.mem_cons_of_mem _ hc), n.2, fun c hc => ?_⟩
  · by_cases q : b = p
    · subst q; rw [upd_same] at e; cases e; exact w.has _ (List.mem_cons_self ..)
    · rw [upd_ne q] at e; exact w.sub _ _ e
  · have q : c.1 ≠ p := fun q => n.1 (List.mem_map.mpr ⟨c, hc, q⟩)
    rw [upd_ne q]; exact w.out c (List.mem_cons_of_mem _ hc)
/-- owned things stay from now on -/
theorem giveAll : ∀ {A : List Cell} {B : Hp}, W B (A ++ L) H → ∃ B', Same B B' ∧ (∀ c ∈ A, B' c.1 = some c.2) ∧ W B' L H
  | [], B, w => ⟨B, same_refl B, fun c h => (nomatch h), w⟩
  | (p, o) :: A, B, w => by
    have h0 := w.out (p, o) (List.mem_cons_self ..)
    obtain ⟨B', s, h, w'⟩ := giveAll (A := A) w.give
    refine ⟨B', same_trans (same_new h0) s, fun c hc => ?_, w'⟩
    rcases List.mem_cons.mp hc with rfl | hc
    · exact s _ _ upd_same
    · exact h c hc
theorem drop (w : W B (L ++ R) H) : W B R H :=
  ⟨w.sub, fun c hc => w.has c (List.mem_append_right _ hc), by have n := w.nd; rw [List.map_append] at n; exact (List.nodup_append.mp n).2.1, fun c hc => w.out c (List.mem_append_right _ hc)⟩
theorem drop1 (w : W B ((p, o) :: L) H) : W B L H := W.drop (L := [(p, o)]) w
theorem outB (w : W B L H) (h : (a, o) ∈ L) : B a = none := w.out _ h
/-- an owned thing is written -/
theorem put (w : W B (L ++ (a, o) :: R) H) (o' : HO) : W B (L ++ (a, o') :: R) (upd H a o') := by
  have n := w.nd
  rw [List.map_append, List.map_cons] at n
  have n1 := List.nodup_append.mp n
  have n2 := List.nodup_cons.mp n1.2.1
  have ha : ∀ c ∈ L ++ R, c.1 ≠ a := fun c hc q => by
    rcases List.mem_append.mp hc with hc | hc
    · exact n1.2.2 _ (List.mem_map.mpr ⟨c, hc, rfl⟩) _ (List.mem_cons_self ..) q
    · exact n2.1 (List.mem_map.mpr ⟨c, hc, q⟩)
  have hm : ∀ c ∈ L ++ (a, o') :: R, c = (a, o') ∨ c ∈ L ++ R := fun c hc => by
    rcases List.mem_append.mp hc with hc | hc
    · exact .inr (List.mem_append_left _ hc)
    · rcases List.mem_cons.mp hc with hc | hc
      · exact .inl hc
      · exact .inr (List.mem_append_right _ hc)
  have hi : ∀ c ∈ L ++ R, c ∈ L ++ (a, o) :: R := fun c hc => by
    rcases List.mem_append.mp hc with hc | hc
    · exact List.mem_append_left _ hc
    · exact List.mem_append_right _ (List.mem_cons_of_mem _ hc)
  have h0 : B a = none := w.out (a, o) (List.mem_append_right _ (List.mem_cons_self ..))
  refine ⟨fun b u e => ?_, fun c hc => ?_, ?_, fun c hc => ?_⟩
  · rw [upd_ne (ne_of_none e h0)]; exact w.sub _ _ e
  · rcases hm c hc with rfl | hc
    · exact upd_same
    · rw [upd_ne (ha c hc)]; exact w.has c (hi c hc)
  · rw [List.map_append, List.map_cons]; exact n
  · rcases hm c hc with rfl | hc
    · exact h0
    · exact w.out c (hi c hc)
theorem put0 (w : W B ((a, o) :: R) H) (o' : HO) : W B ((a, o') :: R) (upd H a o') := put (L := []) w o'
theorem put1 {c1 : Cell} (w : W B (c1 :: (a, o) :: R) H) (o' : HO) : W B (c1 :: (a, o') :: R) (upd H a o') := put (L := [c1]) w o'
theorem put2 {c1 c2 : Cell} (w : W B (c1 :: c2 :: (a, o) :: R) H) (o' : HO) : W B (c1 :: c2 :: (a, o') :: R) (upd H a o') := put (L := [c1, c2]) w o'
theorem put3 {c1 c2 c3 : Cell} (w : W B (c1 :: c2 :: c3 :: (a, o) :: R) H) (o' : HO) : W B (c1 :: c2 :: c3 :: (a, o') :: R) (upd H a o') := put (L := [c1, c2, c3]) w o'
theorem seq {K : PySem.W.Frag} {xs : List V} (w : W B L H) (h : SqL K B a xs) : SqL K H a xs := Same.seq w.sub h
theorem rd (w : W B L H) (h : B a = some o) : H a = some o := w.sub _ _ h
theorem sq {K : PySem.W.Frag} {xs : List V} (w : W B L H) (h : SqL K B a xs) : SqL K H a xs := L2.Same.seq w.sub h
theorem tq {K : PySem.W.Frag} {xs : List V} (w : W B L H) (h : SqT K B a xs) : SqT K H a xs := Z.Same.tq w.sub h
theorem law {K : PySem.W.Frag} {a : Addr} {xs : List V} (h : SqL K H a xs) : ∃ B, SqL K B a xs ∧ W B [] H := ⟨H, h, ⟨same_refl H, by simp, by simp, by simp⟩⟩
theorem nil (H : Hp) : W H [] H := ⟨same_refl H, by simp, by simp, by simp⟩
end W
/-! ### readings, step by step -/
def Br (b : Bool) (A C : Prop) : Prop := if b = true then A else C
def rTst (x : V) (H : Hp) (Q : Bool → Hp → Prop) : Prop := ∃ k, x = .bl k ∧ Q k H
section
variable {K : PySem.W.Frag} {σ : L2.St} {H : Hp} {D : Ends} {t u tb : TS} {te ta tx tc : TE} {tt tu tw : TT} {Q : VK} {R : Bool → Hp → Prop} {v x y : V} {b : Bool} {A C : Prop} {i : Nat} {g : TG} {r r' : R2}
theorem g_seq (h : t { D with nx := u D } σ H) : tSeq t u D σ H := h
theorem g_next (h : D.nx σ H) : tNext D σ H := h
theorem g_brk (h : D.bk σ H) : tBreak D σ H := h
theorem g_cont (h : D.ct σ H) : tCont D σ H := h
theorem g_asg (h : te σ H fun x H1 => g x σ H1 D.nx) : tAsg te g D σ H := h
theorem g_name {Q : L2.St → Hp → Prop} (h : Q (σ.set i (some v)) H) : gName i v σ H Q := h
theorem g_dropE (h : te σ H fun _ H1 => D.nx σ H1) : tDrop te D σ H := h
theorem g_ret (h : te σ H D.rt) : tRet te D σ H := h
theorem g_retN (h : D.rt .non H) : tRetN D σ H := h
theorem g_ifS (h : tt σ H fun b H1 => Br b (t D σ H1) (u D σ H1)) : tIfS tt t u D σ H := h
theorem g_ifJ (J : L2.St → Hp → Prop) (hJ : ∀ σ' H', J σ' H' → D.nx σ' H') (h : ∀ N : L2.St → Hp → Prop, (∀ σ' H', J σ' H' → N σ' H') → tt σ H fun b H1 => Br b (t { D with nx := N } σ H1) (u { D with nx := N } σ H1)) : tIfS tt t u D σ H := h D.nx hJ
theorem g_test (h : te σ H fun x H1 => rTst x H1 R) : tTest te σ H R := h
theorem g_tB (h : te σ H fun x H1 => rTst x H1 R) : tB te σ H R := h
theorem g_tst (h : R b H) : rTst (.bl b) H R := ⟨b, rfl, h⟩
theorem g_and (h : tt σ H fun b H1 => Br b (tu σ H1 R) (R false H1)) : tAnd tt tu σ H R := h
theorem g_or (h : tt σ H fun b H1 => Br b (R true H1) (tu σ H1 R)) : tOr tt tu σ H R := h
theorem g_not (h : tt σ H fun b H1 => R (!b) H1) : tNot tt σ H R := h
theorem g_andV (h : te σ H fun x H1 => rTst x H1 fun b H1 => Br b (tx σ H1 Q) (Q (.bl false) H1)) : tAndV te tx σ H Q := h
theorem g_orV (h : te σ H fun x H1 => rTst x H1 fun b H1 => Br b (Q (.bl true) H1) (tx σ H1 Q)) : tOrV te tx σ H Q := h
theorem g_notV (h : te σ H fun x H1 => rTst x H1 fun b H1 => Q (.bl (!b)) H1) : tNotV te σ H Q := h
theorem g_if (h : tt σ H fun b H1 => Br b (te σ H1 Q) (tx σ H1 Q)) : tIf tt te tx σ H Q := h
theorem g_yes (h : R true H) : tYes σ H R := h
theorem g_var (e : σ[i]? = some (some v)) (h : Q v H) : tVar i σ H Q := ⟨v, e, h⟩
theorem g_c (h : Q v H) : tC v σ H Q := h
theorem g_op (h : ta σ H fun x H1 => tx σ H1 fun y H2 => r x y H2 Q) : tOp r ta tx σ H Q := h
theorem g_un {r : V → Hp → VK → Prop} (h : ta σ H fun x H1 => r x H1 Q) : tUn r ta σ H Q := h
theorem g_chain (h : ta σ H fun x H1 => tx σ H1 fun y H2 => r x y H2 fun z H3 => rTst z H3 fun k H4 => Br k (tc σ H4 fun w' H4 => r' y w' H4 Q) (Q (.bl false) H4)) : tChain r r' ta tx tc σ H Q := h
theorem g_cb {r : List V → Hp → VK → Prop} {t : TA} (h : t σ H fun vs H1 => r vs H1 Q) : tCB r t σ H Q := h
theorem g_nil {Q : List V → Hp → Prop} (h : Q [] H) : tNil σ H Q := h
theorem g_cons {tr : TA} {Q : List V → Hp → Prop} (h : te σ H fun x H1 => tr σ H1 fun xs H2 => Q (x :: xs) H2) : tCons te tr σ H Q := h
theorem g_call {sp : Sp} {dvs : List V} {E : XK} {t : TA} (h : t σ H fun vs H1 => sp (vs ++ dvs) H1 Q E) : tCall sp dvs E t σ H Q := h
theorem g_aug {ti : TIp} (e : σ[i]? = some (some v)) (h : te σ H fun y H1 => ti v y H1 fun z H2 => D.nx (σ.set i (some z)) H2) : tAug i te ti D σ H := ⟨v, e, h⟩
theorem g_ip {f : Int → Int → Int} {m n : Int} (h : Q (.int (f m n)) H) : ipI f (.int m) (.int n) H Q := ⟨m, n, rfl, rfl, h⟩
theorem r_I {Cc : Int → Int → Prop} {gg : Int → Int → V} {m n : Int} (c : Cc m n) (h : Q (gg m n) H) : rI Cc gg (.int m) (.int n) H Q := ⟨m, n, rfl, rfl, c, h⟩
theorem r_I0 {gg : Int → Int → V} {m n : Int} (h : Q (gg m n) H) : rI0 gg (.int m) (.int n) H Q := ⟨m, n, rfl, rfl, h⟩
theorem r_U {gg : Int → V} {m : Int} (h : Q (gg m) H) : rU gg (.int m) H Q := ⟨m, rfl, h⟩
theorem dec_ii {m n : Int} : decide (V.int m = V.int n) = decide (m = n) := by simp
theorem dec_bb {m n : Bool} : decide (V.bl m = V.bl n) = decide (m = n) := by simp
theorem dec_ss {m n : Str} : decide (V.str m = V.str n) = decide (m = n) := by simp
theorem r_eqI {m n : Int} (h : Q (.bl (decide (m = n))) H) : rEq (.int m) (.int n) H Q := ⟨rfl, by rw [dec_ii]; exact h⟩
theorem r_neI {m n : Int} (h : Q (.bl (!decide (m = n))) H) : rNe (.int m) (.int n) H Q := ⟨rfl, by rw [dec_ii]; exact h⟩
theorem r_eqB {m n : Bool} (h : Q (.bl (decide (m = n))) H) : rEq (.bl m) (.bl n) H Q := ⟨rfl, by rw [dec_bb]; exact h⟩
theorem r_neB {m n : Bool} (h : Q (.bl (!decide (m = n))) H) : rNe (.bl m) (.bl n) H Q := ⟨rfl, by rw [dec_bb]; exact h⟩
theorem r_eqS {m n : Str} (h : Q (.bl (decide (m = n))) H) : rEq (.str m) (.str n) H Q := ⟨rfl, by rw [dec_ss]; exact h⟩
theorem r_neS {m n : Str} (h : Q (.bl (!decide (m = n))) H) : rNe (.str m) (.str n) H Q := ⟨rfl, by rw [dec_ss]; exact h⟩
def rTupN (Q : VK) (xs : List V) (H1 : Hp) : Prop := xs.length ≤ sizeLine ∧ ∀ p, H1 p = none → Q (.ref p) (upd H1 p (.tup xs))
def rLstN (Q : VK) (xs : List V) (H1 : Hp) : Prop := xs.length ≤ sizeLine ∧ ∀ p, H1 p = none → Q (.ref p) (upd H1 p (.lst xs))
theorem r_isB {m n : Bool} (h : Q (.bl (decide (m = n))) H) : rIsB (.bl m) (.bl n) H Q := ⟨m, n, rfl, rfl, h⟩
theorem r_notB {m n : Bool} (h : Q (.bl (!decide (m = n))) H) : rNotB (.bl m) (.bl n) H Q := ⟨m, n, rfl, rfl, h⟩
theorem r_tup {ta : TA} (h : ta σ H (rTupN Q)) : tTup ta σ H Q := h
theorem r_lst {ta : TA} (h : ta σ H (rLstN Q)) : tLst ta σ H Q := h
/-! new things that stay -/
section
variable {B : Hp} {L : List Cell} {xs ys : List V}
theorem d_tup (w : W B L H) (hl : xs.length ≤ sizeLine) (q : ∀ p B' H', H p = none → Same B B' → B' p = some (.tup xs) → W B' L H' → Q (.ref p) H') : rTupN Q xs H :=
  ⟨hl, fun p hp => q p _ _ hp (same_new (w.freeB hp)) upd_same (w.newB hp _)⟩
theorem d_lst (w : W B L H) (hl : xs.length ≤ sizeLine) (q : ∀ p B' H', H p = none → Same B B' → B' p = some (.lst xs) → W B' L H' → Q (.ref p) H') : rLstN Q xs H :=
  ⟨hl, fun p hp => q p _ _ hp (same_new (w.freeB hp)) upd_same (w.newB hp _)⟩
theorem d_dnew (w : W B L H) (q : ∀ p B' H', H p = none → Same B B' → B' p = some (.dK []) → W B' L H' → Q (.ref p) H') : tDNewK σ H Q :=
  fun p hp => q p _ _ hp (same_new (w.freeB hp)) upd_same (w.newB hp _)
theorem d_cat {a b : Addr} (w : W B L H) (h1 : H a = some (.lst xs)) (h2 : H b = some (.lst ys)) (hl : xs.length + ys.length ≤ sizeLine)
    (q : ∀ p B' H', H p = none → Same B B' → B' p = some (.lst (xs ++ ys)) → W B' L H' → Q (.ref p) H') : rCat (.ref a) (.ref b) H Q :=
  ⟨a, b, xs, ys, rfl, rfl, h1, h2, hl, fun p hp => q p _ _ hp (same_new (w.freeB hp)) upd_same (w.newB hp _)⟩
theorem d_slL {a : Addr} {lo hi : Option Int} (w : W B L H) (h : SqL K H a xs) (q : ∀ p B' H', H p = none → Same B B' → B' p = some (.lst (cutV xs lo hi)) → W B' L H' → Q (.ref p) H') : rSlL K (.ref a) lo hi H Q :=
  ⟨a, xs, rfl, h, fun p hp => q p _ _ hp (same_new (w.freeB hp)) upd_same (w.newB hp _)⟩
/-! new things that are owned -/
theorem o_lst (w : W B L H) (hl : xs.length ≤ sizeLine) (q : ∀ p H', H p = none → W B ((p, .lst xs) :: L) H' → Q (.ref p) H') : rLstN Q xs H :=
  ⟨hl, fun p hp => q p _ hp (w.newL hp _)⟩
theorem o_dnew (w : W B L H) (q : ∀ p H', H p = none → W B ((p, .dK []) :: L) H' → Q (.ref p) H') : tDNewK σ H Q :=
  fun p hp => q p _ hp (w.newL hp _)
end
section
variable {r1 r2 r3 r4 : R2} {t1 t2 t3 t4 t5 : TE}
end
/-! branches -/
theorem br {p : Prop} [Decidable p] (h1 : p → A) (h2 : ¬ p → C) : Br (decide p) A C := by
  unfold Br
  by_cases h : p
  · rw [if_pos (decide_eq_true h)]; exact h1 h
  · rw [if_neg (by simp [h])]; exact h2 h
theorem brN {p : Prop} [Decidable p] (h1 : ¬ p → A) (h2 : p → C) : Br (!decide p) A C := by
  unfold Br
  by_cases h : p
  · rw [if_neg (by simp [h])]; exact h2 h
  · rw [if_pos (by simp [h])]; exact h1 h
theorem br_pt {p : Prop} [Decidable p] (c : p) (h : A) : Br (decide p) A C := br (fun _ => h) fun n => (n c).elim
theorem br_pf {p : Prop} [Decidable p] (c : ¬ p) (h : C) : Br (decide p) A C := br (fun n => (c n).elim) fun _ => h
theorem br_nt {p : Prop} [Decidable p] (c : ¬ p) (h : A) : Br (!decide p) A C := brN (fun _ => h) fun n => (c n).elim
theorem br_nf {p : Prop} [Decidable p] (c : p) (h : C) : Br (!decide p) A C := brN (fun n => (n c).elim) fun _ => h
theorem brB (h1 : b = true → A) (h2 : b = false → C) : Br b A C := by
  unfold Br
  cases b
  · rw [if_neg (by simp)]; exact h2 rfl
  · rw [if_pos rfl]; exact h1 rfl
theorem brBN (h1 : b = false → A) (h2 : b = true → C) : Br (!b) A C := by
  cases b
  · exact brB (fun _ => h1 rfl) (fun z => nomatch z)
  · exact brB (fun z => nomatch z) (fun _ => h2 rfl)
theorem brT (h : A) : Br true A C := by unfold Br; rw [if_pos rfl]; exact h
theorem brF (h : C) : Br false A C := by unfold Br; rw [if_neg (by simp)]; exact h
theorem br_rn {p : Addr} (h : C) : Br (decide (V.ref p = V.non)) A C := br_pf nofun h
theorem br_in {n : Int} (h : C) : Br (decide (V.int n = V.non)) A C := br_pf nofun h
theorem br_sn {n : Str} (h : C) : Br (decide (V.str n = V.non)) A C := br_pf nofun h
theorem br_nn (h : A) : Br (decide (V.non = V.non)) A C := br_pt rfl h
theorem brN_rn {p : Addr} (h : A) : Br (!decide (V.ref p = V.non)) A C := br_nt nofun h
theorem brN_in {n : Int} (h : A) : Br (!decide (V.int n = V.non)) A C := br_nt nofun h
theorem brN_sn {n : Str} (h : A) : Br (!decide (V.str n = V.non)) A C := br_nt nofun h
theorem brN_nn (h : C) : Br (!decide (V.non = V.non)) A C := br_nf rfl h
theorem brNT (h : C) : Br (!true) A C := brF h
theorem brNF (h : A) : Br (!false) A C := brT h
theorem br_t (e : b = true) (h : A) : Br b A C := by rw [e]; exact brT h
theorem br_f (e : b = false) (h : C) : Br b A C := by rw [e]; exact brF h
end
/-! ### loops, by the turn -/
def FOR (J : It) (g : TG) (tb : TS) (D : Ends) (σ : L2.St) (H1 : Hp) : Prop := ∃ W : Nat → Nat → L2.St → Hp → Prop, (∃ m, W 0 m σ H1) ∧ ∀ i m σ H, W i m σ H →
  (J.stop i H ∧ D.nx σ H) ∨ (J.go i H ∧ ∃ N : L2.St → Hp → Prop, (∀ σ' H', N σ' H' → ∃ m', m' < m ∧ W (i + 1) m' σ' H') ∧ ∀ x H', J.yld i H x H' → g x σ H' fun σ2 H2 => tb { D with nx := N, ct := N, bk := D.nx } σ2 H2)
section
variable {K : PySem.W.Frag} {σ : L2.St} {H : Hp} {D : Ends} {tb : TS} {g : TG} {wi : TI} {R : It → Hp → Prop}
theorem g_for (h : wi σ H fun J H1 => FOR J g tb D σ H1) : tFor wi g tb D σ H := h
def rRng1 (R : It → Hp → Prop) (vs : List V) (H1 : Hp) : Prop := ∃ j : Int, vs = [.int j] ∧ -(2 ^ 62) ≤ j ∧ j < 2 ^ 62 ∧ R (Itr 0 j.toNat) H1
def rRng2 (R : It → Hp → Prop) (vs : List V) (H1 : Hp) : Prop := ∃ i j : Int, vs = [.int i, .int j] ∧ (-(2 ^ 62) ≤ i ∧ i < 2 ^ 62 ∧ -(2 ^ 62) ≤ j ∧ j < 2 ^ 62) ∧ R (Itr i (j - i).toNat) H1
def rIl (K : PySem.W.Frag) (R : It → Hp → Prop) (x : V) (H1 : Hp) : Prop := ∃ a, x = .ref a ∧ (∃ xs, SqL K H1 a xs) ∧ R (Itl K a) H1
def rIt (K : PySem.W.Frag) (R : It → Hp → Prop) (x : V) (H1 : Hp) : Prop := ∃ a, x = .ref a ∧ (∃ xs, SqT K H1 a xs) ∧ R (Itt K a) H1
theorem g_rng1 {ta : TA} (h : ta σ H (rRng1 R)) : iRng1 ta σ H R := h
theorem g_rng2 {ta : TA} (h : ta σ H (rRng2 R)) : iRng2 ta σ H R := h
theorem g_ilist {tl : TE} (h : tl σ H (rIl K R)) : iList K tl σ H R := h
theorem g_itup {tl : TE} (h : tl σ H (rIt K R)) : iTup K tl σ H R := h
theorem r_rng1 {m : Int} (h : -(2 ^ 62) ≤ m ∧ m < 2 ^ 62) (q : R (Itr 0 m.toNat) H) : rRng1 R [.int m] H := ⟨m, rfl, h.1, h.2, q⟩
theorem r_rng2 {i j : Int} (h : -(2 ^ 62) ≤ i ∧ i < 2 ^ 62 ∧ -(2 ^ 62) ≤ j ∧ j < 2 ^ 62) (q : R (Itr i (j - i).toNat) H) : rRng2 R [.int i, .int j] H := ⟨i, j, rfl, h, q⟩
theorem r_il {a : Addr} {xs : List V} (h : SqL K H a xs) (q : R (Itl K a) H) : rIl K R (.ref a) H := ⟨a, rfl, ⟨xs, h⟩, q⟩
theorem r_it {a : Addr} {xs : List V} (h : SqT K H a xs) (q : R (Itt K a) H) : rIt K R (.ref a) H := ⟨a, rfl, ⟨xs, h⟩, q⟩
/-- a loop over lo, lo + 1, .. -/
theorem FOR.range {lo : Int} {n : Nat} (Pv : Nat → L2.St → Hp → Prop) (h0 : Pv 0 σ H)
    (hs : ∀ i σ H, i < n → Pv i σ H → g (.int (lo + i)) σ H fun σ2 H2 => tb { D with nx := Pv (i + 1), ct := Pv (i + 1), bk := D.nx } σ2 H2) (hd : ∀ σ H, Pv n σ H → D.nx σ H) : FOR (Itr lo n) g tb D σ H :=
  for_range Pv h0 hs hd
theorem FOR.list {a : Addr} {xs : List V} (Pv : Nat → L2.St → Hp → Prop) (h0 : Pv 0 σ H) (hl : ∀ i σ H, i ≤ xs.length → Pv i σ H → SqL K H a xs)
    (hs : ∀ i x σ H, xs[i]? = some x → Pv i σ H → g x σ H fun σ2 H2 => tb { D with nx := Pv (i + 1), ct := Pv (i + 1), bk := D.nx } σ2 H2) (hd : ∀ σ H, Pv xs.length σ H → D.nx σ H) : FOR (Itl K a) g tb D σ H :=
  for_list Pv h0 hl hs hd
/-- .. both ways out (the end, a break) by one word J -/
theorem FOR.listJ {a : Addr} {xs : List V} (J : L2.St → Hp → Prop) (hJ : ∀ σ H, J σ H → D.nx σ H) (Pv : Nat → L2.St → Hp → Prop) (h0 : Pv 0 σ H) (hl : ∀ i σ H, i ≤ xs.length → Pv i σ H → SqL K H a xs)
    (hs : ∀ N : L2.St → Hp → Prop, (∀ σ' H', J σ' H' → N σ' H') → ∀ i x σ H, xs[i]? = some x → Pv i σ H → g x σ H fun σ2 H2 => tb { D with nx := Pv (i + 1), ct := Pv (i + 1), bk := N } σ2 H2) (hd : ∀ σ H, Pv xs.length σ H → J σ H) : FOR (Itl K a) g tb D σ H :=
  FOR.list (K := K) Pv h0 hl (hs D.nx hJ) fun σ H p => hJ _ _ (hd σ H p)
theorem FOR.tup {a : Addr} {xs : List V} (Pv : Nat → L2.St → Hp → Prop) (h0 : Pv 0 σ H) (hl : ∀ i σ H, i ≤ xs.length → Pv i σ H → SqT K H a xs)
    (hs : ∀ i x σ H, xs[i]? = some x → Pv i σ H → g x σ H fun σ2 H2 => tb { D with nx := Pv (i + 1), ct := Pv (i + 1), bk := D.nx } σ2 H2) (hd : ∀ σ H, Pv xs.length σ H → D.nx σ H) : FOR (Itt K a) g tb D σ H :=
  for_tup Pv h0 hl hs hd
end
def LC (J : It) (D : Addr) (g : TG) (tt : TT) (te : TE) (vs : List Nat) (σ : L2.St) (H1 : Hp) (Q : VK) : Prop := ∃ W : Nat → Nat → Hp → Prop, (∃ m, W 0 m (upd H1 D (.lst []))) ∧ ∀ i m H, W i m H →
  (J.stop i H ∧ Q (.ref D) H) ∨ (J.go i H ∧ ∃ Nx : Hp → Prop, (∀ H', Nx H' → ∃ m', m' < m ∧ W (i + 1) m' H') ∧ ∀ x H', J.yld i H x H' → g x (wipe σ vs) H' fun σ2 H2 => wipe σ2 vs = wipe σ vs ∧ tt σ2 H2 fun b H3 =>
    if b = true then te σ2 H3 fun y H4 => ∃ acc, H4 D = some (.lst acc) ∧ acc.length < sizeLine ∧ Nx (upd H4 D (.lst (acc ++ [y]))) else Nx H3)
/-- what an element's making asks: the items so far stand at D, one more comes -/
def rAcc (D : Addr) (Nx : Hp → Prop) (y : V) (H4 : Hp) : Prop := ∃ acc, H4 D = some (.lst acc) ∧ acc.length < sizeLine ∧ Nx (upd H4 D (.lst (acc ++ [y])))
theorem g_lc {wi : TI} {g : TG} {tt : TT} {te : TE} {vs : List Nat} {σ : L2.St} {H : Hp} {Q : VK} (h : wi σ H fun J H1 => ∀ D, H1 D = none → LC J D g tt te vs σ H1 Q) : tLc wi g tt te vs σ H Q := h
section
variable {K : PySem.W.Frag} {B H H1 : Hp} {L : List Cell} {D : Addr} {Q : VK} {g : TG} {tt : TT} {te : TE} {vs : List Nat} {σ : L2.St} {acc : List V} {y : V} {Nx : Hp → Prop}
theorem r_acc (w : W B ((D, .lst acc) :: L) H) (hl : acc.length < sizeLine) (h : ∀ H', W B ((D, .lst (acc ++ [y])) :: L) H' → Nx H') : rAcc D Nx y H :=
  ⟨acc, w.has _ (List.mem_cons_self ..), hl, h _ (w.put0 _)⟩
/-- a comprehension over a list of what stays: Pv i B acc, what the first i items have given -/
theorem LC.list {a : Addr} {xs : List V} (w : W B L H1) (hD : H1 D = none) (hx : SqL K B a xs) (hlen : xs.length < sizeLine) (Pv : Nat → Hp → List V → Prop) (h0 : Pv 0 B [])
    (hs : ∀ i x B' acc H (Nx : Hp → Prop), xs[i]? = some x → Same B B' → W B' ((D, .lst acc) :: L) H → Pv i B' acc → acc.length ≤ i → acc.length < sizeLine →
      (∀ B'' acc' H', Same B' B'' → W B'' ((D, .lst acc') :: L) H' → Pv (i + 1) B'' acc' → acc'.length ≤ i + 1 → Nx H') →
      g x (wipe σ vs) H fun σ2 H2 => wipe σ2 vs = wipe σ vs ∧ tt σ2 H2 fun b H3 => Br b (te σ2 H3 (rAcc D Nx)) (Nx H3))
    (hd : ∀ B' B'' acc H, Same B B'' → Same' B' B'' → B'' D = some (.lst acc) → W B'' L H → Pv xs.length B' acc → acc.length ≤ xs.length → Q (.ref D) H) : LC (Itl K a) D g tt te vs σ H1 Q := by
  refine lc_list (K := K) (a := a) (xs := xs) (fun i H => ∃ B' acc, Same B B' ∧ W B' ((D, .lst acc) :: L) H ∧ Pv i B' acc ∧ acc.length ≤ i) ⟨B, [], same_refl B, w.newL hD _, h0, Nat.le_refl _⟩
    (fun i H _ ⟨B', acc, s, w', _⟩ => Same.seq (same_trans s w'.sub) hx) ?_ (fun H ⟨B', acc, s, w', p, l⟩ => hd B' _ acc H (same_trans s (same_new (w'.out _ (List.mem_cons_self ..)))) (same_new (w'.out _ (List.mem_cons_self ..))) upd_same w'.give p l)
  rintro i x H hi ⟨B', acc, s, w', p, l⟩
  have hil := (List.getElem?_eq_some_iff.mp hi).1
  exact hs i x B' acc H _ hi s w' p l (by omega) fun B'' acc' H' s' w'' p' l' => ⟨B'', acc', same_trans s s', w'', p', l'⟩
theorem LC.range {lo : Int} {n : Nat} (w : W B L H1) (hD : H1 D = none) (hlen : n < sizeLine) (Pv : Nat → Hp → List V → Prop) (h0 : Pv 0 B [])
    (hs : ∀ (i : Nat) B' acc H (Nx : Hp → Prop), i < n → Same B B' → W B' ((D, .lst acc) :: L) H → Pv i B' acc → acc.length ≤ i → acc.length < sizeLine →
      (∀ B'' acc' H', Same B' B'' → W B'' ((D, .lst acc') :: L) H' → Pv (i + 1) B'' acc' → acc'.length ≤ i + 1 → Nx H') →
      g (.int (lo + i)) (wipe σ vs) H fun σ2 H2 => wipe σ2 vs = wipe σ vs ∧ tt σ2 H2 fun b H3 => Br b (te σ2 H3 (rAcc D Nx)) (Nx H3))
    (hd : ∀ B' B'' acc H, Same B B'' → Same' B' B'' → B'' D = some (.lst acc) → W B'' L H → Pv n B' acc → acc.length ≤ n → Q (.ref D) H) : LC (Itr lo n) D g tt te vs σ H1 Q := by
  refine lc_range (lo := lo) (n := n) (fun i H => ∃ B' acc, Same B B' ∧ W B' ((D, .lst acc) :: L) H ∧ Pv i B' acc ∧ acc.length ≤ i) ⟨B, [], same_refl B, w.newL hD _, h0, Nat.le_refl _⟩
    ?_ (fun H ⟨B', acc, s, w', p, l⟩ => hd B' _ acc H (same_trans s (same_new (w'.out _ (List.mem_cons_self ..)))) (same_new (w'.out _ (List.mem_cons_self ..))) upd_same w'.give p l)
  rintro i H hi ⟨B', acc, s, w', p, l⟩
  exact hs i B' acc H _ hi s w' p l (by omega) fun B'' acc' H' s' w'' p' l' => ⟨B'', acc', same_trans s s', w'', p', l'⟩
end
section
variable {K : PySem.W.Frag} {B H H1 : Hp} {L : List Cell} {D : Addr} {Q : VK} {g : TG} {tt : TT} {te : TE} {vs : List Nat} {σ : L2.St} {acc : List V} {y : V} {Nx : Hp → Prop}
/-- a comprehension over a list, owned or not; what it makes may be owned, too (A) -/
theorem LC.listA {a : Addr} {xs : List V} (w : W B L H1) (hD : H1 D = none) (hx : ∀ B' A acc H, Same B B' → W B' ((D, .lst acc) :: (A ++ L)) H → SqL K H a xs) (hlen : xs.length < sizeLine) (Pv : Nat → Hp → List Cell → List V → Prop) (h0 : Pv 0 B [] [])
    (hs : ∀ i x B' A acc H (Nx : Hp → Prop), xs[i]? = some x → Same B B' → W B' ((D, .lst acc) :: (A ++ L)) H → Pv i B' A acc → acc.length ≤ i → acc.length < sizeLine →
      (∀ B'' A' acc' H', Same B' B'' → W B'' ((D, .lst acc') :: (A' ++ L)) H' → Pv (i + 1) B'' A' acc' → acc'.length ≤ i + 1 → Nx H') →
      g x (wipe σ vs) H fun σ2 H2 => wipe σ2 vs = wipe σ vs ∧ tt σ2 H2 fun b H3 => Br b (te σ2 H3 (rAcc D Nx)) (Nx H3))
    (hd : ∀ B' A acc H, Same B B' → W B' ((D, .lst acc) :: (A ++ L)) H → Pv xs.length B' A acc → acc.length ≤ xs.length → Q (.ref D) H) : LC (Itl K a) D g tt te vs σ H1 Q := by
  refine lc_list (K := K) (a := a) (xs := xs) (fun i H => ∃ B' A acc, Same B B' ∧ W B' ((D, .lst acc) :: (A ++ L)) H ∧ Pv i B' A acc ∧ acc.length ≤ i) ⟨B, [], [], same_refl B, w.newL hD _, h0, Nat.le_refl _⟩
    (fun i H _ ⟨B', A, acc, s, w', _⟩ => hx B' A acc H s w') ?_ (fun H ⟨B', A, acc, s, w', p, l⟩ => hd B' A acc H s w' p l)
  rintro i x H hi ⟨B', A, acc, s, w', p, l⟩
  have hil := (List.getElem?_eq_some_iff.mp hi).1
  exact hs i x B' A acc H _ hi s w' p l (by omega) fun B'' A' acc' H' s' w'' p' l' => ⟨B'', A', acc', same_trans s s', w'', p', l'⟩
end
/-! ### slices, subscripts -/
def rPart (Q : Option Int → Hp → Prop) (x : V) (H : Hp) : Prop := ∃ i, x = .int i ∧ Q (some i) H
section
variable {K : PySem.W.Frag} {σ : L2.St} {H : Hp} {Q : VK} {te : TE} {tl th : TO}
theorem g_sl {r : V → Option Int → Option Int → Hp → VK → Prop} (h : te σ H fun x H1 => tl σ H1 fun l H2 => th σ H2 fun u H3 => r x l u H3 Q) : tSl r te tl th σ H Q := h
theorem g_nopart {Q : Option Int → Hp → Prop} (h : Q none H) : tNoPart σ H Q := h
theorem g_part {Q : Option Int → Hp → Prop} (h : te σ H (rPart Q)) : tPart te σ H Q := h
theorem r_part {Q : Option Int → Hp → Prop} {i : Int} (h : Q (some i) H) : rPart Q (.int i) H := ⟨i, rfl, h⟩
theorem r_slL {a : Addr} {xs : List V} {lo hi : Option Int} (h : SqL K H a xs) (q : ∀ p, H p = none → Q (.ref p) (upd H p (.lst (cutV xs lo hi)))) : rSlL K (.ref a) lo hi H Q := ⟨a, xs, rfl, h, q⟩
def cutI (ns : List Int) (lo hi : Option Int) : List Int := (ns.drop (HT.sIx ns.length 0 lo)).take (HT.sIx ns.length ns.length hi - HT.sIx ns.length 0 lo)
theorem cutV_int (ns : List Int) (lo hi : Option Int) : cutV (ns.map V.int) lo hi = (cutI ns lo hi).map V.int := by
  unfold cutV cutI
  rw [List.length_map, List.map_take, List.map_drop]
theorem cutI_len (ns : List Int) (lo hi : Option Int) : (cutI ns lo hi).length ≤ ns.length := by
  unfold cutI
  rw [List.length_take, List.length_drop]
  omega
theorem cutI_take (ns : List Int) (k : Nat) : cutI ns none (some (k : Int)) = ns.take k := by
  unfold cutI
  simp only [HT.sIx]
  rw [if_neg (by omega)]
  simp
theorem cutI_drop (ns : List Int) (k : Nat) : cutI ns (some (k : Int)) none = ns.drop k := by
  unfold cutI
  simp only [HT.sIx]
  rw [if_neg (by omega), Int.toNat_natCast]
  by_cases h : k ≤ ns.length
  · rw [Nat.min_eq_left h]
    exact List.take_of_length_le (by simp)
  · rw [List.drop_eq_nil_of_le (show ns.length ≤ k by omega)]
    simp
    omega
theorem r_ixL {a : Addr} {xs : List V} {i : Int} {v : V} (h : SqL K H a xs) (e : atI xs i = some v) (q : Q v H) : rIxL K (.ref a) (.int i) H Q := ⟨a, xs, i, v, rfl, rfl, h, e, q⟩
theorem r_ixT {a : Addr} {xs : List V} {i : Int} {v : V} (h : SqT K H a xs) (e : atI xs i = some v) (q : Q v H) : rIxT K (.ref a) (.int i) H Q := ⟨a, xs, i, v, rfl, rfl, h, e, q⟩
theorem r_t0 {a : Addr} {xs : List V} {v : V} (h : SqT K H a (v :: xs)) (q : Q v H) : rIxT K (.ref a) (.int 0) H Q := by
  refine ⟨a, v :: xs, 0, v, rfl, rfl, h, ?_, q⟩
  unfold atI ixN
  rw [if_pos (by decide), if_pos (by simp only [List.length_cons]; omega)]
  rfl
theorem r_t1 {a : Addr} {xs : List V} {u v : V} (h : SqT K H a (u :: v :: xs)) (q : Q v H) : rIxT K (.ref a) (.int 1) H Q := by
  refine ⟨a, u :: v :: xs, 1, v, rfl, rfl, h, ?_, q⟩
  unfold atI ixN
  rw [if_pos (by decide), if_pos (by simp only [List.length_cons]; omega)]
  rfl
theorem r_t2 {a : Addr} {xs : List V} {u z v : V} (h : SqT K H a (u :: z :: v :: xs)) (q : Q v H) : rIxT K (.ref a) (.int 2) H Q := by
  refine ⟨a, u :: z :: v :: xs, 2, v, rfl, rfl, h, ?_, q⟩
  unfold atI ixN
  rw [if_pos (by decide), if_pos (by simp only [List.length_cons]; omega)]
  rfl
theorem getV {ns : List Int} {i : Nat} {x : V} (h : (ns.map V.int)[i]? = some x) : ∃ n, x = .int n ∧ ns[i]? = some n ∧ i < ns.length := by
  rw [List.getElem?_map] at h
  cases e : ns[i]? with
  | none => rw [e] at h; cases h
  | some n => rw [e] at h; exact ⟨n, (Option.some.inj h).symm, rfl, (List.getElem?_eq_some_iff.mp e).1⟩
end
/-! ### promises by the number of arguments -/
def Sp0 (φ : Hp → VK → XK → Prop) : Sp := fun vs H Q E => vs = [] ∧ φ H Q E
def Sp1 (φ : V → Hp → VK → XK → Prop) : Sp := fun vs H Q E => ∃ x, vs = [x] ∧ φ x H Q E
def Sp2 (φ : V → V → Hp → VK → XK → Prop) : Sp := fun vs H Q E => ∃ x y, vs = [x, y] ∧ φ x y H Q E
def Sp3 (φ : V → V → V → Hp → VK → XK → Prop) : Sp := fun vs H Q E => ∃ x y z, vs = [x, y, z] ∧ φ x y z H Q E
def Sp4 (φ : V → V → V → V → Hp → VK → XK → Prop) : Sp := fun vs H Q E => ∃ x y z u, vs = [x, y, z, u] ∧ φ x y z u H Q E
def Sp5 (φ : V → V → V → V → V → Hp → VK → XK → Prop) : Sp := fun vs H Q E => ∃ x y z u v, vs = [x, y, z, u, v] ∧ φ x y z u v H Q E
section
variable {vs : List V} {H : Hp} {Q : VK} {E : XK}
theorem sp0_len {φ} (h : Sp0 φ vs H Q E) : vs.length = 0 := by obtain ⟨rfl, _⟩ := h; rfl
theorem sp1_len {φ} (h : Sp1 φ vs H Q E) : vs.length = 1 := by obtain ⟨x, rfl, _⟩ := h; rfl
theorem sp2_len {φ} (h : Sp2 φ vs H Q E) : vs.length = 2 := by obtain ⟨x, y, rfl, _⟩ := h; rfl
theorem sp3_len {φ} (h : Sp3 φ vs H Q E) : vs.length = 3 := by obtain ⟨x, y, z, rfl, _⟩ := h; rfl
theorem sp4_len {φ} (h : Sp4 φ vs H Q E) : vs.length = 4 := by obtain ⟨x, y, z, u, rfl, _⟩ := h; rfl
theorem sp5_len {φ} (h : Sp5 φ vs H Q E) : vs.length = 5 := by obtain ⟨x, y, z, u, v, rfl, _⟩ := h; rfl
end
/-- a law's own promise -/
def spEnd (K : PySem.W.Frag) : Sp := Sp1 fun x H Q E => ∃ (a : Addr) (ns : List Int), x = .ref a ∧ SqL K H a (ns.map V.int) ∧ ns.length ≤ 63 ∧ ∀ H', Q (.bl true) H'
section
variable {P : Program} {w : World} {K : PySem.W.Frag} {mg : Str → Option Value} {base : Heap} {N : List Str} {qual : Str} {scope : Scope} {f : Addr} {cd : Value} {A : Around} {outer : List Env} {s : Shared} {H : Hp} {E : XK}
theorem pX : Passes (L2.CX P w) (cxOf (L2.CX P w) P w K mg base N qual scope f cd A outer s H E) E := passes_call (takes_of rfl rfl rfl rfl) fun _ _ _ _ h => h
theorem cx_false {l : List Env} {e : Value} {s' : Shared} (h : L2.CX P w l H s (fun _ _ _ => False) e s') : False := by
  obtain ⟨_, _, _, _, _, _, _, _, _, _, _, _, z⟩ := h
  exact z
theorem passF {X : Cx} : Passes (L2.CX P w) X (fun _ _ _ => False) := fun _ _ _ _ _ _ _ h => (cx_false h).elim
end
/-! ### union of two ways -/
theorem pe_either {X : Cx} {e : Expr} {t u : TE} (h1 : PE X e t) (h2 : PE X e u) : PE X e (fun σ H Q => t σ H Q ∨ u σ H Q) :=
  ⟨fun pins s σ H Q I h => h.elim (h1.run pins s σ H Q I) (h2.run pins s σ H Q I)⟩
/-! ### len, str, fields, methods, new instances, dicts: by names -/
def rLen (K : PySem.W.Frag) : List V → Hp → VK → Prop := fun xs H Q => ∃ p ys, xs = [.ref p] ∧ (SqL K H p ys ∨ SqT K H p ys) ∧ Q (.int ys.length) H
theorem call_lenZ {X : Cx} : CallR X (.builtin "len") (rLen X.K) := call_len_seq
def rLenStr : List V → Hp → VK → Prop := fun xs H Q => ∃ z, xs = [.str z] ∧ z.length ≤ sizeLine ∧ Q (.int z.length) H
theorem call_lenS {X : Cx} : CallR X (.builtin "len") rLenStr := call_len_str
def rLenDi : List V → Hp → VK → Prop := fun xs H Q => ∃ a kvs, xs = [V.ref a] ∧ H a = some (.dK kvs) ∧ Q (.int kvs.length) H
theorem call_lenDi {X : Cx} : CallR X (.builtin "len") rLenDi := call_lenD
def rStrI : List V → Hp → VK → Prop := fun xs H Q => ∃ i, xs = [.int i] ∧ i.natAbs.log2 < 1920 ∧ Q (.str (toString i)) H
theorem call_strI {X : Cx} : CallR X (.type "str") rStrI := call_str_int
def rIsNo : R2 := fun x y H Q => y = .non ∧ Q (.bl (decide (x = .non))) H
def rNotNo : R2 := fun x y H Q => y = .non ∧ Q (.bl (!decide (x = .non))) H
theorem op_isNo {X : Cx} : OpR X (compareOp .Is) rIsNo := op_isN
theorem op_notNo {X : Cx} : OpR X (compareOp .IsNot) rNotNo := op_notN
def rAddS : R2 := fun x y H Q => ∃ i j, x = .str i ∧ y = .str j ∧ i.length + j.length ≤ sizeLine ∧ Q (.str (i ++ j)) H
theorem op_addS {X : Cx} : OpR X (binaryOp .Add) rAddS := op_add_str
def rListOf (K : PySem.W.Frag) : List V → Hp → VK → Prop := fun xs H Q => ∃ p ys, xs = [.ref p] ∧ (SqL K H p ys ∨ SqT K H p ys) ∧ ∀ l, H l = none → Q (.ref l) (upd H l (.lst ys))
theorem call_listOf {X : Cx} : CallR X (.type "list") (rListOf X.K) := call_list_of
def rFldN (K : PySem.W.Frag) (f : Str) (Q : VK) (x : V) (H1 : Hp) : Prop := ∃ a C dx fs v, x = .ref a ∧ H1 a = some (.ins C dx fs) ∧ Cls K C ∧ NoAttr K C f ∧ fs.lookup f = some v ∧ Q v H1
def rStF (K : PySem.W.Frag) (f : Str) (P : Hp → Prop) (y x : V) (H2 : Hp) : Prop := ∃ a C dx fs, x = .ref a ∧ H2 a = some (.ins C dx fs) ∧ Cls K C ∧ NoAttr K C f ∧ fs.length < 1000 ∧ P (upd H2 a (.ins C dx (putF f y fs)))
def rMe (C : Addr) (m : Str) (P : Prop) (x : V) (H1 : Hp) : Prop := ∃ a dx fs, x = .ref a ∧ H1 a = some (.ins C dx fs) ∧ fs.lookup m = none ∧ P
def rMk (C : Addr) (sp : Sp) (dvs : List V) (E : XK) (Q : VK) (vs : List V) (H1 : Hp) : Prop := ∀ x dx, H1 x = none → H1 dx = none → dx ≠ x → sp (.ref x :: (vs ++ dvs)) (upd (upd H1 dx (.own x)) x (.ins C dx [])) (fun v H2 => v = .non ∧ Q (.ref x) H2) E
def rDIn (Q : VK) (y x : V) (H2 : Hp) : Prop := ∃ a o, x = .ref a ∧ DGet H2 a y o ∧ Q (.bl o.isSome) H2
def rDNi (Q : VK) (y x : V) (H2 : Hp) : Prop := ∃ a o, x = .ref a ∧ DGet H2 a y o ∧ Q (.bl (!o.isSome)) H2
def rDGe (Q : VK) (x y : V) (H2 : Hp) : Prop := ∃ a v, x = .ref a ∧ DGet H2 a y (some v) ∧ Q v H2
def rDPu (P : Hp → Prop) (v x y : V) (H3 : Hp) : Prop := ∃ a H4, x = .ref a ∧ DPut H3 a y v H4 ∧ P H4
def rDPo (Q : VK) (x y : V) (H2 : Hp) : Prop := ∃ kvs k v, ∃ a, x = .ref a ∧ H2 a = some (.dK kvs) ∧ y = kV k ∧ valV kvs k = some v ∧ Q v (upd H2 a (.dK (dropK kvs k)))
section
variable {K : PySem.W.Frag} {σ : L2.St} {H : Hp} {Q : VK} {ta tb tv td ty : TE} {t : TA} {D : Ends} {f m : Str} {a p C dx : Addr} {fs : List (Str × V)} {v x y : V} {xs : List V} {sp : Sp} {dvs : List V} {E : XK} {P : Hp → Prop} {R : Prop} {i : Int} {z u : Str} {kvs : List (Key × V)} {n : Int}
theorem r_lenL (h : SqL K H p xs) (q : Q (.int xs.length) H) : rLen K [.ref p] H Q := ⟨p, xs, rfl, .inl h, q⟩
theorem r_lenT (h : SqT K H p xs) (q : Q (.int xs.length) H) : rLen K [.ref p] H Q := ⟨p, xs, rfl, .inr h, q⟩
theorem r_lenS (h : z.length ≤ sizeLine) (q : Q (.int z.length) H) : rLenStr [.str z] H Q := ⟨z, rfl, h, q⟩
theorem r_lenD (h : H p = some (.dK kvs)) (q : Q (.int kvs.length) H) : rLenDi [.ref p] H Q := ⟨p, kvs, rfl, h, q⟩
theorem r_strI (h : i.natAbs.log2 < 1920) (q : Q (.str (toString i)) H) : rStrI [.int i] H Q := ⟨i, rfl, h, q⟩
theorem r_isNo (q : Q (.bl (decide (x = .non))) H) : rIsNo x .non H Q := ⟨rfl, q⟩
theorem r_notNo (q : Q (.bl (!decide (x = .non))) H) : rNotNo x .non H Q := ⟨rfl, q⟩
theorem r_addS (h : z.length + u.length ≤ sizeLine) (q : Q (.str (z ++ u)) H) : rAddS (.str z) (.str u) H Q := ⟨z, u, rfl, rfl, h, q⟩
theorem r_listOf {B : Hp} {L : List Cell} (h : SqL K H p xs) (w : W B L H) (q : ∀ l H', W B ((l, .lst xs) :: L) H' → Q (.ref l) H') : rListOf K [.ref p] H Q := ⟨p, xs, rfl, .inl h, fun l hl => q l _ (w.newL hl _)⟩
theorem g_fld (h : ta σ H (rFldN K f Q)) : tFld K ta f σ H Q := h
theorem r_fld (h : H a = some (.ins C dx fs)) (c : Cls K C) (no : NoAttr K C f) (l : fs.lookup f = some v) (q : Q v H) : rFldN K f Q (.ref a) H := ⟨a, C, dx, fs, v, rfl, h, c, no, l, q⟩
theorem g_sfld (h : tv σ H fun y H1 => ta σ H1 (rStF K f (D.nx σ) y)) : sFld K ta tv f D σ H := h
theorem r_sfld (h : H a = some (.ins C dx fs)) (c : Cls K C) (no : NoAttr K C f) (l : fs.length < 1000) (q : P (upd H a (.ins C dx (putF f y fs)))) : rStF K f P y (.ref a) H := ⟨a, C, dx, fs, rfl, h, c, no, l, q⟩
theorem g_meth (h : ta σ H fun x H1 => rMe C m (t σ H1 fun vs H2 => sp (x :: (vs ++ dvs)) H2 Q E) x H1) : tMeth C m sp dvs E ta t σ H Q := h
theorem r_meth (h : H a = some (.ins C dx fs)) (l : fs.lookup m = none) (q : R) : rMe C m R (.ref a) H := ⟨a, dx, fs, rfl, h, l, q⟩
theorem g_make (h : t σ H (rMk C sp dvs E Q)) : tMake C sp dvs E t σ H Q := h
theorem g_din (h : ty σ H fun y H1 => td σ H1 (rDIn Q y)) : tDIn ty td σ H Q := h
theorem g_dni (h : ty σ H fun y H1 => td σ H1 (rDNi Q y)) : tDNotIn ty td σ H Q := h
theorem g_dge (h : td σ H fun x H1 => ty σ H1 (rDGe Q x)) : tDGet td ty σ H Q := h
theorem g_dpu (h : tv σ H fun v H1 => td σ H1 fun x H2 => ty σ H2 (rDPu (D.nx σ) v x)) : sDPut td ty tv D σ H := h
theorem r_din (h : H a = some (.dK kvs)) (q : Q (.bl (valV kvs (Sum.inl n)).isSome) H) : rDIn Q (.int n) (.ref a) H := ⟨a, _, rfl, DGet.k (k := Sum.inl n) h, q⟩
theorem r_dni (h : H a = some (.dK kvs)) (q : Q (.bl (!(valV kvs (Sum.inl n)).isSome)) H) : rDNi Q (.int n) (.ref a) H := ⟨a, _, rfl, DGet.k (k := Sum.inl n) h, q⟩
theorem r_dge (h : H a = some (.dK kvs)) (e : valV kvs (Sum.inl n) = some v) (q : Q v H) : rDGe Q (.ref a) (.int n) H := ⟨a, v, rfl, by have := DGet.k (k := Sum.inl n) h; rw [e] at this; exact this, q⟩
theorem r_dpu (h : H a = some (.dK kvs)) (l : kvs.length < sizeLine) (q : P (upd H a (.dK (putK kvs (Sum.inl n) v)))) : rDPu P v (.ref a) (.int n) H := ⟨a, _, rfl, DPut.k (k := Sum.inl n) h l, q⟩
end
/-! ### a list of numbers, by its place -/
theorem atI_nat' {xs : List V} {i : Int} (h0 : 0 ≤ i) (h1 : i < xs.length) : atI xs i = xs[i.toNat]? := by
  unfold atI ixN
  rw [if_pos h0, if_pos h1]
  rfl
theorem atI_ex {ns : List Int} {i : Int} (h0 : 0 ≤ i) (h1 : i < ns.length) : ∃ v, v ∈ ns ∧ atI (ns.map V.int) i = some (.int v) := by
  have hl : i.toNat < ns.length := by omega
  refine ⟨ns[i.toNat], List.getElem_mem _, ?_⟩
  rw [atI_nat' h0 (by rw [List.length_map]; exact h1), List.getElem?_map, List.getElem?_eq_getElem hl]
  rfl
section
variable {K : PySem.W.Frag} {H : Hp} {σ : L2.St} {a : Addr} {u v x : V} {n : Nat} {t1 t2 t3 : TG} {Q : L2.St → Hp → Prop}
theorem g_tup2 (h : SqT K H a [u, v]) (hn : n = 2) (q : t1 u σ H fun σ' H' => t2 v σ' H' Q) : gTup K n (gCons t1 (gCons t2 gNil)) (.ref a) σ H Q :=
  ⟨a, _, rfl, h, hn.symm, u, _, rfl, (show t1 u σ H fun σ' H' => gCons t2 gNil [v] σ' H' Q from by
    have e : (fun σ' H' => gCons t2 gNil [v] σ' H' Q) = fun σ' H' => t2 v σ' H' Q := by
      funext σ' H'
      refine propext ⟨fun ⟨v', r, e, h⟩ => ?_, fun h => ⟨v, [], rfl, ?_⟩⟩
      · cases e
        have e2 : (fun σ' H' => gNil [] σ' H' Q) = Q := by funext a b; exact propext ⟨fun h => h.2, fun h => ⟨rfl, h⟩⟩
        rwa [e2] at h
      · have e2 : (fun σ' H' => gNil [] σ' H' Q) = Q := by funext a b; exact propext ⟨fun h => h.2, fun h => ⟨rfl, h⟩⟩
        rwa [e2]
    rw [e]
    exact q)⟩
end
section
variable {c : TT} {tb : TS} {D : Ends} {σ : L2.St} {H : Hp} {m : Nat}
def WhB (Pv : Nat → L2.St → Hp → Prop) (m : Nat) (tb : TS) (D : Ends) (σ : L2.St) (H1 : Hp) : Prop := ∃ N : L2.St → Hp → Prop, (∀ σ' H', N σ' H' → ∃ m', m' < m ∧ Pv m' σ' H') ∧ tb { D with nx := N, ct := N, bk := D.nx } σ H1
theorem g_while (m : Nat) (Pv : Nat → L2.St → Hp → Prop) (h0 : Pv m σ H) (hs : ∀ m σ H, Pv m σ H → c σ H fun b H1 => Br b (WhB Pv m tb D σ H1) (D.nx σ H1)) : tWhile c tb D σ H := ⟨Pv, ⟨m, h0⟩, hs⟩
theorem g_whb {Pv : Nat → L2.St → Hp → Prop} (h : tb { D with nx := fun σ' H' => ∃ m', m' < m ∧ Pv m' σ' H', ct := fun σ' H' => ∃ m', m' < m ∧ Pv m' σ' H', bk := D.nx } σ H) : WhB Pv m tb D σ H := ⟨_, fun _ _ h => h, h⟩
end
/-! ### == of data -/
theorem eqvAll_ints : ∀ ns ms : List Int, PyData.eqvAll (ns.map PyData.int) (ms.map PyData.int) = decide (ns = ms)
  | [], [] => by simp [PyData.eqvAll]
  | [], _ :: _ => by simp [PyData.eqvAll]
  | _ :: _, [] => by simp [PyData.eqvAll]
  | a :: r, b :: t => by
    simp only [List.map_cons, PyData.eqvAll, PyData.eqv, eqvAll_ints r t]
    by_cases h : a = b <;> by_cases h' : r = t <;> simp [h, h']
theorem canAll_ints : ∀ ns : List Int, PyData.canLayAll0 (ns.map PyData.int) = true
  | [] => by simp [PyData.canLayAll0]
  | _ :: r => by simp [PyData.canLayAll0, PyData.canLay0, canAll_ints r]
theorem depAll_ints : ∀ ns : List Int, PyData.depthAll (ns.map PyData.int) = 0
  | [] => by simp [PyData.depthAll]
  | _ :: r => by simp [PyData.depthAll, PyData.depth, depAll_ints r]
theorem sh_lints (ns : List Int) : SeqAt.shaped (.list (ns.map PyData.int)) = true := by simp [SeqAt.shaped, PyData.canLay0, PyData.depth, canAll_ints, depAll_ints]
theorem sh_tints (ns : List Int) : SeqAt.shaped (.tuple (ns.map PyData.int)) = true := by simp [SeqAt.shaped, PyData.canLay0, PyData.depth, canAll_ints, depAll_ints]
section
variable {K : PySem.W.Frag} {H : Hp} {Q : VK} {a b : Addr} {ns ms : List Int} {x y : V} {d : PyData}
theorem dp_ints : ∀ ns : List Int, DpAll K H (ns.map V.int) (ns.map PyData.int)
  | [] => .nil
  | _ :: r => .cons (.int _) (dp_ints r)
theorem eqv_self (h : SeqAt.shaped d = true) : PyData.eqv d d = true := SeqAt.eqv_refl d (SeqAt.canLay_of_shaped h)
theorem r_eqD (h1 : Dp K H x d) (h2 : Dp K H y d) (sh : SeqAt.shaped d = true) (q : Q (.bl true) H) : rEqD K x y H Q := ⟨d, d, h1, h2, sh, sh, by rw [eqv_self sh]; exact q⟩
theorem r_neD (h1 : Dp K H x d) (h2 : Dp K H y d) (sh : SeqAt.shaped d = true) (q : Q (.bl false) H) : rNeD K x y H Q := ⟨d, d, h1, h2, sh, sh, by rw [eqv_self sh]; exact q⟩
theorem r_eqLI (h1 : SqL K H a (ns.map V.int)) (h2 : SqL K H b (ms.map V.int)) (q : Q (.bl (decide (ns = ms))) H) : rEqD K (.ref a) (.ref b) H Q :=
  ⟨_, _, .lst h1 (dp_ints ns), .lst h2 (dp_ints ms), sh_lints ns, sh_lints ms, by rw [PyData.eqv, eqvAll_ints]; exact q⟩
theorem r_neLI (h1 : SqL K H a (ns.map V.int)) (h2 : SqL K H b (ms.map V.int)) (q : Q (.bl (!decide (ns = ms))) H) : rNeD K (.ref a) (.ref b) H Q :=
  ⟨_, _, .lst h1 (dp_ints ns), .lst h2 (dp_ints ms), sh_lints ns, sh_lints ms, by rw [PyData.eqv, eqvAll_ints]; exact q⟩
theorem r_eqTI (h1 : SqT K H a (ns.map V.int)) (h2 : SqT K H b (ms.map V.int)) (q : Q (.bl (decide (ns = ms))) H) : rEqD K (.ref a) (.ref b) H Q :=
  ⟨_, _, .tup h1 (dp_ints ns), .tup h2 (dp_ints ms), sh_tints ns, sh_tints ms, by rw [PyData.eqv, eqvAll_ints]; exact q⟩
theorem r_neTI (h1 : SqT K H a (ns.map V.int)) (h2 : SqT K H b (ms.map V.int)) (q : Q (.bl (!decide (ns = ms))) H) : rNeD K (.ref a) (.ref b) H Q :=
  ⟨_, _, .tup h1 (dp_ints ns), .tup h2 (dp_ints ms), sh_tints ns, sh_tints ms, by rw [PyData.eqv, eqvAll_ints]; exact q⟩
theorem r_eqDI (h1 : Dp K H x d) (sh : SeqAt.shaped d = true) (n : Int) (q : Q (.bl (PyData.eqv d (.int n))) H) : rEqD K x (.int n) H Q := ⟨d, _, h1, .int n, sh, rfl, q⟩
end
/-! ### isinstance -/
theorem kb_int_int : kitB "int" "int" = some true := by decide +kernel
theorem kb_int_bool : kitB "int" "bool" = some false := by decide +kernel
theorem kb_int_str : kitB "int" "str" = some false := by decide +kernel
theorem kb_int_tuple : kitB "int" "tuple" = some false := by decide +kernel
theorem kb_int_list : kitB "int" "list" = some false := by decide +kernel
theorem kb_bool_int : kitB "bool" "int" = some true := by decide +kernel
theorem kb_bool_bool : kitB "bool" "bool" = some true := by decide +kernel
theorem kb_bool_str : kitB "bool" "str" = some false := by decide +kernel
theorem kb_non_int : kitB "NoneType" "int" = some false := by decide +kernel
theorem kb_non_bool : kitB "NoneType" "bool" = some false := by decide +kernel
theorem kb_non_str : kitB "NoneType" "str" = some false := by decide +kernel
theorem kb_str_int : kitB "str" "int" = some false := by decide +kernel
theorem kb_str_bool : kitB "str" "bool" = some false := by decide +kernel
theorem kb_str_str : kitB "str" "str" = some true := by decide +kernel
theorem kb_tup_int : kitB "tuple" "int" = some false := by decide +kernel
theorem kb_tup_bool : kitB "tuple" "bool" = some false := by decide +kernel
theorem kb_tup_str : kitB "tuple" "str" = some false := by decide +kernel
theorem kb_tup_tup : kitB "tuple" "tuple" = some true := by decide +kernel
theorem kb_tup_list : kitB "tuple" "list" = some false := by decide +kernel
theorem kb_list_int : kitB "list" "int" = some false := by decide +kernel
theorem kb_list_bool : kitB "list" "bool" = some false := by decide +kernel
theorem kb_list_str : kitB "list" "str" = some false := by decide +kernel
theorem kb_list_list : kitB "list" "list" = some true := by decide +kernel
theorem kb_list_tup : kitB "list" "tuple" = some false := by decide +kernel
theorem kb_dict_int : kitB "dict" "int" = some false := by decide +kernel
theorem kb_dict_bool : kitB "dict" "bool" = some false := by decide +kernel
section
variable {K : PySem.W.Frag} {H : Hp} {Q : VK} {x : V} {t n : String} {b : Bool} {i : Int} {z : Str}
theorem r_isi (ty : TyX K H x (.type t)) (h : kitB t n = some b) (q : Q (.bl b) H) : rIsi K [x, .ty n] H Q := ⟨x, .ty n, .type t, .type n, b, rfl, .ty n, ty, kit_ty h, q⟩
theorem isi_ii (q : Q (.bl true) H) : rIsi K [.int i, .ty "int"] H Q := r_isi (.base (.int i)) kb_int_int q
theorem isi_ib (q : Q (.bl false) H) : rIsi K [.int i, .ty "bool"] H Q := r_isi (.base (.int i)) kb_int_bool q
theorem isi_bi (q : Q (.bl true) H) : rIsi K [.bl b, .ty "int"] H Q := r_isi (.base (.bl b)) kb_bool_int q
theorem isi_bb (q : Q (.bl true) H) : rIsi K [.bl b, .ty "bool"] H Q := r_isi (.base (.bl b)) kb_bool_bool q
theorem isi_ni (q : Q (.bl false) H) : rIsi K [.non, .ty "int"] H Q := r_isi (.base .non) kb_non_int q
theorem isi_si (q : Q (.bl false) H) : rIsi K [.str z, .ty "int"] H Q := r_isi (.base (.str z)) kb_str_int q
end
/-! ### names of built-ins -/
theorem bt_len : bootBuiltins "len" = some (.builtin "len") := by decide +kernel
theorem bt_isinstance : bootBuiltins "isinstance" = some (.builtin "isinstance") := by decide +kernel
theorem bt_int : bootBuiltins "int" = some (.type "int") := by decide +kernel
theorem bt_bool : bootBuiltins "bool" = some (.type "bool") := by decide +kernel
theorem bt_str : bootBuiltins "str" = some (.type "str") := by decide +kernel
theorem bt_list : bootBuiltins "list" = some (.type "list") := by decide +kernel
theorem bt_tuple : bootBuiltins "tuple" = some (.type "tuple") := by decide +kernel
theorem bt_dict : bootBuiltins "dict" = some (.type "dict") := by decide +kernel
theorem bt_min : bootBuiltins "min" = some (.builtin "min") := by decide +kernel
theorem bt_max : bootBuiltins "max" = some (.builtin "max") := by decide +kernel
theorem bt_sum : bootBuiltins "sum" = some (.builtin "sum") := by decide +kernel
theorem bt_all : bootBuiltins "all" = some (.builtin "all") := by decide +kernel
theorem bt_any : bootBuiltins "any" = some (.builtin "any") := by decide +kernel
theorem bt_sorted : bootBuiltins "sorted" = some (.builtin "sorted") := by decide +kernel
theorem bt_ValueError : bootBuiltins "ValueError" = some (.type "ValueError") := by decide +kernel
/-- a number, or None -/
def oV : Option Int → V
  | none => .non
  | some n => .int n
end Z

/-! Mbits: the bits of a number the other way round, in plain Lean. -/
namespace Z
open PySem PySem.W PyProof.Rows
/-- the k lowest bits of n, turned about -/
def rv : Nat → Nat → Nat
  | 0, _ => 0
  | k + 1, n => 2 * rv k n + n / 2 ^ k % 2
theorem rv_lt (k n : Nat) : rv k n < 2 ^ k := by
  induction k with
  | zero => simp [rv]
  | succ k ih => simp only [rv, Nat.pow_succ]; omega
theorem pow_pos2 (k : Nat) : 0 < 2 ^ k := Nat.pow_pos (by decide)
theorem rv_add (j k n : Nat) : rv (j + k) n = rv j n * 2 ^ k + rv k (n / 2 ^ j) := by
  induction k with
  | zero => simp [rv]
  | succ k ih =>
    have e : n / 2 ^ (j + k) = n / 2 ^ j / 2 ^ k := by rw [Nat.div_div_eq_div_mul, ← Nat.pow_add]
    show 2 * rv (j + k) n + n / 2 ^ (j + k) % 2 = _
    rw [ih, e, Nat.pow_succ]
    show _ = rv j n * (2 ^ k * 2) + (2 * rv k (n / 2 ^ j) + n / 2 ^ j / 2 ^ k % 2)
    rw [Nat.mul_add, ← Nat.mul_assoc (rv j n), Nat.mul_comm (rv j n * 2 ^ k) 2, Nat.mul_comm 2 (rv j n * 2 ^ k)]
    omega
theorem rv_one (n : Nat) : rv 1 n = n % 2 := by simp [rv]
theorem rv_succ (k n : Nat) : rv (k + 1) n = (n % 2) * 2 ^ k + rv k (n / 2) := by
  rw [Nat.add_comm k 1, rv_add, rv_one, Nat.pow_one]
theorem rv_zero (k : Nat) : rv k 0 = 0 := by
  induction k with
  | zero => rfl
  | succ k ih => simp [rv, ih]
theorem rv_congr {k a b : Nat} (h : a % 2 ^ k = b % 2 ^ k) : rv k a = rv k b := by
  induction k generalizing a b with
  | zero => rfl
  | succ k ih =>
    rw [rv_succ, rv_succ]
    have h2 : a % 2 = b % 2 := by
      have := congrArg (· % 2) h
      simp only [Nat.pow_succ, Nat.mod_mul_left_mod] at this
      exact this
    have h3 : a / 2 % 2 ^ k = b / 2 % 2 ^ k := by
      have q : ∀ x : Nat, x % 2 ^ (k + 1) / 2 = x / 2 % 2 ^ k := fun x => by
        rw [Nat.pow_succ, Nat.mul_comm, Nat.mod_mul_right_div_self]
      rw [← q a, ← q b, h]
    rw [h2, ih h3]
theorem rv_mod (k n : Nat) : rv k (n % 2 ^ k) = rv k n := rv_congr (Nat.mod_mod _ _)
theorem rv_rv (k n : Nat) : rv k (rv k n) = n % 2 ^ k := by
  induction k generalizing n with
  | zero => simp [rv, Nat.mod_one]
  | succ k ih =>
    have e : rv (k + 1) n = 2 * rv k n + n / 2 ^ k % 2 := rfl
    rw [rv_succ, e]
    have e1 : (2 * rv k n + n / 2 ^ k % 2) % 2 = n / 2 ^ k % 2 := by omega
    have e2 : (2 * rv k n + n / 2 ^ k % 2) / 2 = rv k n := by omega
    rw [e1, e2, ih, Nat.pow_succ, Nat.mod_mul]
    rw [Nat.mul_comm, Nat.add_comm]
theorem rv_bit {k d : Nat} (n : Nat) (h : d < k) : rv k n / 2 ^ (k - 1 - d) % 2 = n / 2 ^ d % 2 := by
  have e : k = (d + 1) + (k - 1 - d) := by omega
  have q : rv k n = rv (d + 1) n * 2 ^ (k - 1 - d) + rv (k - 1 - d) (n / 2 ^ (d + 1)) := by
    conv => lhs; rw [e]
    exact rv_add _ _ _
  have l := rv_lt (k - 1 - d) (n / 2 ^ (d + 1))
  rw [q, Nat.mul_comm, Nat.mul_add_div (pow_pos2 _), Nat.div_eq_of_lt l, Nat.add_zero]
  show (2 * rv d n + n / 2 ^ d % 2) % 2 = _
  omega
theorem rv_inj {k a b : Nat} (h : rv k a = rv k b) : a % 2 ^ k = b % 2 ^ k := by rw [← rv_rv, ← rv_rv, h]
/-- sixteen bits turned about -/
@[irreducible] def r16 (n : Nat) : Nat := rv 16 n
theorem r16_eq (n : Nat) : r16 n = rv 16 n := by unfold r16; rfl
theorem r16_lt (n : Nat) : r16 n < 65536 := by rw [r16_eq]; exact rv_lt 16 n
theorem r16_r16 (n : Nat) : r16 (r16 n) = n % 65536 := by rw [r16_eq, r16_eq]; exact rv_rv 16 n
/-! by the program's own operators -/
theorem bor_even (a : Int) {b : Int} (h0 : 0 ≤ b) (h1 : b ≤ 1) : Builtin.bitOr (a * 2) b = a * 2 + b := by
  have e : Builtin.bitAnd (a * 2) b = 0 := by
    rw [kbt_halves]
    have e1 : a * 2 % 2 = 0 := by omega
    have e2 : b / 2 = 0 := by omega
    rw [e1, e2]
    have e3 : Builtin.bitAnd (a * 2 / 2) 0 = 0 := by
      have := kbt_mask (a * 2 / 2) 0
      simpa using this
    rw [e3]
    simp
  have x := bitXor_and (a * 2) b
  unfold Builtin.bitXor at x
  rw [e] at x
  omega
def tnI (n : Int) : Nat → Int
  | 0 => 0
  | k + 1 => Builtin.bitOr (tnI n k * 2 ^ (1 : Int).toNat) (Builtin.bitAnd (n / 2 ^ ((0 : Int) + (k : Nat)).toNat) 1)
theorem tnI_eq (n k : Nat) : tnI (n : Int) k = (rv k n : Nat) := by
  induction k with
  | zero => rfl
  | succ k ih =>
    show Builtin.bitOr (tnI n k * 2 ^ (1 : Int).toNat) (Builtin.bitAnd ((n : Int) / 2 ^ ((0 : Int) + (k : Nat)).toNat) 1) = ((2 * rv k n + n / 2 ^ k % 2 : Nat) : Int)
    have e1 : ((0 : Int) + (k : Nat)).toNat = k := by omega
    have e2 : (1 : Int).toNat = 1 := rfl
    rw [bitAnd_m1, e1, e2, ih, Int.pow_succ, Int.pow_zero, Int.one_mul, bor_even _ (by omega) (by omega)]
    have e3 : (n : Int) / 2 ^ k = ((n / 2 ^ k : Nat) : Int) := by simp
    rw [e3]
    omega
theorem tnI_small (n : Nat) {k : Nat} (h : k ≤ 16) : (tnI (n : Int) k).natAbs < 2 ^ 64 := by
  rw [tnI_eq, Int.natAbs_natCast]
  exact Nat.lt_of_lt_of_le (rv_lt k n) (Nat.pow_le_pow_right (by decide) (by omega))
end Z
namespace Z
open PySem PySem.W PyProof.Rows
theorem r16_mod (k : Nat) : r16 (k % 65536) = r16 k := by
  rw [r16_eq, r16_eq]
  exact rv_mod 16 k
theorem and_pow (k s : Nat) : Builtin.bitAnd (k : Int) (((2 ^ s : Nat) : Int) - 1) = ((k % 2 ^ s : Nat) : Int) := by
  have h := kbt_mask (k : Int) s
  have e : ((2 ^ s : Nat) : Int) = (2 : Int) ^ s := by simp
  rw [e, h, ← e]
  simp
theorem and_mark (k : Nat) : Builtin.bitAnd (k : Int) (65536 - 1) = ((k % 65536 : Nat) : Int) := and_pow k 16
theorem pow_dvd16 {s : Nat} (h : s ≤ 16) : 2 ^ s ∣ 65536 := (Nat.pow_dvd_pow_iff_le_right (by decide : 1 < 2)).mpr h
theorem pow_mul16 {s : Nat} (h : s ≤ 16) : 2 ^ s * 2 ^ (16 - s) = 65536 := by
  rw [← Nat.pow_add, Nat.add_sub_cancel' h]
theorem mod16 {s : Nat} (k : Nat) (h : s ≤ 16) : k % 65536 % 2 ^ s = k % 2 ^ s := Nat.mod_mod_of_dvd k (pow_dvd16 h)
theorem div16 {s : Nat} (h : s ≤ 16) : 65536 / 2 ^ s = 2 ^ (16 - s) := by
  rw [← pow_mul16 h]
  exact Nat.mul_div_cancel_left _ (pow_pos2 s)
theorem pow_le16 {s : Nat} (h : s ≤ 16) : 2 ^ s ≤ 65536 := Nat.le_of_dvd (by decide) (pow_dvd16 h)
/-- a place: its block, and where in it -/
theorem r16_split {s : Nat} (k : Nat) (h : s ≤ 16) : r16 k = rv s k * 2 ^ (16 - s) + rv (16 - s) (k / 2 ^ s) := by
  rw [r16_eq]
  have := rv_add s (16 - s) k
  rwa [Nat.add_sub_cancel' h] at this
theorem r16_slot {s n : Nat} (h : s ≤ 16) (hn : n < 2 ^ s) : r16 n = rv s n * 2 ^ (16 - s) := by
  rw [r16_split n h, Nat.div_eq_of_lt hn, rv_zero, Nat.add_zero]
theorem r16_div {s : Nat} (k : Nat) (h : s ≤ 16) : r16 k / 2 ^ (16 - s) = rv s k := by
  rw [r16_split k h, Nat.mul_comm, Nat.mul_add_div (pow_pos2 _), Nat.div_eq_of_lt (rv_lt _ _), Nat.add_zero]
theorem slotAt_eq {s : Nat} (p : Nat) (h : s ≤ 16) : r16 p % 2 ^ s = rv s (p / 2 ^ (16 - s)) := by
  have e := rv_add (16 - s) s p
  rw [Nat.sub_add_cancel h] at e
  rw [r16_eq, e, Nat.mul_comm, Nat.mul_add_mod, Nat.mod_eq_of_lt (rv_lt _ _)]
/-- the place lies in the stretch of just that slot -/
theorem in_stretch {s n : Nat} (k : Nat) (h : s ≤ 16) (hn : n < 2 ^ s) : (r16 n ≤ r16 k ∧ r16 k < r16 n + 2 ^ (16 - s)) ↔ k % 2 ^ s = n := by
  have e1 := r16_split k h
  have e2 := r16_slot h hn
  have l := rv_lt (16 - s) (k / 2 ^ s)
  constructor
  · rintro ⟨h1, h2⟩
    have q : rv s k = rv s n := by
      have d := r16_div k h
      rw [← d]
      apply Nat.div_eq_of_lt_le
      · rw [← e2]; exact h1
      · rw [Nat.succ_mul, ← e2]; exact h2
    have := rv_inj q
    rwa [Nat.mod_eq_of_lt hn] at this
  · intro e
    have q : rv s k = rv s n := by rw [← e, rv_mod]
    rw [e1, e2, q]
    omega
theorem at_stretch {s n p : Nat} (h : s ≤ 16) (hn : n < 2 ^ s) (h1 : r16 n ≤ p) (h2 : p < r16 n + 2 ^ (16 - s)) : r16 p % 2 ^ s = n := by
  have e2 := r16_slot h hn
  have q : p / 2 ^ (16 - s) = rv s n := by
    apply Nat.div_eq_of_lt_le
    · rw [← e2]; exact h1
    · rw [Nat.succ_mul, ← e2]; exact h2
  rw [slotAt_eq p h, q, rv_rv, Nat.mod_eq_of_lt hn]
theorem stretch_end {s n : Nat} (h : s ≤ 16) (hn : n < 2 ^ s) : r16 n + 2 ^ (16 - s) ≤ 65536 := by
  rw [r16_slot h hn, ← pow_mul16 h]
  have := rv_lt s n
  calc rv s n * 2 ^ (16 - s) + 2 ^ (16 - s) = (rv s n + 1) * 2 ^ (16 - s) := by rw [Nat.succ_mul]
    _ ≤ 2 ^ s * 2 ^ (16 - s) := Nat.mul_le_mul_right _ this
theorem r16_inj {a b : Nat} (h : r16 a = r16 b) : a % 65536 = b % 65536 := by
  rw [r16_eq, r16_eq] at h
  exact rv_inj h
end Z
namespace Z
open PySem PySem.W PyProof.Rows
theorem and_half (b : Nat) : ∀ a : Int, 0 < b → (b : Int) ≠ 2 * Builtin.bitAnd a b := by
  induction b using Nat.strongRecOn with
  | _ b ih =>
    intro a hb e
    have hh := kbt_halves a b
    by_cases o : b % 2 = 1
    · omega
    · have e2 : ((b : Int) / 2) = ((b / 2 : Nat) : Int) := by omega
      rw [if_neg (by omega), e2] at hh
      exact ih (b / 2) (by omega) (a / 2) (by omega) (by omega)
theorem xor_other {a b : Nat} (h0 : 0 < b) (h1 : b < 65536) : ∃ m : Nat, Builtin.bitXor (a : Int) (b : Int) = (m : Int) ∧ m % 65536 ≠ a % 65536 := by
  have x := bitXor_and (a : Int) (b : Int)
  have r1 := bitAnd_range (a : Int) (y := (b : Int)) (by omega)
  have r2 := bitAnd_range (b : Int) (y := (a : Int)) (by omega)
  rw [bitAnd_comm] at r2
  have n := and_half b (a : Int) h0
  refine ⟨(Builtin.bitXor (a : Int) (b : Int)).toNat, by omega, fun h => ?_⟩
  omega
end Z
namespace Z
open PySem PySem.W PyProof.Rows
theorem pow4 (d : Nat) : (4 : Int) * 2 ^ d = ((2 ^ (d + 2) : Nat) : Int) := by
  rw [Nat.pow_add, Nat.mul_comm]; simp
theorem st_e {n s : Nat} (hs : s ≤ 16) : ((r16 n : Nat) : Int) + 65536 / ((2 ^ s : Nat) : Int) = ((r16 n + 2 ^ (16 - s) : Nat) : Int) := by
  rw [← div16 hs, Int.natCast_add, Int.natCast_ediv]; simp
theorem rv_one1 (k : Nat) : rv (k + 1) 1 = 2 ^ k := by
  rw [rv_succ]
  show 1 % 2 * 2 ^ k + rv k 0 = _
  rw [rv_zero]
  omega
theorem half_second {s n : Nat} (hs : s ≤ 15) (hn : n < 2 ^ s) : r16 (n + 2 ^ s) = r16 n + 2 ^ (16 - (s + 1)) := by
  have h : s ≤ 16 := by omega
  have e1 := r16_split (n + 2 ^ s) h
  have e2 := r16_slot h hn
  have e3 : rv s (n + 2 ^ s) = rv s n := rv_congr (Nat.add_mod_right _ _)
  have e4 : (n + 2 ^ s) / 2 ^ s = 1 := by rw [Nat.add_div_right _ (pow_pos2 s), Nat.div_eq_of_lt hn]
  have e5 : 16 - s = 16 - (s + 1) + 1 := by omega
  rw [e1, e2, e3, e4]
  congr 1
  rw [e5]
  exact rv_one1 _
theorem half_pow {s : Nat} (hs : s ≤ 15) : 2 ^ (16 - s) = 2 ^ (16 - (s + 1)) + 2 ^ (16 - (s + 1)) := by
  have e5 : 16 - s = 16 - (s + 1) + 1 := by omega
  rw [e5, Nat.pow_succ]
  omega
theorem pow_two2 (s : Nat) : (2 : Int) * ((2 ^ s : Nat) : Int) = ((2 ^ (s + 1) : Nat) : Int) := by
  rw [Nat.pow_succ]; omega
theorem rv_perm (s : Nat) : ((List.range (2 ^ s)).map (rv s)).Perm (List.range (2 ^ s)) := by
  have n1 : ((List.range (2 ^ s)).map (rv s)).Nodup := by
    refine List.pairwise_map.mpr (List.Pairwise.imp_of_mem ?_ List.nodup_range)
    intro a b ha hb hne h
    have := rv_inj h
    rw [Nat.mod_eq_of_lt (List.mem_range.mp ha), Nat.mod_eq_of_lt (List.mem_range.mp hb)] at this
    exact hne this
  refine (List.perm_ext_iff_of_nodup n1 List.nodup_range).mpr fun x => ?_
  rw [List.mem_range, List.mem_map]
  constructor
  · rintro ⟨y, _, rfl⟩
    exact rv_lt s y
  · intro h
    exact ⟨rv s x, List.mem_range.mpr (rv_lt s x), by rw [rv_rv, Nat.mod_eq_of_lt h]⟩
theorem sorted_places {s : Nat} (hs : s ≤ 16) {l : List Int} (hp : l.Perm ((List.range (2 ^ s)).map fun i => ((r16 i : Nat) : Int))) (ho : l.Pairwise (· ≤ ·)) :
    l = (List.range (2 ^ s)).map fun i => ((i * 2 ^ (16 - s) : Nat) : Int) := by
  have e : ((List.range (2 ^ s)).map fun i => ((r16 i : Nat) : Int)) = ((List.range (2 ^ s)).map (rv s)).map fun i => ((i * 2 ^ (16 - s) : Nat) : Int) := by
    rw [List.map_map]
    refine List.map_congr_left fun i hi => ?_
    show ((r16 i : Nat) : Int) = ((rv s i * 2 ^ (16 - s) : Nat) : Int)
    rw [r16_slot hs (List.mem_range.mp hi)]
  rw [e] at hp
  have hp2 := hp.trans ((rv_perm s).map _)
  refine List.Perm.eq_of_pairwise (le := (· ≤ ·)) (fun a b _ _ h1 h2 => Int.le_antisymm h1 h2) ho ?_ hp2
  refine List.pairwise_map.mpr ((List.pairwise_lt_range).imp fun {a b} h => ?_)
  have : a * 2 ^ (16 - s) ≤ b * 2 ^ (16 - s) := Nat.mul_le_mul_right _ (Nat.le_of_lt h)
  omega
theorem r16_at {s p : Nat} (hs : s ≤ 16) (hp : p < 65536) : r16 (r16 p % 2 ^ s) = p / 2 ^ (16 - s) * 2 ^ (16 - s) := by
  have l : p / 2 ^ (16 - s) < 2 ^ s := (Nat.div_lt_iff_lt_mul (pow_pos2 _)).mpr (by rw [pow_mul16 hs]; exact hp)
  rw [r16_slot hs (Nat.mod_lt _ (pow_pos2 s)), slotAt_eq p hs, rv_rv, Nat.mod_eq_of_lt l]
theorem next_slot {s n : Nat} (hs : s ≤ 16) (hn : n < 2 ^ s) (h : r16 n + 2 ^ (16 - s) < 65536) : r16 (r16 (r16 n + 2 ^ (16 - s)) % 2 ^ s) = r16 n + 2 ^ (16 - s) := by
  rw [r16_at hs h, r16_slot hs hn]
  have e : rv s n * 2 ^ (16 - s) + 2 ^ (16 - s) = (rv s n + 1) * 2 ^ (16 - s) := by rw [Nat.succ_mul]
  rw [e, Nat.mul_div_cancel _ (pow_pos2 _)]
theorem prev_slot {s n : Nat} (hs : s ≤ 16) (hn : n < 2 ^ s) (h : 0 < r16 n) : r16 (r16 (r16 n - 1) % 2 ^ s) + 2 ^ (16 - s) = r16 n := by
  have l := r16_lt n
  rw [r16_at hs (by omega)]
  rw [r16_slot hs hn] at h ⊢
  have hw := pow_pos2 (16 - s)
  generalize 2 ^ (16 - s) = w at h hw ⊢
  cases e : rv s n with
  | zero => rw [e] at h; simp at h
  | succ q =>
    have e2 : (q + 1) * w - 1 = q * w + (w - 1) := by rw [Nat.succ_mul]; omega
    rw [e2, Nat.mul_comm q w, Nat.mul_add_div hw, Nat.div_eq_of_lt (by omega), Nat.add_zero, Nat.succ_mul]
theorem pow_split {s g : Nat} (hs : s ≤ g) (hg : g ≤ 16) : 2 ^ (16 - s) = 2 ^ (g - s) * 2 ^ (16 - g) := by
  rw [← Nat.pow_add]
  congr 1
  omega
theorem sub_stretch {s g n m : Nat} (hs : s ≤ g) (hg : g ≤ 16) (hm : m < 2 ^ g) (hn : n < 2 ^ s) (hmn : m % 2 ^ s = n) : r16 n ≤ r16 m ∧ r16 m + 2 ^ (16 - g) ≤ r16 n + 2 ^ (16 - s) := by
  have h := (in_stretch m (show s ≤ 16 by omega) hn).mpr hmn
  refine ⟨h.1, ?_⟩
  have h2 := h.2
  rw [r16_slot hg hm, r16_slot (show s ≤ 16 by omega) hn, pow_split hs hg] at h2 ⊢
  have hv := pow_pos2 (16 - g)
  generalize 2 ^ (16 - g) = v at h2 hv ⊢
  rw [← Nat.mul_assoc, ← Nat.add_mul] at h2 ⊢
  have h3 := Nat.lt_of_mul_lt_mul_right h2
  have h4 : (rv g m + 1) * v ≤ (rv s n * 2 ^ (g - s) + 2 ^ (g - s)) * v := Nat.mul_le_mul_right v h3
  rwa [Nat.succ_mul] at h4
theorem slot_mono {s a b : Nat} (hs : s ≤ 16) (h : r16 a ≤ r16 b) : r16 (a % 2 ^ s) ≤ r16 (b % 2 ^ s) := by
  rw [r16_slot hs (Nat.mod_lt _ (pow_pos2 s)), r16_slot hs (Nat.mod_lt _ (pow_pos2 s)), rv_mod, rv_mod, ← r16_div a hs, ← r16_div b hs]
  exact Nat.mul_le_mul_right _ (Nat.div_le_div_right h)
theorem mod_mod_pow {s g : Nat} (k : Nat) (hs : s ≤ g) : k % 2 ^ g % 2 ^ s = k % 2 ^ s := Nat.mod_mod_of_dvd k ((Nat.pow_dvd_pow_iff_le_right (by decide : 1 < 2)).mpr hs)
/-- the j-th slot of the greater row in a stretch -/
theorem inner_slot {s g n j : Nat} (hs : s ≤ g) (hg : g ≤ 16) (hn : n < 2 ^ s) (hj : j < 2 ^ (g - s)) :
    r16 (r16 n + j * 2 ^ (16 - g)) % 2 ^ g % 2 ^ s = n ∧ r16 (r16 (r16 n + j * 2 ^ (16 - g)) % 2 ^ g) = r16 n + j * 2 ^ (16 - g) := by
  have e := pow_split hs hg
  have hv := pow_pos2 (16 - g)
  have l : (j + 1) * 2 ^ (16 - g) ≤ 2 ^ (g - s) * 2 ^ (16 - g) := Nat.mul_le_mul_right _ hj
  rw [Nat.succ_mul] at l
  have se := stretch_end (show s ≤ 16 by omega) hn
  rw [e] at se
  constructor
  · rw [mod_mod_pow _ hs]
    exact at_stretch (by omega) hn (by omega) (by rw [e]; omega)
  · rw [r16_at hg (by omega), r16_slot (show s ≤ 16 by omega) hn, e, ← Nat.mul_assoc, ← Nat.add_mul, Nat.mul_div_cancel _ hv]
end Z

/-! Z2: rules of my own: chains of three and four, d.update(e). -/
namespace Z
open PySem PySem.Spec PyProof.Rows L2
section
variable {X : Cx} {a b c d f : Expr} {ta tb tc td tf : TE} {pos : Pos} {pins : List (Addr × Obj)} {σ : L2.St} {H : Hp}
def tLink (r : R2) (y : V) (tc : TE) (nxt : V → L2.St → Hp → VK → Prop) : V → L2.St → Hp → VK → Prop := fun x σ H Q => r x y H fun z H3 => rTst z H3 fun k H4 => Br k (tc σ H4 fun w H5 => nxt w σ H5 Q) (Q (.bl false) H4)
def tChain3 (r r' r'' : R2) (ta tb tc td : TE) : TE := fun σ H Q => ta σ H fun x H1 => tb σ H1 fun y H2 => r x y H2 fun z H3 => rTst z H3 fun k H4 => Br k (tc σ H4 fun z' H5 => r' y z' H5 fun u H6 => rTst u H6 fun k' H7 => Br k' (td σ H7 fun w' H8 => r'' z' w' H8 Q) (Q (.bl false) H7)) (Q (.bl false) H4)
theorem pe_chain3 {op op' op'' : CmpOp} {r r' r'' : R2} (ho : OpR X (compareOp op) r) (ho' : OpR X (compareOp op') r') (ho'' : OpR X (compareOp op'') r'') (ha : PE X a ta) (hb : PE X b tb) (hc : PE X c tc) (hd : PE X d td)
    (hm : lastMarks [op, op', op''] [b, c, d] = false := by with_unfolding_all rfl) : PE X (.Compare a [op, op', op''] [b, c, d] pos) (tChain3 r r' r'' ta tb tc td) := by
  refine ⟨fun pins s σ H Q I h => ?_⟩
  refine Compare_chain (thn (ha.run pins s σ H _ I h) fun v s1 ⟨x, H1, I1, r1, q1⟩ => chain_link (thn (hb.run pins s1 σ H1 _ I1 q1) fun u s2 ⟨y, H2, I2, r2, q2⟩ =>
    thn (ho pins s2 σ H2 x y v u _ I2 r1 r2 q2) fun d s3 ⟨z, H3, I3, r3, k, e, q3⟩ => ?_)) hm
  subst e
  cases r3
  refine wpAny_truthy_bool ?_
  unfold Br at q3
  cases k with
  | false => exact ite_ff ⟨.bl false, H3, I3, rfl, q3⟩
  | true =>
    refine ite_tt (chain_link (thn (hc.run pins s3 σ H3 _ I3 q3) fun w' s4 ⟨z', H4, I4, r4, q4⟩ => thn (ho' pins s4 σ H4 y z' u w' _ I4 r2 r4 q4) fun d' s5 ⟨u2, H5, I5, r5, k2, e2, q5⟩ => ?_))
    subst e2
    cases r5
    refine wpAny_truthy_bool ?_
    cases k2 with
    | false => exact ite_ff ⟨.bl false, H5, I5, rfl, q5⟩
    | true => exact ite_tt (chain_last (thn (hd.run pins s5 σ H5 _ I5 q5) fun w2 s6 ⟨z2, H6, I6, r6, q6⟩ => ho'' pins s6 σ H6 z' z2 w' w2 Q I6 r4 r6 q6))
def tChain4 (r1 r2 r3 r4 : R2) (ta tb tc td tf : TE) : TE := fun σ H Q => ta σ H fun x H1 => tb σ H1 fun y H2 => r1 x y H2 fun z H3 => rTst z H3 fun k H4 => Br k (tc σ H4 fun z' H5 => r2 y z' H5 fun u H6 => rTst u H6 fun k' H7 => Br k' (td σ H7 fun w' H8 => r3 z' w' H8 fun u H6 => rTst u H6 fun k' H7 => Br k' (tf σ H7 fun w2 H8 => r4 w' w2 H8 Q) (Q (.bl false) H7)) (Q (.bl false) H7)) (Q (.bl false) H4)
theorem pe_chain4 {o1 o2 o3 o4 : CmpOp} {q1 q2 q3 q4 : R2} (h1 : OpR X (compareOp o1) q1) (h2 : OpR X (compareOp o2) q2) (h3 : OpR X (compareOp o3) q3) (h4 : OpR X (compareOp o4) q4) (ha : PE X a ta) (hb : PE X b tb) (hc : PE X c tc) (hd : PE X d td) (hf : PE X f tf)
    (hm : lastMarks [o1, o2, o3, o4] [b, c, d, f] = false := by with_unfolding_all rfl) : PE X (.Compare a [o1, o2, o3, o4] [b, c, d, f] pos) (tChain4 q1 q2 q3 q4 ta tb tc td tf) := by
  refine ⟨fun pins s σ H Q I h => ?_⟩
  refine Compare_chain (thn (ha.run pins s σ H _ I h) fun v s1 ⟨x, H1, I1, r1, q1⟩ => chain_link (thn (hb.run pins s1 σ H1 _ I1 q1) fun u s2 ⟨y, H2, I2, r2, q2⟩ =>
    thn (h1 pins s2 σ H2 x y v u _ I2 r1 r2 q2) fun d s3 ⟨z, H3, I3, r3, k, e, q3⟩ => ?_)) hm
  subst e
  cases r3
  refine wpAny_truthy_bool ?_
  unfold Br at q3
  cases k with
  | false => exact ite_ff ⟨.bl false, H3, I3, rfl, q3⟩
  | true =>
    refine ite_tt (chain_link (thn (hc.run pins s3 σ H3 _ I3 q3) fun w' s4 ⟨z', H4, I4, r4, q4⟩ => thn (h2 pins s4 σ H4 y z' u w' _ I4 r2 r4 q4) fun d' s5 ⟨u2, H5, I5, r5, k2, e2, q5⟩ => ?_))
    subst e2
    cases r5
    refine wpAny_truthy_bool ?_
    cases k2 with
    | false => exact ite_ff ⟨.bl false, H5, I5, rfl, q5⟩
    | true =>
      refine ite_tt (chain_link (thn (hd.run pins s5 σ H5 _ I5 q5) fun w2 s6 ⟨z2, H6, I6, r6, q6⟩ => thn (h3 pins s6 σ H6 z' z2 w' w2 _ I6 r4 r6 q6) fun d' s7 ⟨u2, H7, I7, r7, k2, e2, q7⟩ => ?_))
      subst e2
      cases r7
      refine wpAny_truthy_bool ?_
      cases k2 with
      | false => exact ite_ff ⟨.bl false, H7, I7, rfl, q7⟩
      | true => exact ite_tt (chain_last (thn (hf.run pins s7 σ H7 _ I7 q7) fun w3 s8 ⟨z3, H8, I8, r8, q8⟩ => h4 pins s8 σ H8 z2 z3 w2 w3 Q I8 r6 r8 q8))
end
section
variable {σ : L2.St} {H : Hp} {Q : VK} {r1 r2 r3 r4 : R2} {ta tb tc td tf : TE}
theorem g_chain3 (h : ta σ H fun x H1 => tb σ H1 fun y H2 => r1 x y H2 fun z H3 => rTst z H3 fun k H4 => Br k (tc σ H4 fun z' H5 => r2 y z' H5 fun u H6 => rTst u H6 fun k' H7 => Br k' (td σ H7 fun w' H8 => r3 z' w' H8 Q) (Q (.bl false) H7)) (Q (.bl false) H4)) : tChain3 r1 r2 r3 ta tb tc td σ H Q := h
theorem g_chain4 (h : ta σ H fun x H1 => tb σ H1 fun y H2 => r1 x y H2 fun z H3 => rTst z H3 fun k H4 => Br k (tc σ H4 fun z' H5 => r2 y z' H5 fun u H6 => rTst u H6 fun k' H7 => Br k' (td σ H7 fun w' H8 => r3 z' w' H8 fun u H6 => rTst u H6 fun k' H7 => Br k' (tf σ H7 fun w2 H8 => r4 w' w2 H8 Q) (Q (.bl false) H7)) (Q (.bl false) H7)) (Q (.bl false) H4)) : tChain4 r1 r2 r3 r4 ta tb tc td tf σ H Q := h
end
section
variable {X : Cx}
def rUpd : V → List V → Hp → VK → Prop := fun x vs H Q => ∃ a b kvs more, x = .ref a ∧ vs = [.ref b] ∧ b ≠ a ∧ H a = some (.dK kvs) ∧ H b = some (.dK more) ∧ kvs.length + more.length ≤ sizeLine ∧ Q .non (upd H a (.dK (mergeK kvs more)))
theorem mt_update : MtR X "dict.update" rUpd := by
  intro pins s σ H x vs v us Q I rx rv h
  obtain ⟨a, b, kvs, more, rfl, rfl, hab, hA, hB, hz, q⟩ := h
  cases rx
  obtain ⟨u, rfl, ru⟩ := vals1 rv
  cases ru
  obtain ⟨z, hd, vs, rel, dd⟩ := dk_of I.hok hA
  obtain ⟨z2, hd2, vs2, rel2, dd2⟩ := dk_of I.hok hB
  refine call_meetsIn PySem.F.slot_dict_update dd.typeIs PySem.F.entry_dict_update (PySem.F.args_dict_update_2 _ _) (meets_dict_update (mixKind X.prog X.w) a b (Ne.symm hab) hd2)
    ⟨vs, vs2, dd, dd2, by rw [← rel.length, ← rel2.length]; exact hz, fun h' dd' _ hs => ?_⟩
  have he : ∃ q, h'.get? a = some q := let ⟨q, _, _, hq, _⟩ := dd'; ⟨q, hq⟩
  refine ⟨.non, _, d_write (t' := s.toks) I (by rw [hA]; exact True.intro) hs he (dk_new (Nat.le_trans (length_mergeK more kvs) hz) hd (rel2.merge rel) dd'), rfl, q⟩
end
end Z

/-! Z3: sorted of pairs of ints. -/
namespace Z
open PySem PySem.Spec PyProof.Rows L2
def pairOf (B : Hp) (p : Addr) : Int × Int := match B p with | some (.tup [.int i, .int j]) => (i, j) | _ => (0, 0)
theorem pairOf_eq {B : Hp} {p : Addr} {i j : Int} (h : B p = some (.tup [.int i, .int j])) : pairOf B p = (i, j) := by unfold pairOf; rw [h]
def vAd : V → Addr | .ref a => a | _ => 0
def rSortP (K : PySem.W.Frag) : List V → Hp → VK → Prop := rSortedPO K
theorem call_sortP {X : Cx} : CallR X (.builtin "sorted") (rSortP X.K) := cr_sortedPO
theorem refs_of : ∀ {ys : List V}, (∀ y ∈ ys, ∃ p, y = V.ref p) → ∃ qs : List Addr, ys = qs.map V.ref
  | [], _ => ⟨[], rfl⟩
  | y :: ys, h => by
    obtain ⟨p, rfl⟩ := h y (List.mem_cons_self ..)
    obtain ⟨qs, rfl⟩ := refs_of fun z hz => h z (List.mem_cons_of_mem _ hz)
    exact ⟨p :: qs, rfl⟩
theorem map_ref_perm {ps qs : List Addr} (h : (ps.map V.ref).Perm (qs.map V.ref)) : ps.Perm qs := by
  have := h.map vAd
  rwa [List.map_map, List.map_map, show (vAd ∘ V.ref) = id from rfl, List.map_id, List.map_id] at this
theorem r_sortP {K : PySem.W.Frag} {B H : Hp} {L : List Cell} {a : Addr} {ps : List Addr} {Q : VK} (w : W B L H) (h : SqL K B a (ps.map V.ref)) (hp : ∀ p ∈ ps, ∃ i j, B p = some (.tup [.int i, .int j]))
    (q : ∀ (p : Addr) (B' H' : Hp) (qs : List Addr), Same B B' → qs.Perm ps → (qs.map fun p => (pairOf B p).1).Pairwise (· ≤ ·) → qs.Pairwise (fun x y => ¬ ((pairOf B y).1 < (pairOf B x).1 ∨ ((pairOf B y).1 = (pairOf B x).1 ∧ (pairOf B y).2 < (pairOf B x).2))) → B' p = some (.lst (qs.map V.ref)) → W B' L H' → Q (.ref p) H') : rSortP K [.ref a] H Q := by
  refine ⟨a, ps.map V.ref, fun v => pairOf B (vAd v), rfl, w.sq h, fun x hx => ?_, fun ys p hs hb hn => ?_⟩
  · obtain ⟨t, ht, rfl⟩ := List.mem_map.mp hx
    obtain ⟨i, j, e⟩ := hp t ht
    refine ⟨t, rfl, ?_⟩
    show H t = some (.tup [.int (pairOf B t).1, .int (pairOf B t).2])
    rw [pairOf_eq e]
    exact w.rd e
  · obtain ⟨qs, rfl⟩ := refs_of (ys := ys) fun y hy => by
      obtain ⟨t, _, e⟩ := List.mem_map.mp (hb.perm.mem_iff.mp hy)
      exact ⟨t, e.symm⟩
    have pm := map_ref_perm hb.perm
    have pw : qs.Pairwise (fun x y => ¬ ((pairOf B y).1 < (pairOf B x).1 ∨ ((pairOf B y).1 = (pairOf B x).1 ∧ (pairOf B y).2 < (pairOf B x).2))) := by
      have := List.pairwise_map.mp hs
      exact this.imp fun {x y} hxy => SrtO.lexB_no.mp hxy
    refine q p _ _ qs (same_new (w.freeB hn)) pm (List.pairwise_map.mpr (pw.imp fun {x y} hxy => by omega)) pw upd_same (w.newB hn _)
end Z

/-! Z5: C.__init__(self, ..) of an own class C, by its name; what is never reached. -/
namespace Z
open PySem PySem.Spec PyProof.Rows L2
section
variable {X : Cx} {CX : CXT} {k : Nat} {x m : Str} {C0 fI : Addr} {mc : Value} {fd : FuncData} {ps : List Str} {sp : Sp} {ds : List Value} {dvs : List V} {E : XK} {e : Expr} {es : List Expr} {ta t : TA} {p1 p2 pos : Pos} {st : Stmt} {pl : Sem Bool}
theorem ps_dead : PS X st (fun _ _ _ => False) := ⟨fun _ _ _ _ _ _ h => h.elim⟩
/-- WalkError.__init__(self, ..): nothing of it is told -/
theorem pe_weinit (hg : Gl X x) (hm : X.mg x = some (.ref C0)) (r : ClX.CRead X.K C0 mc) (vV : PySem.W.findCls X.K (.ref C0) mc "__init__" = some (.val (.builtin "ValueError.__init__"))) (ha : PA X (e :: es) ta)
    (hdb : (x == ("__debug__" : Str)) = false := by decide)
    (hc : eval (.Call (.Attribute (.Name x p1) "__init__" p2) (e :: es) [] pos) X.env = (do
      let ov ← eval (.Name x p1) X.env
      standAt p2.atName
      let (f, first) ← holding [ov] (getMethod ov "__init__" pl)
      callWith pos f first (backTo pos (starEach (e :: es) X.env)) (backToKw pos (keywordEach [] X.env))) := by rfl)
    (he : starEach (e :: es) X.env = (false, eval e X.env) :: starEach es X.env := by rfl) (hpl : (backTo pos (starEach es X.env)).any (·.1) = false := by rfl) :
    PE X (.Call (.Attribute (.Name x p1) "__init__" p2) (e :: es) [] pos) (tVeI X.K ta) := by
  refine ⟨fun pins s σ H Q I h => ?_⟩
  refine PySem.W.methodCall_KW (ld_glob I hg hm ?_ hdb) hc
  refine PySem.W.method_cls I.kIn r.ga (PySem.W.cls_value I.kIn r.rd vV (by decide +kernel) ?_)
  show wpAny _ _ (callWith pos (Value.builtin "ValueError.__init__") [] (backTo pos (starEach (e :: es) X.env)) []) _ _ _
  refine PyProof.Rows.callWith_method1 (thn (ha.run pos pins _ σ H _ (I.tok _) h) fun us s1 ⟨vs, H1, I1, r1, a, C, ws, ev, hl, T, ea, q⟩ => ?_) he hpl
  subst ev
  cases r1 with
  | @cons _ u0 _ ur ra rw' =>
    obtain rfl : u0 = Value.ref a := ra
    have hlen : ur.length ≤ sizeLine := by
      rw [← Paired.length rw', sizeLine_eq]
      omega
    exact oinit_ok T I1 ea hlen fun s' J => ⟨.non, H1, J, rfl, q⟩
/-- C.m(a, ..), m a def of the class at C0 -/
theorem pe_cinit (hg : Gl X x) (hm : X.mg x = some (.ref C0)) (r : ClX.CRead X.K C0 mc) (vV : PySem.W.findCls X.K (.ref C0) mc m = some (.val (.ref fI))) (hh : PySem.W.handedIn (.ref fI) = true)
    (F : FnOk X.prog X.w X.K X.mg X.base CX k fI fd ps sp) (hr : Room k X.A) (hk : PySem.W.keepIn X.K (.ref fI) = true) (hb : Binds X.K fd ps ds) (hd : Vals dvs ds) (hx : Passes CX X E) (ha : PA X (e :: es) t)
    (hdb : (x == ("__debug__" : Str)) = false := by decide)
    (hc : eval (.Call (.Attribute (.Name x p1) m p2) (e :: es) [] pos) X.env = (do
      let ov ← eval (.Name x p1) X.env
      standAt p2.atName
      let (f, first) ← holding [ov] (getMethod ov m pl)
      callWith pos f first (backTo pos (starEach (e :: es) X.env)) (backToKw pos (keywordEach [] X.env))) := by rfl)
    (he : starEach (e :: es) X.env = (false, eval e X.env) :: starEach es X.env := by rfl) (hpl : (backTo pos (starEach es X.env)).any (·.1) = false := by rfl) :
    PE X (.Call (.Attribute (.Name x p1) m p2) (e :: es) [] pos) (tCall sp dvs E t) := by
  refine ⟨fun pins s σ H Q I h => ?_⟩
  refine PySem.W.methodCall_KW (ld_glob I hg hm ?_ hdb) hc
  refine PySem.W.method_cls I.kIn r.ga (PySem.W.cls_value I.kIn r.rd vV hh ?_)
  show wpAny _ _ (callWith pos (Value.ref fI) [] (backTo pos (starEach (e :: es) X.env)) []) _ _ _
  refine PySem.W.callWith_K (h₀ := X.base) I.ok.mod.kin hk (thn (ha.run pos pins _ σ H _ (I.tok _) h) fun us s1 ⟨vs, H1, I1, r, q⟩ => ⟨I1.kIn, ?_⟩) he hpl
  exact run_fn F hr hb hd hx I1 r q
end
end Z

/-! Z6: readings of lists: methods, stores, in, sum, sorted. -/
namespace Z
open PySem PySem.Spec PyProof.Rows L2
def rBm (K : PySem.W.Frag) (T : String) (r : V → List V → Hp → VK → Prop) (t : TA) (σ : L2.St) (x : V) (H1 : Hp) (Q : VK) : Prop := tyV K T x H1 ∧ t σ H1 fun xs H2 => r x xs H2 Q
section
variable {K : PySem.W.Frag} {T : String} {r : V → List V → Hp → VK → Prop} {t : TA} {to ti : TE} {σ : L2.St} {H : Hp} {Q : VK} {x y v : V} {l p : Addr} {xs : List V} {ns : List Int} {n : Int} {k : Nat} {ts : TSet} {QS : L2.St → Hp → Prop} {P : Hp → Prop}
theorem g_bm (h : to σ H fun x H1 => rBm K T r t σ x H1 Q) : tBM K T r to t σ H Q := h
theorem g_bm0 (h : to σ H fun x H1 => tyV K T x H1 ∧ r x [] H1 Q) : tBM0 K T r to σ H Q := h
theorem r_bmL (h : SqL K H l xs) (q : t σ H fun xs H2 => r (.ref l) xs H2 Q) : rBm K "list" r t σ (.ref l) H Q := ⟨.inl ⟨rfl, _, h⟩, q⟩
theorem r_append (h : H l = some (.lst xs)) (z : xs.length < sizeLine) (q : Q .non (upd H l (.lst (xs ++ [y])))) : rAppend (.ref l) [y] H Q := ⟨l, xs, y, rfl, rfl, h, z, q⟩
theorem r_extend {zs : List V} (h : H l = some (.lst xs)) (h2 : H p = some (.lst zs)) (z : xs.length + zs.length ≤ sizeLine) (q : Q .non (upd H l (.lst (xs ++ zs)))) : rExtend (.ref l) [.ref p] H Q := ⟨l, p, xs, zs, rfl, rfl, h, h2, z, q⟩
theorem seqIx (h : k < xs.length) : seqIndex? (k : Int) xs.length = some k := by
  unfold seqIndex?
  have e : (if (k : Int) < 0 then (k : Int) + (xs.length : Nat) else (k : Int)) = (k : Int) := if_neg (by omega)
  simp only [e]
  rw [if_pos (by simp; omega)]
  simp
theorem r_popAt (h : H l = some (.lst xs)) (z : xs.length < 2 ^ 62) (e : xs[k]? = some y) (q : Q y (upd H l (.lst (xs.eraseIdx k)))) : rPopAt (.ref l) [.int (k : Nat)] H Q := by
  have hk := (List.getElem?_eq_some_iff.mp e).1
  exact ⟨l, xs, k, k, y, rfl, rfl, h, by omega, by omega, seqIx hk, e, q⟩
def rInsert : V → List V → Hp → VK → Prop := fun x vs H Q => ∃ (l : Addr) (xs : List V) (i : Int) (y : V), x = .ref l ∧ vs = [.int i, y] ∧ H l = some (.lst xs) ∧ xs.length < sizeLine ∧ 0 ≤ i ∧ i < 2 ^ 63 ∧ Q .non (upd H l (.lst (xs.take i.toNat ++ [y] ++ xs.drop i.toNat)))
theorem mt_insertZ {X : Cx} : MtR X "list.insert" rInsert := mt_insert
theorem r_insert (h : H l = some (.lst xs)) (z : xs.length < sizeLine) (hk : k < 2 ^ 62) (q : Q .non (upd H l (.lst (xs.take k ++ [y] ++ xs.drop k)))) : rInsert (.ref l) [.int (k : Nat), y] H Q :=
  ⟨l, xs, k, y, rfl, rfl, h, z, by omega, by omega, q⟩
def rSubS (ts : TSet) (v : V) (QS : Hp → Prop) (o i : V) (H2 : Hp) : Prop := ts o i v H2 QS
theorem g_sub (h : to σ H fun o H1 => ti σ H1 fun i H2 => rSubS ts v (QS σ) o i H2) : gSub to ti ts v σ H QS := h
theorem r_setL (h : H l = some (.lst xs)) (hk : k < xs.length) (q : P (upd H l (.lst (xs.set k v)))) : rSubS rSetL v P (.ref l) (.int (k : Nat)) H := by
  refine ⟨l, xs, k, k, rfl, rfl, h, ?_, q⟩
  unfold ixN
  rw [if_pos (by omega), if_pos (by omega)]
  simp
theorem flat_ints : ∀ ns : List Int, (ns.map V.int).all flatV = true
  | [] => rfl
  | _ :: r => by rw [List.map_cons, List.all_cons, flat_ints r]; rfl
theorem in_ints (n : Int) : ∀ ns : List Int, inV (.int n) (ns.map V.int) = decide (n ∈ ns)
  | [] => by simp [inV]
  | m :: r => by
    have h := in_ints n r
    unfold inV at h ⊢
    rw [List.map_cons, List.any_cons, h]
    show (m == n || decide (n ∈ r)) = decide (n ∈ m :: r)
    by_cases e : n = m
    · subst e; simp
    · have e2 : (m == n) = false := by simpa using fun h : m = n => e h.symm
      rw [e2]
      simp [e]
theorem r_inL (h : SqL K H p (ns.map V.int)) (q : Q (.bl (decide (n ∈ ns))) H) : rIn K false (.int n) (.ref p) H Q := ⟨p, _, rfl, .inl h, rfl, flat_ints ns, by rw [in_ints]; exact q⟩
theorem r_ninL (h : SqL K H p (ns.map V.int)) (q : Q (.bl (!decide (n ∈ ns))) H) : rIn K true (.int n) (.ref p) H Q := ⟨p, _, rfl, .inl h, rfl, flat_ints ns, by rw [in_ints]; exact q⟩
theorem r_sum (h : SqL K H p (ns.map V.int)) (q : Q (.int ns.sum) H) : rSum K [.ref p] H Q := ⟨p, ns, rfl, h, q⟩
theorem r_sortI {B : Hp} {L : List Cell} (w : W B L H) (h : SqL K H p (ns.map V.int)) (q : ∀ (p' : Addr) (B' H' : Hp) (ms : List Int), ms.Perm ns → ms.Pairwise (· ≤ ·) → Same B B' → B' p' = some (.lst (ms.map V.int)) → W B' L H' → Q (.ref p') H') : rSortedI K [.ref p] H Q :=
  ⟨p, ns, rfl, h, fun ms p' h1 h2 hn => q p' _ _ ms h1 h2 (same_new (w.freeB hn)) upd_same (w.newB hn _)⟩
end
end Z

/-! Z7: sorted of a dict's keys, whole numbers, any number of them. -/
namespace Z
open PySem PySem.Spec PyProof.Rows L2
def rSortDI : List V → Hp → VK → Prop := fun xs H Q => ∃ (a : Addr) (kvs : List (Key × V)) (ns : List Int), xs = [.ref a] ∧ Rd H a (.dK kvs) ∧ kvs.map (·.1) = ns.map Sum.inl ∧
  ∀ (ms : List Int) (p : Addr), ms.Perm ns → ms.Pairwise (· ≤ ·) → H p = none → Q (.ref p) (upd H p (.lst (ms.map V.int)))
theorem call_sortDI {X : Cx} (hcalm : X.calm = true) : CallR X (.builtin "sorted") rSortDI := by
  intro pins s σ H xs us Q I r q
  obtain ⟨a, kvs, ns, ex, hd, hks, q⟩ := q
  subst ex
  obtain ⟨u, eu, rx⟩ := vals1 r
  subst eu
  cases rx
  obtain ⟨z, lo, vs, rel, dd⟩ := dk_rd I.hok hd
  obtain ⟨ep, hat⟩ := dd.dictAt
  have hkeys : vs.map (·.1) = ns.map Sum.inl := rel.keys.symm.trans hks
  have hl : vs.length = ns.length := by
    have e := congrArg List.length hkeys
    rw [List.length_map, List.length_map] at e
    exact e
  have h16 : vs.length ≤ sizeLine := by rw [← rel.length]; exact z
  refine Calls.call_function_entry PyProof.Rows.kind_sorted PyProof.Rows.plain_sorted PyProof.Rows.entry_sorted (PyProof.Rows.args_sorted1 _) ?_
  unfold Builtin.«sorted»
  refine wpAny_bind (m := checkCount "sorted" 1 1 _) (wpAny_pure ?_)
  refine wpAny_bind (PySem.W.kdu_collect (A := X.A.in1) (PySem.W.kdl_dict (knd := mixKind X.prog X.w) (kvs := vs) (ep := ep) lo) (I.ok.hd hcalm) hat h16 fun h' tk acc hk hacc => ?_)
  have hv : Vals (vs.map fun p => kV p.1) acc.toList := keys_at (by rw [Array.length_toList]; exact hacc.1) fun j v e => hacc.2 j v (by rw [← Array.getElem?_toList]; exact e)
  have ek : (vs.map fun p => kV p.1) = ns.map V.int := by
    have e := congrArg (List.map kV) hkeys
    rw [List.map_map, List.map_map] at e
    exact e
  rw [ek] at hv
  have hi := hv.ints
  have hal : acc.toList.length = ns.length := by rw [Array.length_toList, hacc.1, hl]
  have hz : acc.toList.length ≤ sizeLine := by rw [hal, ← hl]; exact h16
  have I1 : Inv X pins σ H { s with heap := h', toks := tk } := I.kept hk
  refine wpAny_bind (wpAny_newList ?_ hz)
  have hoL : (h'.push (seqObj "list" acc.toList.toArray 0)).get? h'.objs.size = some (seqObj "list" acc.toList.toArray 0) := Heap.get?_push_size _ rfl
  show wpAny _ _ _ _ _ { s with heap := h'.push (seqObj "list" acc.toList.toArray 0), toks := tk }
  refine wpAny_bind (wpAny_holding (wpAny_call_entry PyProof.Rows.slot_list_sort ⟨_, hoL, rfl⟩ PyProof.Rows.entry_list_sort
    (SrtO.list_sort_ord SrtO.swo_int (s := { s with heap := h'.push (seqObj "list" acc.toList.toArray 0), toks := tk }) hoL hz (fun h2 => SrtO.ints_sortable hi h2) fun out h1 h2 => ⟨_, rfl, ?_⟩)
    (PyProof.Rows.args_list_sort _)))
  obtain ⟨k1, k2, k3⟩ := SrtO.ints_out hi h1 h2
  obtain ⟨e', he'⟩ := PyProof.Rows.sortedHeap_at (vs := acc.toList) (out := out.toArray) hoL
  have hlen : ((out.map SrtO.iv).map V.int).length ≤ sizeLine := by
    rw [List.length_map, k2.length_eq, ← hl]
    exact h16
  refine wpAny_pure ⟨_, rfl, .ref h'.objs.size, upd H h'.objs.size (.lst ((out.map SrtO.iv).map V.int)), I1.laid (t' := tk) (fun b u e => ?_) (Nat.le_refl _)
    (show ObjOk X.prog X.w _ _ _ (.lst ((out.map SrtO.iv).map V.int)) from ⟨hlen, out, e', vals_of_ints k1, he'⟩), rfl, q _ _ k2 k3 (I1.hok.fresh (Nat.le_refl _))⟩
  have hb : b < h'.objs.size := Heap.lt_size e
  rw [PyProof.Rows.sortedHeap_old (Nat.ne_of_lt hb) (by rw [size_push']; exact Nat.lt_succ_of_lt hb)]
  exact Heap.get?_push_of_some _ e
end Z

/-! Z8: slices by a step of two or more. -/
namespace Z
open PySem PySem.Spec PyProof.Rows L2
theorem vals_pick {xs : List V} {us : List Value} (r : Vals xs us) : ∀ js : List Nat, Vals (js.filterMap (xs[·]?)) (js.filterMap (us.toArray[·]?))
  | [] => .nil
  | j :: js => by
    have ih := vals_pick r js
    cases e : xs[j]? with
    | none =>
      have e2 : us[j]? = none := r.none_of e
      have e3 : us.toArray[j]? = none := by simpa using e2
      rw [List.filterMap_cons_none e, List.filterMap_cons_none e3]
      exact ih
    | some x =>
      obtain ⟨u, e2, ru⟩ := r.get e
      have e3 : us.toArray[j]? = some u := by simpa using e2
      rw [List.filterMap_cons_some e, List.filterMap_cons_some e3]
      exact .cons ru ih
theorem range_up {a b c : Int} (ha : 0 ≤ a) (hc : 0 < c) : (sliceRange a b c).Pairwise (· < ·) := by
  unfold sliceRange
  refine List.pairwise_map.mpr ?_
  refine List.pairwise_lt_range.imp ?_
  intro i j hij
  have h1 : 0 ≤ c * (i : Int) := Int.mul_nonneg (by omega) (by omega)
  have h2 : c * (i : Int) < c * (j : Int) := Int.mul_lt_mul_of_pos_left (by omega) hc
  omega
def rStep (K : PySem.W.Frag) (Q : VK) (x : V) (H : Hp) : Prop := ∃ a xs, x = .ref a ∧ SqL K H a xs ∧ ∀ (js : List Nat) p, js.Pairwise (· < ·) → (js.filterMap (xs[·]?)).length ≤ xs.length → H p = none → Q (.ref p) (upd H p (.lst (js.filterMap (xs[·]?))))
def tStep0 (K : PySem.W.Frag) (te : TE) : TE := fun σ H Q => te σ H (rStep K Q)
def tStepL (K : PySem.W.Frag) (te : TE) (lo : Int) : TE := fun σ H Q => te σ H (rStep K Q)
section
variable {X : Cx}
theorem pe_step {e : Expr} {te : TE} {low : Option Expr} {tl : TO} {lo : Option Int} {c : Int} {k : Nat} {p1 p3 pos : Pos} (hc : 0 < c) (hp : PO X low tl) (htl : ∀ σ H (Q : Option Int → Hp → Prop), Q lo H → tl σ H Q) (he : PE X e te) : PE X (.Subscript e (.Slice low none (some (.Constant (.int c) k p1)) p3) pos) (tStep0 X.K te) := by
  refine ⟨fun pins s σ H Q I h => ?_⟩
  refine Subscript_ (thn (he.run pins s σ H _ I h) fun v s1 ⟨x, H1, I1, r1, q1⟩ => ?_)
  obtain ⟨a, xs, ex, hx, q⟩ := q1
  subst ex
  cases r1
  have hst : PO X (some (.Constant (.int c) k p1)) (tPart (tC (.int c))) := po_some pe_int
  refine wpAny_Slice (thn (hp.run pins s1 σ H1 (fun o H2 => o = lo ∧ H2 = H1) I1 (htl _ _ _ ⟨rfl, rfl⟩)) fun vl s2 ⟨l, H2, I2, pl, el, e2⟩ => ?_)
  subst el e2
  refine thn (po_none.run pins s2 σ H2 (fun o H3 => o = none ∧ H3 = H2) I2 ⟨rfl, rfl⟩) fun vu s3 ⟨u, H3, I3, pu, eu, e3⟩ => ?_
  subst eu e3
  refine thn (hst.run pins s3 σ H3 (fun o H4 => o = some c ∧ H4 = H3) I3 ⟨c, rfl, rfl, rfl⟩) fun vs s4 ⟨o, H4, I4, ps, eo, e4⟩ => ?_
  subst eo e4
  have I5 : Inv X pins σ H4 { s4 with heap := s4.heap.push { cls := .type "slice", data := .fields #[vl, vu, vs] } } := I4.kept (t' := s4.toks) fun b ob q => Heap.get?_push_of_some _ q
  obtain ⟨its, r, ht, hz⟩ := I5.list hx
  have hlen := r.length
  show wpAny (model X.prog X.w) X.A (subscriptTail e (.Slice low none (some (.Constant (.int c) k p1)) p3) (.ref a) (.ref s4.heap.objs.size)) (EP X pins σ Q) X.xe { s4 with heap := s4.heap.push { cls := .type "slice", data := .fields #[vl, vu, vs] } }
  refine tail_any (ops := [.ref a, .ref s4.heap.objs.size]) ht.isList.typeIs (PySem.slot_list_getitem.lookup) ?_ (by with_unfolding_all rfl)
  refine wpAny_getItem_list_slice ht.isList (Heap.IsSliceOf.new _ vl vu vs) pl pu ps (by simp; omega) ?_ (by rw [List.size_toArray]; omega)
  have h1 := slicePick_size_le its.toArray l none (some c)
  have hv := vals_pick r (sliceRange (sliceBounds l none (some c) its.toArray.size).1 (sliceBounds l none (some c) its.toArray.size).2.1 (sliceBounds l none (some c) its.toArray.size).2.2)
  have hj : (sliceRange (sliceBounds l none (some c) its.toArray.size).1 (sliceBounds l none (some c) its.toArray.size).2.1 (sliceBounds l none (some c) its.toArray.size).2.2).Pairwise (· < ·) := by
    have h3 : (sliceBounds l none (some c) its.toArray.size).2.2 = c := rfl
    rw [h3]
    refine range_up ?_ hc
    simp only [sliceBounds, Option.getD_some, gt_iff_lt, hc, if_true]
    cases l with
    | none => simp
    | some i => dsimp only; omega
  unfold slicePick at h1 ⊢
  generalize sliceRange (sliceBounds l none (some c) its.toArray.size).1 (sliceBounds l none (some c) its.toArray.size).2.1 (sliceBounds l none (some c) its.toArray.size).2.2 = js at h1 hv hj ⊢
  have hl2 : (js.filterMap (xs[·]?)).length ≤ xs.length := by rw [hv.length]; rw [List.size_toArray, List.size_toArray] at h1; omega
  refine ⟨.ref _, _, I5.laid (t' := s4.toks) (o := .lst (js.filterMap (xs[·]?))) (fun b ob q => Heap.get?_push_of_some _ q) (Nat.le_refl _) ?_, rfl, q js _ hj hl2 (I5.hok.fresh (Nat.le_refl _))⟩
  exact ⟨by omega, _, 0, hv, Heap.get?_push_size _ rfl⟩
theorem pe_step0 {e : Expr} {te : TE} {c : Int} {k : Nat} {p1 p3 pos : Pos} (hc : 0 < c) (he : PE X e te) : PE X (.Subscript e (.Slice none none (some (.Constant (.int c) k p1)) p3) pos) (tStep0 X.K te) :=
  pe_step (lo := none) hc po_none (fun _ _ _ h => h) he
theorem pe_stepL {e : Expr} {te : TE} {c lo : Int} {k k2 : Nat} {p1 p2 p3 pos : Pos} (hc : 0 < c) (he : PE X e te) : PE X (.Subscript e (.Slice (some (.Constant (.int lo) k2 p2)) none (some (.Constant (.int c) k p1)) p3) pos) (tStep0 X.K te) :=
  pe_step (lo := some lo) (tl := tPart (tC (.int lo))) hc (po_some pe_int) (fun _ _ _ h => ⟨lo, rfl, h⟩) he
end
section
variable {K : PySem.W.Frag} {σ : L2.St} {B H : Hp} {L : List Cell} {te : TE} {a : Addr} {ns : List Int} {Q : VK}
theorem g_step0 (h : te σ H (rStep K Q)) : tStep0 K te σ H Q := h
theorem pick_int (ns : List Int) : ∀ js : List Nat, js.filterMap ((ns.map V.int)[·]?) = (js.filterMap (ns[·]?)).map V.int
  | [] => rfl
  | j :: js => by
    have ih := pick_int ns js
    cases e : ns[j]? with
    | none => rw [List.filterMap_cons_none (by rw [List.getElem?_map, e]; rfl), List.filterMap_cons_none e, ih]
    | some n => rw [List.filterMap_cons_some (b := V.int n) (by rw [List.getElem?_map, e]; rfl), List.filterMap_cons_some e, ih]; rfl
theorem pick_mem {ns : List Int} {js : List Nat} {n : Int} (h : n ∈ js.filterMap (ns[·]?)) : n ∈ ns := by
  obtain ⟨j, _, e⟩ := List.mem_filterMap.mp h
  exact List.mem_of_getElem? e
theorem pick_nd {ns : List Int} {js : List Nat} (h : ns.Nodup) (hj : js.Pairwise (· < ·)) : (js.filterMap (ns[·]?)).Nodup := by
  unfold List.Nodup
  refine List.pairwise_filterMap.mpr (hj.imp ?_)
  intro i j hij x hx y hy e
  subst e
  obtain ⟨h1, e1⟩ := List.getElem?_eq_some_iff.mp hx
  obtain ⟨h2, e2⟩ := List.getElem?_eq_some_iff.mp hy
  have := List.pairwise_iff_getElem.mp h i j h1 h2 hij
  rw [e1, e2] at this
  exact this rfl
/-- every so many of a list of numbers: some of them, none twice where none stood twice -/
theorem d_step (w : W B L H) (h : SqL K H a (ns.map V.int)) (q : ∀ (ms : List Int) p B' H', (∀ n ∈ ms, n ∈ ns) → (ns.Nodup → ms.Nodup) → ms.length ≤ ns.length → H p = none → Same B B' → B' p = some (.lst (ms.map V.int)) → W B' L H' → Q (.ref p) H') : rStep K Q (.ref a) H := by
  refine ⟨a, _, rfl, h, fun js p hj hl hp => ?_⟩
  rw [pick_int] at hl ⊢
  rw [List.length_map, List.length_map] at hl
  exact q _ p _ _ (fun n => pick_mem) (fun hn => pick_nd hn hj) hl hp (same_new (w.freeB hp)) upd_same (w.newB hp _)
end
section
variable {K : PySem.W.Frag} {σ : L2.St} {B H : Hp} {L : List Cell} {te : TE} {a : Addr} {xs : List V} {Q : VK}
def rRevL (K : PySem.W.Frag) (Q : VK) (x : V) (H1 : Hp) : Prop := ∃ a xs, x = .ref a ∧ SqL K H1 a xs ∧ ∀ p, H1 p = none → Q (.ref p) (upd H1 p (.lst xs.reverse))
theorem g_revL (h : te σ H (rRevL K Q)) : tRevL K te σ H Q := h
theorem d_revL (w : W B L H) (h : SqL K H a xs) (q : ∀ p B' H', H p = none → Same B B' → B' p = some (.lst xs.reverse) → W B' L H' → Q (.ref p) H') : rRevL K Q (.ref a) H :=
  ⟨a, xs, rfl, h, fun p hp => q p _ _ hp (same_new (w.freeB hp)) upd_same (w.newB hp _)⟩
end
end Z

/-! Z9: dicts with whole numbers as keys; enumerate. -/
namespace Z
open PySem PySem.Spec PyProof.Rows L2
/-- the keys of a dict, in their order -/
def Ks (kvs : List (Key × V)) (ns : List Int) : Prop := kvs.map (·.1) = ns.map Sum.inl
section
variable {kvs : List (Key × V)} {ns : List Int} {n : Int} {v : V}
theorem Ks.nil : Ks [] [] := rfl
theorem Ks.len (h : Ks kvs ns) : kvs.length = ns.length := by
  have e := congrArg List.length h
  rwa [List.length_map, List.length_map] at e
theorem inl_mem {ns : List Int} {n : Int} : (Sum.inl n : Key) ∈ ns.map Sum.inl ↔ n ∈ ns := by
  rw [List.mem_map]
  constructor
  · rintro ⟨m, h, e⟩; cases e; exact h
  · exact fun h => ⟨n, h, rfl⟩
theorem Ks.isSome (h : Ks kvs ns) : (valV kvs (Sum.inl n)).isSome = decide (n ∈ ns) := by
  cases e : valV kvs (Sum.inl n) with
  | none =>
    have h1 := valV_not e
    rw [h, inl_mem] at h1
    exact (decide_eq_false h1).symm
  | some v =>
    have h1 := valV_in e
    rw [h, inl_mem] at h1
    exact (decide_eq_true h1).symm
theorem Ks.some (h : Ks kvs ns) (hn : n ∈ ns) : ∃ v, valV kvs (Sum.inl n) = some v := by
  have e := h.isSome (n := n)
  rw [decide_eq_true hn] at e
  exact Option.isSome_iff_exists.mp e
theorem Ks.none (h : Ks kvs ns) (hn : n ∉ ns) : valV kvs (Sum.inl n) = none := by
  have e := h.isSome (n := n)
  rw [decide_eq_false hn] at e
  cases e2 : valV kvs (Sum.inl n) with
  | none => rfl
  | some u => rw [e2] at e; cases e
theorem Ks.new (h : Ks kvs ns) (hn : n ∉ ns) : Ks (putK kvs (Sum.inl n) v) (ns ++ [n]) := by
  rw [putK_new v (h.none hn)]
  unfold Ks at h ⊢
  rw [List.map_append, h, List.map_append]
  rfl
theorem Ks.old (h : Ks kvs ns) (hn : n ∈ ns) : Ks (putK kvs (Sum.inl n) v) ns := by
  have e : (kvs.any fun kv => decide (kv.1 = Sum.inl n)) = true := by rw [valV_any, h.isSome, decide_eq_true hn]
  unfold Ks putK at *
  rw [if_pos e, List.map_map, ← h]
  refine List.map_congr_left fun p _ => ?_
  show (if p.1 = Sum.inl n then (p.1, v) else p).1 = p.1
  split <;> rfl
theorem Ks.drop : ∀ {kvs : List (Key × V)} {ns : List Int}, Ks kvs ns → Ks (dropK kvs (Sum.inl n)) (ns.filter fun m => !decide (m = n))
  | [], [], _ => rfl
  | [], _ :: _, h => nomatch h
  | _ :: _, [], h => nomatch h
  | p :: r, m :: ms, h => by
    unfold Ks at h
    rw [List.map_cons, List.map_cons] at h
    injection h with h1 h2
    have ih := Ks.drop (show Ks r ms from h2)
    by_cases e : m = n
    · subst e
      rw [dropK_pos h1, List.filter_cons_of_neg (by simp)]
      exact ih
    · rw [dropK_neg (by rw [h1]; intro z; cases z; exact e rfl), List.filter_cons_of_pos (by simpa using e)]
      unfold Ks at ih ⊢
      rw [List.map_cons, List.map_cons, h1, ih]
end
section
variable {K : PySem.W.Frag} {σ : L2.St} {H : Hp} {Q : VK} {td ty tx : TE} {a : Addr} {kvs : List (Key × V)} {n : Int} {v z : V}
def rDPop1 (Q : VK) (ty : TE) (σ : L2.St) (x : V) (H1 : Hp) : Prop := ∃ a, x = .ref a ∧ IsD H1 a ∧ ty σ H1 fun y H2 => ∃ kvs k v, H2 a = some (.dK kvs) ∧ y = kV k ∧ valV kvs k = some v ∧ Q v (upd H2 a (.dK (dropK kvs k)))
def rDP1 (Q : VK) (a : Addr) (y : V) (H2 : Hp) : Prop := ∃ kvs k v, H2 a = some (.dK kvs) ∧ y = kV k ∧ valV kvs k = some v ∧ Q v (upd H2 a (.dK (dropK kvs k)))
theorem g_dpop1 (h : td σ H (rDPop1 Q ty σ)) : tDPop1 td ty σ H Q := h
theorem r_dpop1 (h : IsD H a) (q : ty σ H (rDP1 Q a)) : rDPop1 Q ty σ (.ref a) H := ⟨a, rfl, h, q⟩
theorem r_dp1 (h : H a = some (.dK kvs)) (e : valV kvs (Sum.inl n) = some v) (q : Q v (upd H a (.dK (dropK kvs (Sum.inl n))))) : rDP1 Q a (.int n) H := ⟨kvs, Sum.inl n, v, h, rfl, e, q⟩
theorem isD_of (h : H a = some (.dK kvs)) : IsD H a := .inl ⟨kvs, .inl h⟩
end
section
variable {K : PySem.W.Frag} {σ : L2.St} {H : Hp} {D : Ends} {tb : TS} {g : TG} {R : It → Hp → Prop} {ta : TA} {a : Addr} {xs : List V}
def rEnum (K : PySem.W.Frag) (R : It → Hp → Prop) (vs : List V) (H1 : Hp) : Prop := ∃ a xs, vs = [.ref a] ∧ SqL K H1 a xs ∧ R (Ite K a) H1
theorem g_enum (h : ta σ H (rEnum K R)) : iEnum K ta σ H R := h
theorem r_enum (h : SqL K H a xs) (q : R (Ite K a) H) : rEnum K R [.ref a] H := ⟨a, xs, rfl, h, q⟩
theorem FOR.enum (Pv : Nat → L2.St → Hp → Prop) (h0 : Pv 0 σ H) (hl : ∀ i σ H, i ≤ xs.length → Pv i σ H → SqL K H a xs)
    (hs : ∀ i x σ H T, xs[i]? = some x → Pv i σ H → H T = none → g (.ref T) σ (upd H T (.tup [.int (i : Nat), x])) fun σ2 H2 => tb { D with nx := Pv (i + 1), ct := Pv (i + 1), bk := D.nx } σ2 H2) (hd : ∀ σ H, Pv xs.length σ H → D.nx σ H) : FOR (Ite K a) g tb D σ H := by
  refine ⟨fun i m σ H => m + i = xs.length ∧ Pv i σ H, ⟨xs.length, by omega, h0⟩, fun i m σ H ⟨hm, p⟩ => ?_⟩
  have hq := hl i σ H (by omega) p
  by_cases c : i = xs.length
  · subst c
    exact .inl ⟨⟨xs, hq, Nat.le_refl _⟩, hd _ _ p⟩
  · have hi : i < xs.length := by omega
    refine .inr ⟨⟨xs, xs[i], hq, List.getElem?_eq_getElem hi⟩, Pv (i + 1), fun σ' H' h' => ⟨m - 1, by omega, by omega, h'⟩, fun x H' hy => ?_⟩
    obtain ⟨T, y, rfl, hT, rfl, hx⟩ := hy
    exact hs i y σ H T (hx _ hq) p hT
end
section
variable {K : PySem.W.Frag} {B H : Hp} {L : List Cell} {Q : VK} {a : Addr} {kvs : List (Key × V)} {ns : List Int}
theorem r_sortD (w : W B L H) (h : H a = some (.dK kvs)) (ks : Ks kvs ns) (q : ∀ (ms : List Int) (p : Addr) (B' H' : Hp), ms.Perm ns → ms.Pairwise (· ≤ ·) → Same B B' → B' p = some (.lst (ms.map V.int)) → W B' L H' → Q (.ref p) H') : rSortDI [.ref a] H Q :=
  ⟨a, kvs, ns, rfl, .inl h, ks, fun ms p h1 h2 hn => q ms p _ _ h1 h2 (same_new (w.freeB hn)) upd_same (w.newB hn _)⟩
end
end Z

/-! Z12: exceptions of the program's own classes: made, raised, caught, asked. -/
namespace Z
open PySem PySem.Spec PyProof.Rows L2
/-- what the written part says of an exception's class -/
structure XC (K : PySem.W.Frag) (C : Addr) : Prop where
  ox : OexC K C
  ex : ExcC K C
  sl : PySem.W.subIn K (.ref C) (.ref C) = some true
section
variable {K : PySem.W.Frag} {A B C : Addr} {b : Bool}
theorem XC.xf (h : XC K C) : XfC K C := ⟨h.ex.hg, h.ex.hk, h.ex.hs, h.ex.hd⟩
theorem XC.exm (h : XC K C) (s : PySem.W.subIn K (.ref A) (.ref C) = some b) : PySem.W.exmOne K (.ref A) (.ref C) = some b := PySem.W.exm_ref h.ex.hs h.ex.hd h.ox.tyC s
theorem XC.kit (hA : XC K A) (h : XC K C) (s : PySem.W.subIn K (.ref A) (.ref C) = some b) : PySem.W.kitOne K (.ref A) (.ref C) = some b := by
  obtain ⟨cd, hc, _⟩ := PySem.W.any_some h.ex.hd
  unfold PySem.W.kitOne
  by_cases e : A = C
  · subst e
    rw [hA.sl] at s
    cases s
    simp
  · have e2 : (Value.ref A == Value.ref C) = false := by
      refine Bool.eq_false_iff.mpr fun q => e (Value.ref.inj (beq_iff_eq.mp q))
    rw [e2, if_neg Bool.false_ne_true]
    show (if ((PySem.W.clsIn K C).isSome && PySem.W.typeIn K (.ref C) == some (.type "type")) = true then PySem.W.subIn K (.ref A) (.ref C) else none) = some b
    have e3 : ((PySem.W.clsIn K C).isSome && PySem.W.typeIn K (.ref C) == some (.type "type")) = true := by rw [hc, h.ox.tyC] <;> rfl
    rw [if_pos e3, s]
theorem kitVE (s : PySem.W.subIn K (.ref A) (.type "ValueError") = some b) : PySem.W.kitOne K (.ref A) (.type "ValueError") = some b := by
  unfold PySem.W.kitOne
  have e2 : (Value.ref A == Value.type "ValueError") = false := Bool.eq_false_iff.mpr fun q => nomatch (beq_iff_eq.mp q)
  rw [e2, if_neg Bool.false_ne_true]
  have e3 : PySem.W.kitMeta "ValueError" = true := by decide +kernel
  show (if PySem.W.kitMeta "ValueError" = true then PySem.W.subIn K (.ref A) (.type "ValueError") else none) = some b
  rw [if_pos e3, s]
end
/-! ### isinstance(e, c), e.f in a suite -/
def rIsX (K : PySem.W.Frag) (a : Addr) (cls : Value) (d : Option Addr) : List V → Hp → VK → Prop := fun xs H Q => ∃ (D : Addr) (c : V) (cv : Value) (b : Bool), xs = [.ref a, c] ∧ cls = .ref D ∧ XC K D ∧ (d = none ∨ ∃ dd fs, d = some dd ∧ H dd = some (.xd fs)) ∧ (∀ u, RelV c u → u = cv) ∧ PySem.W.kitOne K (.ref D) cv = some b ∧ Q (.bl b) H
theorem call_isX {X : Cx} {a : Addr} {oe : Obj} {cls : Value} {d : Option Addr} {pn : List (Addr × Obj)} (hz : Zc cls d oe) (hf : ∃ vs, oe.data = .fields vs) : CallR (X.suite a ((a, oe) :: pn)) (.builtin "isinstance") (rIsX X.K a cls d) := by
  intro pins s σ H xs us Q I r h
  obtain ⟨D, c, cv, b, rfl, rfl, C, hd, hcv, e, q⟩ := h
  cases r with
  | cons rx rr =>
    cases rr with
    | cons rt rr =>
      cases rr
      cases rx
      have ec := hcv _ rt
      subst ec
      obtain ⟨hget, _⟩ := I.pin (a, oe) (List.mem_append.mpr (.inl List.mem_cons_self))
      obtain ⟨vs, hv⟩ := hf
      have hcl : (PySem.W.clsIn X.K D).isSome = true := by
        obtain ⟨cd, hc, _⟩ := PySem.W.any_some C.ex.hd
        rw [hc]
        rfl
      obtain ⟨od, J⟩ : ∃ od : Option Obj, PySem.W.InstAt s.heap a oe D od := by
        rcases hd with rfl | ⟨dd, fs, rfl, ed⟩
        · refine ⟨none, ?_⟩
          obtain ⟨oc, od, oda, osl⟩ := oe
          obtain ⟨h1, h2⟩ := hz
          dsimp only at h1 h2 hv
          subst h1 h2 hv
          exact ⟨hget, rfl, rfl, trivial⟩
        · have hx : ObjOk X.prog X.w H s.heap dd (.xd fs) := I.hok dd _ ed
          obtain ⟨mA, hns, hr⟩ := hx
          obtain ⟨od, ho, hl⟩ := lookIn_ns hns
          exact ⟨some od, hget, hz.1, by unfold PySem.W.notCls; rw [hv] <;> rfl, by rw [hz.2]; exact ho⟩
      exact PySem.W.kia_one (PySem.W.kitx_exc hcl C.ex.hg C.ex.hk C.ex.hs C.ex.ha C.ex.hn C.ex.ht C.ex.hm) I.kIn J e (fun z => nomatch z) fun tk => ⟨.bl b, H, I.kept (t' := tk) fun _ _ z => z, rfl, q⟩
def rXf (K : PySem.W.Frag) (a : Addr) (cls : Value) (d : Option Addr) (f : Str) (Q : VK) (x : V) (H1 : Hp) : Prop := x = .ref a ∧ ∃ (C dd : Addr) (fs : List (Str × V)) (v : V), cls = .ref C ∧ XC K C ∧ PySem.W.findIn K (.ref C) f = some none ∧ d = some dd ∧ H1 dd = some (.xd fs) ∧ fs.lookup f = some v ∧ Q v H1
def tXfA (K : PySem.W.Frag) (a : Addr) (cls : Value) (d : Option Addr) (f : Str) (te : TE) : TE := fun σ H Q => te σ H (rXf K a cls d f Q)
theorem pe_xfA {X : Cx} {a : Addr} {oe : Obj} {cls : Value} {d : Option Addr} {pn : List (Addr × Obj)} {e : Expr} {te : TE} {pos : Pos} {n : Str}
    (hz : Zc cls d oe) (hf : ∃ vs, oe.data = .fields vs) (he : PE (X.suite a ((a, oe) :: pn)) e te) (hb : attributeBase e n X.env (eval e X.env) = eval e X.env := by rfl) :
    PE (X.suite a ((a, oe) :: pn)) (.Attribute e n pos) (tXfA X.K a cls d n te) := by
  refine ⟨fun pins s σ H Q I h => ?_⟩
  refine attr_of hb (thn (he.run pins s σ H _ I h) fun u s1 hh => ?_)
  obtain ⟨x, H1, I1, rx, ex, C, dd, fs, v, ec, T, hno, ed, ea, l, q⟩ := hh
  subst ex
  obtain rfl : u = Value.ref a := rx
  subst ec
  subst ed
  obtain ⟨ha, _⟩ := I1.pin (a, oe) (List.mem_append_left _ List.mem_cons_self)
  obtain ⟨vs, hd⟩ := hf
  have hx : ObjOk X.prog X.w H1 s1.heap dd (.xd fs) := I1.hok dd _ ea
  obtain ⟨mA, hns, hr⟩ := hx
  obtain ⟨od, ho, hl⟩ := lookIn_ns hns
  obtain ⟨u, hu, ru⟩ := RelO.some_of (v := v) (o := mA n) (by rw [← l]; exact hr n)
  have J : PySem.W.InstAt s1.heap a oe C (some od) := ⟨ha, hz.1, by unfold PySem.W.notCls; rw [hd] <;> rfl, by rw [hz.2]; exact ho⟩
  exact HandSPX.exc_get I1.kIn J T.ex.hg T.ex.hk T.ex.hs (PySem.W.findObj_own T.ex.hd hno rfl (by rw [hl, hu])) (handed_of ru) ⟨v, H1, I1.tok _, ru, q⟩
/-! ### calls in a try's body -/
section
variable {X : Cx} {CX : CXT} {k : Nat} {f C : Addr} {fd : FuncData} {ps : List Str} {sp : Sp} {E : L2.St → XK} {x m : Str} {p pos apos : Pos} {e o : Expr} {es : List Expr} {ta : TE} {t : TA} {ds : List Value} {dvs : List V}
theorem run_fnW {pins : List (Addr × Obj)} {σ : L2.St} {H : Hp} {s : Shared} {Q : VK} {us : List Value} {vs : List V} (F : FnOk X.prog X.w X.K X.mg X.base CX k f fd ps sp) (hr : Room k X.A) (hb : Binds X.K fd ps ds) (hd : Vals dvs ds) (hx : PassesAt CX X σ (E σ))
    (I : Inv X pins σ H s) (r : Vals vs us) (h : sp (vs ++ dvs) H Q (E σ)) : wpAny (model X.prog X.w) X.A (call (.ref f) us) (EP X pins σ Q) X.xe s := by
  have r2 : Vals (vs ++ dvs) (us ++ ds) := r.append hd
  have hl : (us ++ ds).length = ps.length := by rw [← r2.length]; exact F.len _ _ _ _ h
  refine wpAny_call (codeAny_mono (F.run X.A X.stack s H ⟨us, []⟩ (us ++ ds) (vs ++ dvs) Q (E σ) hr I.env0 (hb s us I.kIn hl) r2 h) fun r s' hq => ?_)
  cases r with
  | error e => exact hx pins H s e s' I hq
  | ok fl =>
    cases fl with
    | ret u => exact I.after hq
    | next => exact False.elim hq
    | brk => exact False.elim hq
    | cont => exact False.elim hq
def tCallW (sp : Sp) (dvs : List V) (E : L2.St → XK) (t : TA) : TE := fun σ H Q => t σ H fun vs H1 => sp (vs ++ dvs) H1 Q (E σ)
def tMethW (C : Addr) (m : Str) (sp : Sp) (dvs : List V) (E : L2.St → XK) (ta : TE) (t : TA) : TE := fun σ H Q => ta σ H fun x H1 => rMe C m (t σ H1 fun vs H2 => sp (x :: (vs ++ dvs)) H2 Q (E σ)) x H1
theorem pe_callW (F : FnOk X.prog X.w X.K X.mg X.base CX k f fd ps sp) (hr : Room k X.A) (hg : Gl X x) (hm : X.mg x = some (.ref f)) (hk : PySem.W.keepIn X.K (.ref f) = true) (hb : Binds X.K fd ps ds) (hd : Vals dvs ds) (hx : ∀ σ, PassesAt CX X σ (E σ))
    (ha : PA X (e :: es) t) (hdb : (x == ("__debug__" : Str)) = false := by decide) (he : starEach (e :: es) X.env = (false, eval e X.env) :: starEach es X.env := by rfl) (hpl : (backTo pos (starEach es X.env)).any (·.1) = false := by rfl) :
    PE X (.Call (.Name x p) (e :: es) [] pos) (tCallW sp dvs E t) := by
  refine ⟨fun pins s σ H Q I h => ?_⟩
  refine wpAny_Call_Name_kw (ld_glob I hg hm ?_ hdb)
  refine PySem.W.callWith_K (h₀ := X.base) I.ok.mod.kin hk (thn (ha.run pos pins s σ H _ I h) fun us s1 ⟨vs, H1, I1, r, q⟩ => ⟨I1.kIn, ?_⟩) he hpl
  exact run_fnW F hr hb hd (hx σ) I1 r q
theorem pe_methW {pl : Sem Bool} (he : PE X o ta) (c : Cls X.K C) (hm : Meth X.K C m f) (F : FnOk X.prog X.w X.K X.mg X.base CX k f fd ps sp) (hr : Room k X.A) (hb : Binds X.K fd ps ds) (hd : Vals dvs ds) (hx : ∀ σ, PassesAt CX X σ (E σ)) (ha : PA X (e :: es) t)
    (hst : starEach (e :: es) X.env = (false, eval e X.env) :: starEach es X.env := by rfl) (hpl : (backTo pos (starEach es X.env)).any (·.1) = false := by rfl)
    (ht : eval (.Call (.Attribute o m apos) (e :: es) [] pos) X.env = (do
      let ov ← eval o X.env
      standAt apos.atName
      let (f, first) ← holding [ov] (getMethod ov m pl)
      callWith pos f first (backTo pos (starEach (e :: es) X.env)) (backToKw pos (keywordEach [] X.env))) := by rfl) :
    PE X (.Call (.Attribute o m apos) (e :: es) [] pos) (tMethW C m sp dvs E ta t) := by
  refine ⟨fun pins s σ H Q I h => ?_⟩
  refine PySem.W.methodCall_KW (pl := pl) (thn (he.run pins s σ H _ I h) fun u s1 ⟨x, H1, I1, rx, a, dx, fs, ex, ea, l, q⟩ => ?_) ht
  subst ex
  obtain rfl : u = Value.ref a := rx
  refine getmeth_ok I1 ea c hm l ?_
  refine PySem.W.callWith_K (first := [.ref a]) (h₀ := X.base) I.ok.mod.kin hm.kp (thn (ha.run pos pins s1 σ H1 _ I1 q) fun us s2 ⟨vs, H2, I2, r, q2⟩ => ⟨I2.kIn, ?_⟩) hst hpl
  exact run_fnW (us := .ref a :: us) (vs := .ref a :: vs) F hr hb hd (hx σ) I2 (.cons rfl r) q2
theorem pe_meth0W {pl : Sem Bool} (he : PE X o ta) (c : Cls X.K C) (hm : Meth X.K C m f) (F : FnOk X.prog X.w X.K X.mg X.base CX k f fd ps sp) (hr : Room k X.A) (hb : Binds X.K fd ps ds) (hd : Vals dvs ds) (hx : ∀ σ, PassesAt CX X σ (E σ))
    (ht : eval (.Call (.Attribute o m apos) [] [] pos) X.env = (do
      let ov ← eval o X.env
      standAt apos.atName
      let (f, first) ← holding [ov] (getMethod ov m pl)
      callWith pos f first (backTo pos (starEach [] X.env)) (backToKw pos (keywordEach [] X.env))) := by rfl) :
    PE X (.Call (.Attribute o m apos) [] [] pos) (tMethW C m sp dvs E ta tNil) := by
  refine ⟨fun pins s σ H Q I h => ?_⟩
  refine PySem.W.methodCall_KW (pl := pl) (thn (he.run pins s σ H _ I h) fun u s1 ⟨x, H1, I1, rx, a, dx, fs, ex, ea, l, q⟩ => ?_) ht
  subst ex
  obtain rfl : u = Value.ref a := rx
  refine getmeth_ok I1 ea c hm l ?_
  exact PySem.W.callWith_K0 (first := [.ref a]) I1.kIn hm.kp (run_fnW (us := [.ref a]) (vs := [.ref a]) F hr hb hd (hx σ) I1 (.cons rfl .nil) q)
end
/-! ### raise C(e), C's __init__ keeping one field -/
def rMkO (C : Addr) (sp : Sp) (dvs : List V) (Q : XK) (vs : List V) (H1 : Hp) : Prop := vs.length ≤ 1000 ∧ ∀ a, H1 a = none → sp (.ref a :: (vs ++ dvs)) (upd H1 a (exo a C none))
  (fun v H2 => v = .non ∧ ∃ (d : Addr) (fs : List (Str × V)), H2 a = some (exo a C (some d)) ∧ H2 d = some (exd d fs) ∧ H1 d = none ∧ Q (.ref C) (some d) (upd (del H2 a) d (.xd fs))) (fun _ _ _ => False)
def tRaiseO (C : Addr) (sp : Sp) (dvs : List V) (WW : WX) (ta : TA) : TS := fun _ σ H => ta σ H (rMkO C sp dvs fun cls d H' => WW cls d σ H')
section
variable {X : Cx} {WW : WX} {x : Str} {C fI : Addr} {k : Nat} {fd : FuncData} {ps : List Str} {sp : Sp} {ds : List Value} {dvs : List V} {CX : CXT} {e : Expr} {es : List Expr} {ta : TA} {p pos pos2 : Pos}
theorem ps_raiseO (hc : X.calm = true) (tk : Takes X WW) (T : XC X.K C) (iC : PySem.W.findIn X.K (.ref C) "__init__" = some (some (.ref fI))) (tI : PySem.W.typeIn X.K (.ref fI) = some (.type "function"))
    (F1 : FnOk X.prog X.w X.K X.mg X.base CX k fI fd ps sp) (hr : Room (k + 1) X.A) (hb : Binds X.K fd ps ds) (hd : Vals dvs ds) (hx : Passes CX X (fun _ _ _ => False)) (hg : Gl X x) (hm : X.mg x = some (.ref C)) (ha : PA X (e :: es) ta)
    (hdb : (x == ("__debug__" : Str)) = false := by decide) (he : starEach (e :: es) X.env = (false, eval e X.env) :: starEach es X.env := by rfl) (hpl : (backTo pos (starEach es X.env)).any (·.1) = false := by rfl) :
    PS X (.Raise (some (.Call (.Name x p) (e :: es) [] pos)) none pos2) (tRaiseO C sp dvs WW ta) :=
  ps_raise hc tk (pmk_oex T.ox iC tI F1 hr hb hd hx hg hm ha hdb he hpl)
end
section
variable {K : PySem.W.Frag} {σ : L2.St} {B H : Hp} {L : List Cell} {C a : Addr} {sp : Sp} {dvs : List V} {WW Wout : WX} {ta : TA} {te to : TE} {D : Ends} {Q : VK} {QX : XK} {f : Str} {v y : V} {cls c : Value} {d : Option Addr} {i : Nat} {ts : Addr → Value → Option Addr → TS} {tb : WX → TS} {P : Hp → Prop}
theorem g_raiseO (h : ta σ H (rMkO C sp dvs fun cls d H' => WW cls d σ H')) : tRaiseO C sp dvs WW ta D σ H := h
/-- the promise of an __init__ that keeps one field -/
def spX1 (C : Addr) (f : Str) : Sp := Sp2 fun x y H Q _ => ∃ a, x = .ref a ∧ H a = some (exo a C none) ∧ ∀ d, H d = none → d ≠ a → Q .non (upd (upd H d (exd d [(f, y)])) a (exo a C (some d)))
theorem r_raiseX1 (w : W B L H) (q : ∀ d B' H', Same B B' → B' d = some (.xd [(f, v)]) → W B' L H' → QX (.ref C) (some d) H') : rMkO C (spX1 C f) [] QX [v] H := by
  refine ⟨by simp, fun a ha => ⟨_, _, rfl, a, rfl, upd_same, fun d hd hda => ⟨rfl, d, [(f, v)], upd_same, by rw [upd_ne hda, upd_same], ?_, ?_⟩⟩⟩
  · rw [upd_ne hda] at hd; exact hd
  · have hd0 : H d = none := by rw [upd_ne hda] at hd; exact hd
    have e : upd (del (upd (upd (upd H a (exo a C none)) d (exd d [(f, v)])) a (exo a C (some d))) a) d (.xd [(f, v)]) = upd H d (.xd [(f, v)]) := by
      funext b
      by_cases hb : b = d
      · subst hb; rw [upd_same, upd_same]
      · rw [upd_ne hb, upd_ne hb]
        by_cases hb2 : b = a
        · subst hb2; rw [del_same, ha]
        · rw [del_ne hb2, upd_ne hb2, upd_ne hb, upd_ne hb2]
    rw [e]
    exact q d _ _ (same_new (w.freeB hd0)) upd_same (w.newB hd0 _)
def rOst (K : PySem.W.Frag) (f : Str) (P : Hp → Prop) (y x : V) (H2 : Hp) : Prop := ∃ a C : Addr, x = .ref a ∧ OexC K C ∧ PySem.W.findIn K (.ref C) f = some none ∧
  ((H2 a = some (exo a C none) ∧ ∀ dx, H2 dx = none → dx ≠ a → P (upd (upd H2 dx (exd dx [(f, y)])) a (exo a C (some dx)))) ∨
    ∃ (dx : Addr) (fs : List (Str × V)), H2 a = some (exo a C (some dx)) ∧ H2 dx = some (exd dx fs) ∧ fs.length ≤ 900 ∧ P (upd H2 dx (exd dx ((f, y) :: fs))))
theorem g_ost (h : te σ H fun y H1 => to σ H1 (rOst K f (D.nx σ) y)) : tOst K f to te D σ H := h
theorem r_ost (T : OexC K C) (hno : PySem.W.findIn K (.ref C) f = some none) (h : H a = some (exo a C none)) (q : ∀ dx, H dx = none → dx ≠ a → P (upd (upd H dx (exd dx [(f, y)])) a (exo a C (some dx)))) : rOst K f P y (.ref a) H :=
  ⟨a, C, rfl, T, hno, .inl ⟨h, q⟩⟩
def rVei (K : PySem.W.Frag) (Q : VK) (vs : List V) (H1 : Hp) : Prop := ∃ (a C : Addr) (ws : List V), vs = .ref a :: ws ∧ ws.length ≤ 1000 ∧ OexC K C ∧ H1 a = some (exo a C none) ∧ Q .non H1
theorem g_vei (h : ta σ H (rVei K Q)) : tVeI K ta σ H Q := h
theorem r_vei {ws : List V} (T : OexC K C) (hl : ws.length ≤ 1000) (h : H a = some (exo a C none)) (q : Q .non H) : rVei K Q (.ref a :: ws) H := ⟨a, C, ws, rfl, hl, T, h, q⟩
/-! ### try: .. except C as e: .. -/
def tTryAs (K : PySem.W.Frag) (c : Value) (i : Nat) (tb : WX → TS) (ts : Addr → Value → Option Addr → TS) (Wout : WX) : TS := fun D σ H => tb (wAs K c i ts Wout D) D σ H
theorem g_tryAs (h : tb (wAs K c i ts Wout D) D σ H) : tTryAs K c i tb ts Wout D σ H := h
theorem r_caught (hx : PySem.W.exmOne K cls c = some true) (h : ∀ a, H a = none → ts a cls d { nx := fun σ' H' => D.nx (σ'.set i none) H', rt := D.rt, bk := fun σ' H' => D.bk (σ'.set i none) H', ct := fun σ' H' => D.ct (σ'.set i none) H' } (σ.set i (some (.ref a))) H) : wAs K c i ts Wout D cls d σ H :=
  ⟨true, hx, fun _ => h, nofun⟩
theorem r_passed (hx : PySem.W.exmOne K cls c = some false) (h : Wout cls d σ H) : wAs K c i ts Wout D cls d σ H := ⟨false, hx, nofun, fun _ => h⟩
theorem g_xfA (h : te σ H (rXf K a cls d f Q)) : tXfA K a cls d f te σ H Q := h
theorem r_xf {fs : List (Str × V)} {dd : Addr} (T : XC K C) (hno : PySem.W.findIn K (.ref C) f = some none) (h : H dd = some (.xd fs)) (l : fs.lookup f = some v) (q : Q v H) : rXf K a (.ref C) (some dd) f Q (.ref a) H :=
  ⟨rfl, C, dd, fs, v, rfl, T, hno, rfl, h, l, q⟩
theorem r_isXC {fs : List (Str × V)} {dd A : Addr} {b : Bool} (TA : XC K A) (TC : XC K C) (s : PySem.W.subIn K (.ref A) (.ref C) = some b) (h : H dd = some (.xd fs)) (q : Q (.bl b) H) : rIsX K a (.ref A) (some dd) [.ref a, .ref C] H Q :=
  ⟨A, .ref C, .ref C, b, rfl, rfl, TA, .inr ⟨dd, fs, rfl, h⟩, fun u r => r, TA.kit TC s, q⟩
theorem r_isXV {fs : List (Str × V)} {dd A : Addr} {b : Bool} (TA : XC K A) (s : PySem.W.subIn K (.ref A) (.type "ValueError") = some b) (h : H dd = some (.xd fs)) (q : Q (.bl b) H) : rIsX K a (.ref A) (some dd) [.ref a, .ty "ValueError"] H Q :=
  ⟨A, .ty "ValueError", .type "ValueError", b, rfl, rfl, TA, .inr ⟨dd, fs, rfl, h⟩, fun u r => r, kitVE s, q⟩
theorem g_callW {E : L2.St → XK} {t : TA} (h : t σ H fun vs H1 => sp (vs ++ dvs) H1 Q (E σ)) : tCallW sp dvs E t σ H Q := h
theorem g_methW {E : L2.St → XK} {t : TA} {ta0 : TE} {m : Str} (h : ta0 σ H fun x H1 => rMe C m (t σ H1 fun vs H2 => sp (x :: (vs ++ dvs)) H2 Q (E σ)) x H1) : tMethW C m sp dvs E ta0 t σ H Q := h
end
end Z
namespace Z
open PySem PySem.Spec PyProof.Rows L2
section
variable {X : Cx} {x n : Str} {c : Value} {i : Nat} {body suite : List Stmt} {b₀ : Stmt} {np pos pos' : Pos} {tb : WX → TS} {ts : Addr → Value → Option Addr → TS} {Wout : WX}
theorem ps_tryAs (hs : X.stack = X.env :: X.outer) (hf : X.env.frame = some X.env.locals) (hN : X.N.Nodup) (hi : X.N[i]? = some n) (hln : X.env.kindOf n = some .local) (hc : Names X x c) (tk : Takes X Wout)
    (hb : ∀ (W : WX) (pn : List (Addr × Obj)) (xe : Value → Shared → Prop), Takes (X.tr pn xe) W → PassesOwn (model X.prog X.w) X.A X.env xe → PSs (X.tr pn xe) body (tb W))
    (hsu : ∀ (a : Addr) (oe : Obj) (cls : Value) (d : Option Addr) (pn : List (Addr × Obj)), Zc cls d oe → (∃ vs, oe.data = .fields vs) → PSs (X.suite a ((a, oe) :: pn)) (b₀ :: suite) (ts a cls d)) :
    PS X (.Try body [.ExceptHandler (some (.Name x np)) (some n) (b₀ :: suite) pos'] [] [] pos) (tTryAs X.K c i tb ts Wout) := ps_try_as hs hf hN hi hln hc tk hb hsu
end
end Z

/-! Z13: isinstance of an instance of an own class; texts. -/
namespace Z
open PySem PySem.Spec PyProof.Rows L2
structure IC (K : PySem.W.Frag) (C : Addr) : Prop where
  cl : Cls K C
  hd : PySem.W.hasDictIn K C = true
  ty : PySem.W.typeIn K (.ref C) = some (.type "type")
  ha : PySem.W.findIn K (.ref C) "__class__" = some (some (.builtin "object.__class__"))
  hn : PySem.W.specialIn K (.builtin "object.__class__") "__get__" = some (some (.builtin "getset_descriptor.__get__"))
  ht : PySem.W.takesIn K (.builtin "object.__class__") = some true
  hm : PySem.W.mroIn K C (.type "object") = some true
  sl : PySem.W.subIn K (.ref C) (.ref C) = some true
section
variable {K : PySem.W.Frag} {A C a dx : Addr} {b : Bool} {H : Hp} {Q : VK} {fs : List (Str × V)}
theorem kit_own (hA : IC K A) (h : IC K C) (s : PySem.W.subIn K (.ref A) (.ref C) = some b) : PySem.W.kitOne K (.ref A) (.ref C) = some b := by
  obtain ⟨cd, hc, _⟩ := PySem.W.any_some h.hd
  unfold PySem.W.kitOne
  by_cases e : A = C
  · subst e
    rw [hA.sl] at s
    cases s
    simp
  · have e2 : (Value.ref A == Value.ref C) = false := by
      refine Bool.eq_false_iff.mpr fun q => e (Value.ref.inj (beq_iff_eq.mp q))
    rw [e2, if_neg Bool.false_ne_true]
    show (if ((PySem.W.clsIn K C).isSome && PySem.W.typeIn K (.ref C) == some (.type "type")) = true then PySem.W.subIn K (.ref A) (.ref C) else none) = some b
    have e3 : ((PySem.W.clsIn K C).isSome && PySem.W.typeIn K (.ref C) == some (.type "type")) = true := by rw [hc, h.ty] <;> rfl
    rw [if_pos e3, s]
theorem r_isiO (h : H a = some (.ins A dx fs)) (hA : IC K A) (hC : IC K C) (s : PySem.W.subIn K (.ref A) (.ref C) = some b) (q : Q (.bl b) H) : rIsi K [.ref a, .ref C] H Q :=
  ⟨.ref a, .ref C, .ref A, .ref C, b, rfl, .own C, .base (.ins h hA.cl hA.ha hA.hn hA.ht hA.hm), kit_own hA hC s, q⟩
end
section
variable {X : Cx} {WW : WX} {x m : Str} {C : Addr} {j : Nat} {p p2 pos pos2 : Pos}
/-- raise C('..'), C without an __init__ of its own -/
def tRaise0 (C : Addr) (WW : WX) : TS := fun _ σ H => WW (.ref C) none σ H
theorem ps_raise0 (hc : X.calm = true) (tk : Takes X WW) (q : PySem.W.excIn X.K C PySem.HandSPX.veTail "ValueError.__new__" = true) (T : XC X.K C) (gC : X.mg x = some (.ref C)) (hg : Gl X x) (hdb : (x == ("__debug__" : Str)) = false := by decide) :
    PS X (.Raise (some (.Call (.Name x p) [.Constant (.str m) j p2] [] pos)) none pos2) (tRaise0 C WW) :=
  ps_raise hc tk (pmk_own PySem.F.excBase_ValueError q gC T.ox.kC (raises_own T.ox.exC T.ox.tyC) hg hdb)
end
section
variable {K : PySem.W.Frag} {σ : L2.St} {H : Hp} {C A a : Addr} {WW : WX} {D : Ends} {Q : VK} {b : Bool}
theorem g_raise0 (h : WW (.ref C) none σ H) : tRaise0 C WW D σ H := h
theorem r_isXC0 (TA : XC K A) (TC : XC K C) (s : PySem.W.subIn K (.ref A) (.ref C) = some b) (q : Q (.bl b) H) : rIsX K a (.ref A) none [.ref a, .ref C] H Q :=
  ⟨A, .ref C, .ref C, b, rfl, rfl, TA, .inl rfl, fun u r => r, TA.kit TC s, q⟩
theorem r_isXV0 (TA : XC K A) (s : PySem.W.subIn K (.ref A) (.type "ValueError") = some b) (q : Q (.bl b) H) : rIsX K a (.ref A) none [.ref a, .ty "ValueError"] H Q :=
  ⟨A, .ty "ValueError", .type "ValueError", b, rfl, rfl, TA, .inl rfl, fun u r => r, kitVE s, q⟩
end
/-! texts -/
theorem str_ext {a b : Str} (h : a.cps = b.cps) : a = b := by cases a; cases b; cases h; rfl
theorem str_assoc (a b c : Str) : a ++ b ++ c = a ++ (b ++ c) := str_ext (Array.append_assoc ..)
theorem str_len (i : Int) (h : i.natAbs.log2 < 1920) : ((toString i : String) : Str).length ≤ 1921 := PyProof.Rows.int_text_len_1921 h
theorem app_len (a b : Str) : (a ++ b).length = a.length + b.length := Array.size_append ..
section
variable {K : PySem.W.Frag} {H : Hp} {σ : L2.St} {a : Addr} {u v x : V} {n : Nat} {t1 t2 t3 : TG} {Q : L2.St → Hp → Prop}
theorem g_tup3 (h : SqT K H a [u, v, x]) (hn : n = 3) (q : t1 u σ H fun σ' H' => t2 v σ' H' fun σ' H' => t3 x σ' H' Q) : gTup K n (gCons t1 (gCons t2 (gCons t3 gNil))) (.ref a) σ H Q :=
  ⟨a, _, rfl, h, hn.symm, u, _, rfl, (show t1 u σ H fun σ' H' => gCons t2 (gCons t3 gNil) [v, x] σ' H' Q from by
    have e2 : (fun σ' H' => gNil [] σ' H' Q) = Q := by funext a b; exact propext ⟨fun h => h.2, fun h => ⟨rfl, h⟩⟩
    have e3 : (fun σ' H' => gCons t3 gNil [x] σ' H' Q) = fun σ' H' => t3 x σ' H' Q := by
      funext σ' H'
      refine propext ⟨fun ⟨v', r, e, h⟩ => ?_, fun h => ⟨x, [], rfl, ?_⟩⟩
      · cases e
        rwa [e2] at h
      · rwa [e2]
    have e4 : (fun σ' H' => gCons t2 (gCons t3 gNil) [v, x] σ' H' Q) = fun σ' H' => t2 v σ' H' fun σ' H' => t3 x σ' H' Q := by
      funext σ' H'
      refine propext ⟨fun ⟨v', r, e, h⟩ => ?_, fun h => ⟨v, [x], rfl, ?_⟩⟩
      · cases e
        rwa [e3] at h
      · rwa [e3]
    rw [e4]
    exact q)⟩
end
section
variable {K : PySem.W.Frag} {H : Hp} {σ : L2.St} {to te : TE} {Q : VK} {r : V → List V → Hp → VK → Prop} {z : Str} {p : Addr} {ys : List Str}
def rM1 (r : V → List V → Hp → VK → Prop) (te : TE) (σ : L2.St) (Q : VK) (x : V) (H1 : Hp) : Prop := (∃ a, x = .str a) ∧ te σ H1 fun y H2 => r x [y] H2 Q
theorem g_m1 (h : to σ H (rM1 r te σ Q)) : tM1 r to te σ H Q := h
theorem r_m1 (q : te σ H fun y H2 => r (.str z) [y] H2 Q) : rM1 r te σ Q (.str z) H := ⟨⟨z, rfl⟩, q⟩
theorem join3 (s a b c : Str) : Txt.join s [a, b, c] = a ++ s ++ b ++ s ++ c := by
  first | rfl | (unfold Txt.join glued; simp [str_assoc])
end
section
variable {X : Cx} {K : PySem.W.Frag} {e : Expr} {ta : TE} {f : Str} {pos : Pos}
/-- a field, read in a comprehension: the frame's K is told -/
theorem pe_fldK (he : PE X e ta) (hb : attributeBase e f X.env (eval e X.env) = eval e X.env) (hK : X.K = K) : PE X (.Attribute e f pos) (tFld K ta f) := by
  subst hK
  exact pe_fld he hb
end
end Z

/-! Msl: dicts of whole numbers as lists of pairs; rows of slots, in plain Lean. -/
namespace Z
open PySem PySem.Spec PyProof.Rows L2
abbrev Kv := List (Int × Int)
def ksP (kv : Kv) : List Int := kv.map (·.1)
def getP (kv : Kv) (k : Int) : Option Int := (kv.find? fun p => decide (p.1 = k)).map (·.2)
def putP (kv : Kv) (k v : Int) : Kv := if (kv.any fun p => decide (p.1 = k)) = true then kv.map (fun p => if p.1 = k then (p.1, v) else p) else kv ++ [(k, v)]
def delP (kv : Kv) (k : Int) : Kv := kv.filter fun p => decide (p.1 ≠ k)
def dkP (kv : Kv) : List (Key × V) := kv.map fun p => (Sum.inl p.1, V.int p.2)
section
variable {kv l r : Kv} {k v n : Int}
theorem dkP_ks (kv : Kv) : Ks (dkP kv) (ksP kv) := by unfold Ks dkP ksP; rw [List.map_map, List.map_map]; rfl
theorem dkP_len (kv : Kv) : (dkP kv).length = kv.length := List.length_map _
theorem ksP_len (kv : Kv) : (ksP kv).length = kv.length := List.length_map _
theorem inl_eq {a b : Int} : ((Sum.inl a : Key) = Sum.inl b) ↔ a = b := ⟨fun h => by cases h; rfl, fun h => by rw [h]⟩
theorem any_iff (kv : Kv) (k : Int) : (kv.any fun p => decide (p.1 = k)) = decide (k ∈ ksP kv) := by
  rw [Bool.eq_iff_iff, List.any_eq_true, decide_eq_true_iff]
  unfold ksP
  rw [List.mem_map]
  constructor
  · rintro ⟨p, hp, e⟩; exact ⟨p, hp, of_decide_eq_true e⟩
  · rintro ⟨p, hp, e⟩; exact ⟨p, hp, decide_eq_true e⟩
theorem dkP_get : ∀ (kv : Kv) (k : Int), valV (dkP kv) (Sum.inl k) = (getP kv k).map V.int
  | [], _ => rfl
  | p :: r, k => by
    by_cases e : p.1 = k
    · rw [show dkP (p :: r) = (Sum.inl p.1, V.int p.2) :: dkP r from rfl, valV_pos (by rw [e])]
      unfold getP
      rw [List.find?_cons, decide_eq_true e]
      rfl
    · rw [show dkP (p :: r) = (Sum.inl p.1, V.int p.2) :: dkP r from rfl, valV_neg (fun h => e (inl_eq.mp h)), dkP_get r k]
      unfold getP
      rw [List.find?_cons, decide_eq_false e]
theorem dkP_put (kv : Kv) (k v : Int) : putK (dkP kv) (Sum.inl k) (V.int v) = dkP (putP kv k v) := by
  unfold putK putP
  have e : ((dkP kv).any fun p => decide (p.1 = Sum.inl k)) = (kv.any fun p => decide (p.1 = k)) := by
    unfold dkP
    rw [List.any_map]
    congr 1
    funext p
    show decide ((Sum.inl p.1 : Key) = Sum.inl k) = _
    rw [decide_eq_decide]
    exact inl_eq
  rw [e]
  by_cases c : (kv.any fun p => decide (p.1 = k)) = true
  · rw [if_pos c, if_pos c]
    unfold dkP
    rw [List.map_map, List.map_map]
    refine List.map_congr_left fun p _ => ?_
    by_cases e2 : p.1 = k
    · simp [e2]
    · have : ¬ ((Sum.inl p.1 : Key) = Sum.inl k) := fun h => e2 (inl_eq.mp h)
      simp [e2]
  · rw [if_neg c, if_neg c]
    unfold dkP
    rw [List.map_append]
    rfl
theorem dkP_del (kv : Kv) (k : Int) : dropK (dkP kv) (Sum.inl k) = dkP (delP kv k) := by
  unfold dropK delP dkP
  rw [List.filter_map]
  congr 1
  refine List.filter_congr fun p _ => ?_
  show decide ((Sum.inl p.1 : Key) ≠ Sum.inl k) = _
  rw [decide_eq_decide]
  exact not_congr inl_eq
theorem dkP_one (kv : Kv) (k v : Int) : mergeK (dkP kv) [(Sum.inl k, V.int v)] = dkP (putP kv k v) := dkP_put kv k v
theorem getP_none (h : k ∉ ksP kv) : getP kv k = none := by
  unfold getP
  rw [List.find?_eq_none.mpr ?_]
  · rfl
  · intro p hp
    have : ¬ p.1 = k := fun e => h (e ▸ List.mem_map.mpr ⟨p, hp, rfl⟩)
    simpa using this
theorem getP_mem (h : getP kv k = some v) : (k, v) ∈ kv := by
  unfold getP at h
  cases e : kv.find? fun p => decide (p.1 = k) with
  | none => rw [e] at h; cases h
  | some p =>
    rw [e] at h
    have h1 := List.find?_some e
    have h2 := List.mem_of_find?_eq_some e
    have e1 : p.1 = k := of_decide_eq_true h1
    cases h
    rw [← e1]
    exact h2
theorem nd_uniq (nd : (ksP kv).Nodup) : ∀ {a b : Int × Int}, a ∈ kv → b ∈ kv → a.1 = b.1 → a = b := by
  induction kv with
  | nil => intro a b h; cases h
  | cons p r ih =>
    intro a b ha hb e
    have n := List.nodup_cons.mp nd
    rcases List.mem_cons.mp ha with rfl | ha2
    · rcases List.mem_cons.mp hb with rfl | hb
      · rfl
      · exact absurd (show a.1 ∈ r.map (·.1) from by rw [e]; exact List.mem_map.mpr ⟨b, hb, rfl⟩) n.1
    · rcases List.mem_cons.mp hb with rfl | hb
      · exact absurd (show b.1 ∈ r.map (·.1) from by rw [← e]; exact List.mem_map.mpr ⟨a, ha2, rfl⟩) n.1
      · exact ih n.2 ha2 hb e
theorem getP_some (nd : (ksP kv).Nodup) (h : (k, v) ∈ kv) : getP kv k = some v := by
  cases e : getP kv k with
  | none =>
    unfold getP at e
    cases e2 : kv.find? fun p => decide (p.1 = k) with
    | none =>
      have := List.find?_eq_none.mp e2 _ h
      simp at this
    | some p => rw [e2] at e; cases e
  | some u =>
    have h2 := getP_mem e
    have := nd_uniq nd h2 h rfl
    cases this
    rfl
theorem getP_isSome (kv : Kv) (k : Int) : (getP kv k).isSome = decide (k ∈ ksP kv) := by
  have h := (dkP_ks kv).isSome (n := k)
  rw [dkP_get] at h
  rw [← h]
  cases getP kv k <;> rfl
theorem getP_ex (h : k ∈ ksP kv) : ∃ v, getP kv k = some v := by
  have e := getP_isSome kv k
  rw [decide_eq_true h] at e
  exact Option.isSome_iff_exists.mp e
theorem putP_new (h : k ∉ ksP kv) : putP kv k v = kv ++ [(k, v)] := by
  unfold putP
  rw [any_iff, decide_eq_false h]
  rfl
theorem putP_old (h : k ∈ ksP kv) : putP kv k v = kv.map fun p => if p.1 = k then (p.1, v) else p := by
  unfold putP
  rw [any_iff, decide_eq_true h]
  rfl
theorem delP_app : delP (l ++ r) k = delP l k ++ delP r k := List.filter_append ..
theorem delP_not (h : k ∉ ksP kv) : delP kv k = kv := by
  unfold delP
  refine List.filter_eq_self.mpr fun p hp => decide_eq_true (by intro e; apply h; rw [← e]; exact List.mem_map.mpr ⟨p, hp, rfl⟩)
theorem ksP_put_old (h : k ∈ ksP kv) : ksP (putP kv k v) = ksP kv := by
  rw [putP_old h]
  unfold ksP
  rw [List.map_map]
  refine List.map_congr_left fun p _ => ?_
  show (if p.1 = k then (p.1, v) else p).1 = p.1
  split <;> rfl
theorem ksP_put_new (h : k ∉ ksP kv) : ksP (putP kv k v) = ksP kv ++ [k] := by
  rw [putP_new h]
  unfold ksP
  rw [List.map_append]
  rfl
theorem ksP_del (kv : Kv) (k : Int) : ksP (delP kv k) = (ksP kv).filter fun m => decide (m ≠ k) := by
  unfold ksP delP
  rw [List.filter_map]
  rfl
theorem map_not (h : k ∉ ksP kv) : (kv.map fun p => if p.1 = k then (p.1, v) else p) = kv := by
  conv => rhs; rw [← List.map_id kv]
  refine List.map_congr_left fun p hp => if_neg (by intro e; apply h; rw [← e]; exact List.mem_map.mpr ⟨p, hp, rfl⟩)
theorem putP_perm {kv kv' : Kv} (h : kv.Perm kv') (k v : Int) : (putP kv k v).Perm (putP kv' k v) := by
  have hm : k ∈ ksP kv ↔ k ∈ ksP kv' := (h.map (·.1)).mem_iff
  by_cases c : k ∈ ksP kv
  · rw [putP_old c, putP_old (hm.mp c)]
    exact h.map _
  · rw [putP_new c, putP_new (fun z => c (hm.mpr z))]
    exact h.append_right _
theorem delP_perm {kv kv' : Kv} (h : kv.Perm kv') (k : Int) : (delP kv k).Perm (delP kv' k) := h.filter _
theorem ksP_perm {kv kv' : Kv} (h : kv.Perm kv') : (ksP kv).Perm (ksP kv') := h.map _
theorem getP_perm {kv kv' : Kv} (h : kv.Perm kv') (nd : (ksP kv).Nodup) (k : Int) : getP kv k = getP kv' k := by
  have nd' : (ksP kv').Nodup := (ksP_perm h).nodup_iff.mp nd
  cases e : getP kv k with
  | some v => exact (getP_some nd' (h.mem_iff.mp (getP_mem e))).symm
  | none =>
    cases e2 : getP kv' k with
    | none => rfl
    | some v =>
      rw [getP_some nd (h.mem_iff.mpr (getP_mem e2))] at e
      cases e
theorem nd_put (nd : (ksP kv).Nodup) : (ksP (putP kv k v)).Nodup := by
  by_cases c : k ∈ ksP kv
  · rw [ksP_put_old c]; exact nd
  · rw [ksP_put_new c]
    refine List.nodup_append.mpr ⟨nd, by simp, fun a ha b hb e => ?_⟩
    have : b = k := by simpa using hb
    exact c (this ▸ e ▸ ha)
theorem nd_del (nd : (ksP kv).Nodup) : (ksP (delP kv k)).Nodup := by
  rw [ksP_del]
  exact nd.sublist List.filter_sublist
theorem del_len (nd : (ksP kv).Nodup) (h : k ∈ ksP kv) : (delP kv k).length + 1 = kv.length := by
  rw [← ksP_len, ← ksP_len kv, ksP_del]
  have : (ksP kv).filter (fun m => decide (m ≠ k)) = (ksP kv).erase k := by
    rw [nd.erase_eq_filter]
    refine List.filter_congr fun m _ => ?_
    by_cases e : m = k <;> simp [e]
  rw [this, List.length_erase_of_mem h]
  have := List.length_pos_of_mem h
  omega
end
/-! lots -/
abbrev Lots := List (Addr × Kv)
def kvL (ds : Lots) : Kv := (ds.map (·.2)).flatten
section
variable {ds : Lots} {i : Nat} {d : Addr} {l x : Kv}
theorem kvL_app (a b : Lots) : kvL (a ++ b) = kvL a ++ kvL b := by unfold kvL; rw [List.map_append, List.flatten_append]
theorem kvL_cons (z : Addr × Kv) (r : Lots) : kvL (z :: r) = z.2 ++ kvL r := rfl
theorem at_split (h : ds[i]? = some (d, l)) : ds = ds.take i ++ (d, l) :: ds.drop (i + 1) := by
  obtain ⟨hi, e⟩ := List.getElem?_eq_some_iff.mp h
  rw [← e, List.getElem_cons_drop, List.take_append_drop]
theorem set_split (h : ds[i]? = some (d, l)) (z : Addr × Kv) : ds.set i z = ds.take i ++ z :: ds.drop (i + 1) := by
  obtain ⟨hi, e⟩ := List.getElem?_eq_some_iff.mp h
  rw [List.set_eq_take_append_cons_drop, if_pos hi]
/-- one lot apart, and all the others -/
theorem kvL_at (h : ds[i]? = some (d, l)) : (kvL ds).Perm (l ++ kvL (ds.eraseIdx i)) := by
  conv => lhs; rw [at_split h]
  rw [List.eraseIdx_eq_take_drop_succ, kvL_app, kvL_app, kvL_cons]
  rw [← List.append_assoc, ← List.append_assoc]
  exact List.perm_append_comm.append_right _
theorem kvL_set {d' : Addr} (h : ds[i]? = some (d, l)) : (kvL (ds.set i (d', x))).Perm (x ++ kvL (ds.eraseIdx i)) := by
  have hi := (List.getElem?_eq_some_iff.mp h).1
  have h2 : (ds.set i (d', x))[i]? = some (d', x) := by rw [List.getElem?_set_self hi]
  have := kvL_at h2
  rwa [List.eraseIdx_set_eq] at this
theorem kvL_mem {p : Int × Int} : p ∈ kvL ds ↔ ∃ (i : Nat) (z : Addr × Kv), ds[i]? = some z ∧ p ∈ z.2 := by
  unfold kvL
  rw [List.mem_flatten]
  constructor
  · rintro ⟨l, hl, hp⟩
    obtain ⟨z, hz, rfl⟩ := List.mem_map.mp hl
    obtain ⟨i, hi⟩ := List.mem_iff_getElem?.mp hz
    exact ⟨i, z, hi, hp⟩
  · rintro ⟨i, z, hi, hp⟩
    exact ⟨_, List.mem_map.mpr ⟨z, List.mem_iff_getElem?.mpr ⟨i, hi⟩, rfl⟩, hp⟩
end
end Z

/-! Msl2: two rows of slots side by side, in plain Lean. -/
namespace Z
open PySem PySem.Spec PyProof.Rows L2
structure Bk where
  bo : Addr
  la : Addr
  ds : Lots
structure Sl where
  o : Bk
  y : Option Bk
  s : Nat
def Bk.set (b : Bk) (i : Nat) (w : Addr × Kv) : Bk := { b with ds := b.ds.set i w }
namespace Sl
def yd (x : Sl) : Lots := match x.y with | none => [] | some b => b.ds
def all (x : Sl) : Lots := x.o.ds ++ x.yd
/-- where a key lies, or would -/
def hi (x : Sl) (k : Int) : Nat := match x.y with
  | none => k.toNat % x.o.ds.length
  | some b => if k.toNat % x.o.ds.length < x.s then x.o.ds.length + k.toNat % b.ds.length else k.toNat % x.o.ds.length
def set (x : Sl) (i : Nat) (w : Addr × Kv) : Sl := if i < x.o.ds.length then { x with o := x.o.set i w } else { x with y := x.y.map fun b => b.set (i - x.o.ds.length) w }
end Sl
structure SlI (x : Sl) (kv : Kv) : Prop where
  ze : ∃ e, 2 ≤ e ∧ e ≤ 8 ∧ x.o.ds.length = 2 ^ e
  y0 : x.y = none → x.s = 0
  ye : ∀ b, x.y = some b → x.s < x.o.ds.length ∧ ∃ e, 2 ≤ e ∧ e ≤ 8 ∧ b.ds.length = 2 ^ e
  hm : ∀ (i : Nat) (z : Addr × Kv), x.all[i]? = some z → ∀ p ∈ z.2, x.hi p.1 = i
  pm : (kvL x.all).Perm kv
  nd : (ksP kv).Nodup
  nn : ∀ k ∈ ksP kv, 0 ≤ k
section
variable {x : Sl} {kv l ps : Kv} {k v : Int} {i : Nat} {d : Addr} {w : Addr × Kv} {b : Bk} {ds : Lots}
theorem pow_sz {n : Nat} (h : ∃ e, 2 ≤ e ∧ e ≤ 8 ∧ n = 2 ^ e) : 4 ≤ n ∧ n ≤ 256 := by
  obtain ⟨e, h1, h2, rfl⟩ := h
  have a := Nat.pow_le_pow_right (n := 2) (by decide) h1
  have c := Nat.pow_le_pow_right (n := 2) (by decide) h2
  exact ⟨a, c⟩
theorem Sl.set_all (x : Sl) (i : Nat) (w : Addr × Kv) : (x.set i w).all = x.all.set i w := by
  unfold Sl.set Sl.all
  by_cases h : i < x.o.ds.length
  · rw [if_pos h, List.set_append_left _ _ h]
    rfl
  · rw [if_neg h, List.set_append_right _ _ (by omega)]
    unfold Sl.yd
    cases e : x.y with
    | none => simp
    | some b => rfl
theorem Sl.set_len (x : Sl) (i : Nat) (w : Addr × Kv) : (x.set i w).o.ds.length = x.o.ds.length := by
  unfold Sl.set
  split
  · exact List.length_set
  · rfl
theorem Sl.set_s (x : Sl) (i : Nat) (w : Addr × Kv) : (x.set i w).s = x.s := by unfold Sl.set; split <;> rfl
theorem Sl.set_y (x : Sl) (i : Nat) (w : Addr × Kv) : (x.set i w).y.map (·.ds.length) = x.y.map (·.ds.length) := by
  unfold Sl.set
  split
  · rfl
  · cases x.y with
    | none => rfl
    | some b => show some _ = some _; congr 1; exact List.length_set
theorem Sl.hi_of {x y : Sl} (h1 : y.o.ds.length = x.o.ds.length) (h2 : y.s = x.s) (h3 : y.y.map (·.ds.length) = x.y.map (·.ds.length)) (k : Int) : y.hi k = x.hi k := by
  unfold Sl.hi
  rw [h1, h2]
  cases e : y.y with
  | none =>
    rw [e] at h3
    cases e2 : x.y with
    | none => rfl
    | some b => rw [e2] at h3; cases h3
  | some b =>
    rw [e] at h3
    cases e2 : x.y with
    | none => rw [e2] at h3; cases h3
    | some c =>
      rw [e2] at h3
      have : b.ds.length = c.ds.length := by injection h3
      dsimp only
      rw [this]
theorem Sl.set_hi (x : Sl) (i : Nat) (w : Addr × Kv) (k : Int) : (x.set i w).hi k = x.hi k := Sl.hi_of (x.set_len i w) (x.set_s i w) (x.set_y i w) k
theorem SlI.lt (h : SlI x kv) (k : Int) : x.hi k < x.all.length := by
  have hz := (pow_sz h.ze).1
  have hk := Nat.mod_lt k.toNat (show 0 < x.o.ds.length by omega)
  unfold Sl.hi Sl.all Sl.yd
  cases e : x.y with
  | none => simp; omega
  | some b =>
    have hb := (pow_sz (h.ye b e).2).1
    have hk2 := Nat.mod_lt k.toNat (show 0 < b.ds.length by omega)
    dsimp only
    rw [List.length_append]
    split <;> omega
theorem SlI.at (h : SlI x kv) (k : Int) : ∃ d l, x.all[x.hi k]? = some (d, l) := ⟨x.all[x.hi k]'(h.lt k) |>.1, x.all[x.hi k]'(h.lt k) |>.2, List.getElem?_eq_getElem (h.lt k)⟩
theorem SlI.home (h : SlI x kv) (e : x.all[x.hi k]? = some (d, l)) : (ksP l).Nodup ∧ (k ∈ ksP l ↔ k ∈ ksP kv) ∧ getP l k = getP kv k ∧ k ∉ ksP (kvL (x.all.eraseIdx (x.hi k))) := by
  have p1 := (kvL_at e).symm.trans h.pm
  have hk : (ksP (l ++ kvL (x.all.eraseIdx (x.hi k)))).Nodup := (ksP_perm p1).nodup_iff.mpr h.nd
  have hk2 : (ksP l ++ ksP (kvL (x.all.eraseIdx (x.hi k)))).Nodup := by
    have e : ksP (l ++ kvL (x.all.eraseIdx (x.hi k))) = ksP l ++ ksP (kvL (x.all.eraseIdx (x.hi k))) := List.map_append
    rwa [e] at hk
  have n := List.nodup_append.mp hk2
  have hm : k ∈ ksP l ↔ k ∈ ksP kv := by
    constructor
    · intro hl
      obtain ⟨p, hp, rfl⟩ := List.mem_map.mp hl
      exact List.mem_map.mpr ⟨p, p1.mem_iff.mp (List.mem_append_left _ hp), rfl⟩
    · intro hl
      obtain ⟨p, hp, rfl⟩ := List.mem_map.mp hl
      obtain ⟨i, z, hi, hz⟩ := kvL_mem.mp (h.pm.mem_iff.mpr hp)
      have := h.hm i z hi p hz
      rw [this, hi] at e
      cases e
      exact List.mem_map.mpr ⟨p, hz, rfl⟩
  refine ⟨n.1, hm, ?_, ?_⟩
  · cases e2 : getP l k with
    | some v => exact (getP_some h.nd (p1.mem_iff.mp (List.mem_append_left _ (getP_mem e2)))).symm
    | none =>
      refine (getP_none fun hc => ?_).symm
      obtain ⟨v, e3⟩ := getP_ex (hm.mpr hc)
      rw [e3] at e2
      cases e2
  · intro hc
    obtain ⟨p, hp, e4⟩ := List.mem_map.mp hc
    have hkv : k ∈ ksP kv := e4 ▸ List.mem_map.mpr ⟨p, p1.mem_iff.mp (List.mem_append_right _ hp), rfl⟩
    exact n.2.2 k (hm.mpr hkv) k hc rfl
/-- one lot is written: what a key's new lot must be -/
theorem SlI.write (h : SlI x kv) {l' kv' : Kv} (e : x.all[x.hi k]? = some (d, l)) (h1 : ∀ p ∈ l', p.1 = k ∨ p ∈ l) (h2 : (l' ++ kvL (x.all.eraseIdx (x.hi k))).Perm kv') (nd : (ksP kv').Nodup) (nn : ∀ k ∈ ksP kv', 0 ≤ k) :
    SlI (x.set (x.hi k) (d, l')) kv' := by
  refine ⟨by rw [Sl.set_len]; exact h.ze, fun e2 => ?_, fun b e2 => ?_, fun i z hi p hp => ?_, ?_, nd, nn⟩
  · rw [Sl.set_s]
    have := x.set_y (x.hi k) (d, l')
    rw [e2] at this
    refine h.y0 ?_
    cases e3 : x.y with
    | none => rfl
    | some b => rw [e3] at this; cases this
  · have := x.set_y (x.hi k) (d, l')
    rw [e2] at this
    cases e3 : x.y with
    | none => rw [e3] at this; cases this
    | some c =>
      rw [e3] at this
      have e4 : b.ds.length = c.ds.length := by injection this
      rw [Sl.set_s, Sl.set_len, e4]
      exact h.ye c e3
  · rw [Sl.set_hi]
    rw [Sl.set_all] at hi
    by_cases c : i = x.hi k
    · subst c
      rw [List.getElem?_set_self (h.lt k)] at hi
      cases hi
      rcases h1 p hp with e5 | hp
      · rw [e5]
      · exact h.hm _ _ e p hp
    · rw [List.getElem?_set_ne (fun z => c z.symm)] at hi
      exact h.hm i z hi p hp
  · rw [Sl.set_all]
    exact (kvL_set e).trans h2
theorem SlI.put (h : SlI x kv) (h0 : 0 ≤ k) (e : x.all[x.hi k]? = some (d, l)) : SlI (x.set (x.hi k) (d, putP l k v)) (putP kv k v) := by
  obtain ⟨n1, m1, _, n2⟩ := h.home e
  have p1 := (kvL_at e).symm.trans h.pm
  refine h.write e (fun p hp => ?_) ?_ (nd_put h.nd) (fun m hm => ?_)
  · by_cases c : k ∈ ksP l
    · rw [putP_old c] at hp
      obtain ⟨q, hq, rfl⟩ := List.mem_map.mp hp
      by_cases c2 : q.1 = k
      · rw [if_pos c2]; exact .inl c2
      · rw [if_neg c2]; exact .inr hq
    · rw [putP_new c] at hp
      rcases List.mem_append.mp hp with hp | hp
      · exact .inr hp
      · have : p = (k, v) := by simpa using hp
        exact .inl (by rw [this])
  · refine List.Perm.trans ?_ (putP_perm p1 k v)
    by_cases c : k ∈ ksP l
    · have c2 : k ∈ ksP (l ++ kvL (x.all.eraseIdx (x.hi k))) := by unfold ksP; rw [List.map_append]; exact List.mem_append_left _ c
      rw [putP_old c, putP_old c2, List.map_append, map_not n2]
    · have c2 : k ∉ ksP (l ++ kvL (x.all.eraseIdx (x.hi k))) := by
        unfold ksP
        rw [List.map_append]
        intro hc
        rcases List.mem_append.mp hc with hc | hc
        · exact c hc
        · exact n2 hc
      rw [putP_new c, putP_new c2, List.append_assoc, List.append_assoc]
      exact List.perm_append_comm.append_left _
  · by_cases c : k ∈ ksP kv
    · rw [ksP_put_old c] at hm; exact h.nn m hm
    · rw [ksP_put_new c] at hm
      rcases List.mem_append.mp hm with hm | hm
      · exact h.nn m hm
      · have : m = k := by simpa using hm
        rw [this]; exact h0
theorem SlI.del (h : SlI x kv) (e : x.all[x.hi k]? = some (d, l)) : SlI (x.set (x.hi k) (d, delP l k)) (delP kv k) := by
  obtain ⟨n1, m1, _, n2⟩ := h.home e
  have p1 := (kvL_at e).symm.trans h.pm
  refine h.write e (fun p hp => .inr ((List.mem_filter.mp hp).1)) ?_ (nd_del h.nd) (fun m hm => ?_)
  · refine List.Perm.trans ?_ (delP_perm p1 k)
    rw [delP_app, delP_not n2]
  · rw [ksP_del] at hm
    exact h.nn m ((List.mem_filter.mp hm).1)
/-! moving -/
def mv1 (ds : Lots) (p : Int × Int) : Lots := match ds[p.1.toNat % ds.length]? with
  | some z => ds.set (p.1.toNat % ds.length) (z.1, putP z.2 p.1 p.2)
  | none => ds
def mvL (ds : Lots) (ps : Kv) : Lots := ps.foldl mv1 ds
theorem mv1_len (ds : Lots) (p : Int × Int) : (mv1 ds p).length = ds.length := by
  unfold mv1
  split
  · exact List.length_set
  · rfl
theorem mvL_len : ∀ (ps : Kv) (ds : Lots), (mvL ds ps).length = ds.length
  | [], _ => rfl
  | p :: r, ds => (mvL_len r (mv1 ds p)).trans (mv1_len ds p)
theorem mv1_at {p : Int × Int} (h : 0 < ds.length) (e : ds[p.1.toNat % ds.length]? = some (d, l)) : mv1 ds p = ds.set (p.1.toNat % ds.length) (d, putP l p.1 p.2) := by unfold mv1; rw [e]
theorem mv1_law {p : Int × Int} (hd : 0 < ds.length) (hn : p.1 ∉ ksP (kvL ds)) : (kvL (mv1 ds p)).Perm (kvL ds ++ [p]) ∧ ∀ (i : Nat) (z : Addr × Kv), (mv1 ds p)[i]? = some z → ∀ q ∈ z.2, (∃ z', ds[i]? = some z' ∧ q ∈ z'.2) ∨ (q = p ∧ p.1.toNat % ds.length = i) := by
  have hi := Nat.mod_lt p.1.toNat hd
  have e : ds[p.1.toNat % ds.length]? = some (ds[p.1.toNat % ds.length].1, ds[p.1.toNat % ds.length].2) := List.getElem?_eq_getElem hi
  generalize ds[p.1.toNat % ds.length].1 = d at e
  generalize ds[p.1.toNat % ds.length].2 = l at e
  have hl : p.1 ∉ ksP l := fun hc => by
    obtain ⟨q, hq, e2⟩ := List.mem_map.mp hc
    exact hn (e2 ▸ List.mem_map.mpr ⟨q, kvL_mem.mpr ⟨_, _, e, hq⟩, rfl⟩)
  rw [mv1_at hd e, putP_new hl]
  refine ⟨?_, fun i z hz q hq => ?_⟩
  · refine (kvL_set e).trans ?_
    refine List.Perm.trans ?_ ((kvL_at e).symm.append_right _)
    rw [List.append_assoc, List.append_assoc]
    exact List.perm_append_comm.append_left _
  · by_cases c : p.1.toNat % ds.length = i
    · subst c
      rw [List.getElem?_set_self hi] at hz
      cases hz
      rcases List.mem_append.mp hq with hq | hq
      · exact .inl ⟨_, e, hq⟩
      · exact .inr ⟨by simpa using hq, rfl⟩
    · rw [List.getElem?_set_ne c] at hz
      exact .inl ⟨z, hz, hq⟩
theorem mvL_law : ∀ (ps : Kv) (ds : Lots), 0 < ds.length → (ksP (kvL ds ++ ps)).Nodup → (kvL (mvL ds ps)).Perm (kvL ds ++ ps) ∧ ∀ (i : Nat) (z : Addr × Kv), (mvL ds ps)[i]? = some z → ∀ q ∈ z.2, (∃ z', ds[i]? = some z' ∧ q ∈ z'.2) ∨ (q ∈ ps ∧ q.1.toNat % ds.length = i)
  | [], ds, _, _ => ⟨by rw [List.append_nil]; exact .refl _, fun i z hz q hq => .inl ⟨z, hz, hq⟩⟩
  | p :: r, ds, hd, nd => by
    have ea : ksP (kvL ds ++ p :: r) = ksP (kvL ds) ++ p.1 :: ksP r := List.map_append
    have n := List.nodup_append.mp (ea ▸ nd)
    have hp : p.1 ∉ ksP (kvL ds) := fun hc => n.2.2 _ hc _ (List.mem_cons_self ..) rfl
    obtain ⟨a1, a2⟩ := mv1_law hd hp
    have nd2 : (ksP (kvL (mv1 ds p) ++ r)).Nodup := by
      refine (ksP_perm (a1.append_right r)).nodup_iff.mpr ?_
      rw [List.append_assoc]
      exact nd
    obtain ⟨b1, b2⟩ := mvL_law r (mv1 ds p) (by rw [mv1_len]; exact hd) nd2
    refine ⟨?_, fun i z hz q hq => ?_⟩
    · refine b1.trans ((a1.append_right r).trans ?_)
      rw [List.append_assoc]
      exact .refl _
    · rcases b2 i z hz q hq with ⟨z', e1, e2⟩ | ⟨e1, e2⟩
      · rcases a2 i z' e1 q e2 with h | ⟨rfl, h⟩
        · exact .inl h
        · exact .inr ⟨List.mem_cons_self .., h⟩
      · rw [mv1_len] at e2
        exact .inr ⟨List.mem_cons_of_mem _ e1, e2⟩
/-- the next slot is moved: the old row's lot at s is d2, empty -/
def Sl.moved (x : Sl) (b : Bk) (d2 : Addr) (ps : Kv) : Sl :=
  if x.s + 1 = x.o.ds.length then ⟨{ b with ds := mvL b.ds ps }, none, 0⟩ else ⟨x.o.set x.s (d2, []), some { b with ds := mvL b.ds ps }, x.s + 1⟩
theorem SlI.move (h : SlI x kv) {d2 : Addr} (eb : x.y = some b) (es : x.o.ds[x.s]? = some (d, ps)) : SlI (x.moved b d2 ps) kv := by
  obtain ⟨hs, hbe⟩ := h.ye b eb
  have hb := (pow_sz hbe).1
  have hz := (pow_sz h.ze).1
  have hall : x.all = x.o.ds ++ b.ds := by unfold Sl.all Sl.yd; rw [eb]
  have hio : ∀ (i : Nat) (z : Addr × Kv), x.o.ds[i]? = some z → ∀ p ∈ z.2, x.s ≤ p.1.toNat % x.o.ds.length ∧ p.1.toNat % x.o.ds.length = i := by
    intro i z hi p hp
    have hil := (List.getElem?_eq_some_iff.mp hi).1
    have := h.hm i z (by rw [hall, List.getElem?_append_left hil]; exact hi) p hp
    unfold Sl.hi at this
    rw [eb] at this
    dsimp only at this
    split at this <;> omega
  have hiy : ∀ (i : Nat) (z : Addr × Kv), b.ds[i]? = some z → ∀ p ∈ z.2, p.1.toNat % x.o.ds.length < x.s ∧ p.1.toNat % b.ds.length = i := by
    intro i z hi p hp
    have := h.hm (x.o.ds.length + i) z (by rw [hall, List.getElem?_append_right (by omega)]; rw [Nat.add_sub_cancel_left]; exact hi) p hp
    unfold Sl.hi at this
    rw [eb] at this
    dsimp only at this
    have hm := Nat.mod_lt p.1.toNat (show 0 < x.o.ds.length by omega)
    split at this <;> omega
  have p0 : (ps ++ kvL (x.o.ds.eraseIdx x.s) ++ kvL b.ds).Perm kv := by
    refine List.Perm.trans ?_ h.pm
    rw [hall, kvL_app]
    exact (kvL_at es).symm.append_right _
  have p1 : (kvL (x.o.ds.eraseIdx x.s) ++ (kvL b.ds ++ ps)).Perm kv := by
    refine List.Perm.trans ?_ p0
    rw [List.append_assoc, ← List.append_assoc]
    exact List.perm_append_comm
  have ndb : (ksP (kvL b.ds ++ ps)).Nodup := by
    have := (ksP_perm p1).nodup_iff.mpr h.nd
    have e : ksP (kvL (x.o.ds.eraseIdx x.s) ++ (kvL b.ds ++ ps)) = ksP (kvL (x.o.ds.eraseIdx x.s)) ++ ksP (kvL b.ds ++ ps) := List.map_append
    rw [e] at this
    exact (List.nodup_append.mp this).2.1
  obtain ⟨q1, q2⟩ := mvL_law ps b.ds (by omega) ndb
  have hps := hio _ _ es
  unfold Sl.moved
  by_cases c : x.s + 1 = x.o.ds.length
  · rw [if_pos c]
    have he : kvL (x.o.ds.eraseIdx x.s) = [] := by
      refine List.eq_nil_iff_forall_not_mem.mpr fun p hp => ?_
      obtain ⟨i, z, hi, hz2⟩ := kvL_mem.mp hp
      rw [List.getElem?_eraseIdx] at hi
      split at hi
      · have := hio _ _ hi p hz2; omega
      · have := (List.getElem?_eq_some_iff.mp hi).1; omega
    have hall2 : Sl.all ⟨{ b with ds := mvL b.ds ps }, none, 0⟩ = mvL b.ds ps := List.append_nil _
    refine ⟨by show ∃ e, _ ∧ _ ∧ (mvL b.ds ps).length = _; rw [mvL_len]; exact hbe, fun _ => rfl, nofun, fun i z hi p hp => ?_, ?_, h.nd, h.nn⟩
    · rw [hall2] at hi
      show p.1.toNat % (mvL b.ds ps).length = i
      rw [mvL_len]
      rcases q2 i z hi p hp with ⟨z', e1, e2⟩ | ⟨_, e2⟩
      · exact (hiy _ _ e1 p e2).2
      · exact e2
    · rw [hall2]
      refine q1.trans ?_
      rw [he, List.nil_append] at p1
      exact p1
  · rw [if_neg c]
    have hall2 : Sl.all ⟨x.o.set x.s (d2, []), some { b with ds := mvL b.ds ps }, x.s + 1⟩ = x.o.ds.set x.s (d2, []) ++ mvL b.ds ps := rfl
    refine ⟨by show ∃ e, _ ∧ _ ∧ (x.o.ds.set x.s _).length = _; rw [List.length_set]; exact h.ze, nofun, fun b' e => ?_, fun i z hi p hp => ?_, ?_, h.nd, h.nn⟩
    · cases e
      refine ⟨?_, ?_⟩
      · show x.s + 1 < (x.o.ds.set x.s _).length
        rw [List.length_set]; omega
      · show ∃ e, _ ∧ _ ∧ (mvL b.ds ps).length = _
        rw [mvL_len]; exact hbe
    · rw [hall2] at hi
      show (if p.1.toNat % (x.o.ds.set x.s (d2, [])).length < x.s + 1 then (x.o.ds.set x.s (d2, [])).length + p.1.toNat % (mvL b.ds ps).length else p.1.toNat % (x.o.ds.set x.s (d2, [])).length) = i
      rw [List.length_set, mvL_len]
      by_cases ci : i < x.o.ds.length
      · rw [List.getElem?_append_left (by rw [List.length_set]; exact ci)] at hi
        by_cases ci2 : x.s = i
        · subst ci2
          rw [List.getElem?_set_self ci] at hi
          cases hi
          cases hp
        · rw [List.getElem?_set_ne ci2] at hi
          have := hio _ _ hi p hp
          rw [if_neg (by omega)]
          exact this.2
      · rw [List.getElem?_append_right (by rw [List.length_set]; omega), List.length_set] at hi
        rcases q2 _ z hi p hp with ⟨z', e1, e2⟩ | ⟨e1, e2⟩
        · have := hiy _ _ e1 p e2
          rw [if_pos (by omega)]
          omega
        · have := hps p e1
          rw [if_pos (by omega)]
          omega
    · rw [hall2, kvL_app]
      refine List.Perm.trans ?_ p1
      refine ((kvL_set es).append q1)
/-- a new row of empty lots begins -/
theorem SlI.begin (h : SlI x kv) (e : x.y = none) (he : ∀ z ∈ b.ds, z.2 = []) (hb : ∃ e, 2 ≤ e ∧ e ≤ 8 ∧ b.ds.length = 2 ^ e) : SlI { x with y := some b } kv := by
  have hz := (pow_sz h.ze).1
  have hall : x.all = x.o.ds := by unfold Sl.all Sl.yd; rw [e]; exact List.append_nil _
  have hnil : kvL b.ds = [] := List.eq_nil_iff_forall_not_mem.mpr fun p hp => by
    obtain ⟨i, z, hi, hz2⟩ := kvL_mem.mp hp
    rw [he z (List.mem_iff_getElem?.mpr ⟨i, hi⟩)] at hz2
    cases hz2
  refine ⟨h.ze, nofun, fun b' e2 => ?_, fun i z hi p hp => ?_, ?_, h.nd, h.nn⟩
  · cases e2
    exact ⟨by rw [show ({ x with y := some b } : Sl).s = x.s from rfl, h.y0 e]; show 0 < x.o.ds.length; omega, hb⟩
  · have hi : (x.o.ds ++ b.ds)[i]? = some z := hi
    show (if p.1.toNat % x.o.ds.length < x.s then x.o.ds.length + p.1.toNat % b.ds.length else p.1.toNat % x.o.ds.length) = i
    rw [if_neg (by rw [h.y0 e]; omega)]
    by_cases ci : i < x.o.ds.length
    · rw [List.getElem?_append_left ci] at hi
      have := h.hm i z (by rw [hall]; exact hi) p hp
      unfold Sl.hi at this
      rw [e] at this
      exact this
    · rw [List.getElem?_append_right (by omega)] at hi
      rw [he z (List.mem_iff_getElem?.mpr ⟨_, hi⟩)] at hp
      cases hp
  · show (kvL (x.o.ds ++ b.ds)).Perm kv
    rw [kvL_app, hnil, List.append_nil, ← hall]
    exact h.pm
end
end Z
namespace Z
open PySem PySem.Spec PyProof.Rows L2
/-- which rows stand, what was moved -/
def Sl.st (x : Sl) : Nat × Option Nat × Nat := (x.o.ds.length, x.y.map (·.ds.length), x.s)
def mvS : Nat × Option Nat × Nat → Nat × Option Nat × Nat
  | (z, none, s) => (z, none, s)
  | (z, some y, s) => if s + 1 = z then (y, none, 0) else (z, some y, s + 1)
def nrow (z m : Nat) : Option Nat := if z < m ∧ z < 256 then some (2 * z) else if 4 * m < z ∧ 4 < z then some (z / 2) else none
def bgS (m : Nat) : Nat × Option Nat × Nat → Nat × Option Nat × Nat
  | (z, none, s) => (z, nrow z m, s)
  | st => st
def turnS (m : Nat) (st : Nat × Option Nat × Nat) : Nat × Option Nat × Nat := bgS m (mvS st)
section
variable {x : Sl} {i : Nat} {w : Addr × Kv} {b : Bk} {d2 : Addr} {ps : Kv}
theorem Sl.set_st (x : Sl) (i : Nat) (w : Addr × Kv) : (x.set i w).st = x.st := by
  unfold Sl.st
  rw [Sl.set_len, Sl.set_y, Sl.set_s]
theorem Sl.moved_st (e : x.y = some b) : (x.moved b d2 ps).st = mvS x.st := by
  unfold Sl.moved Sl.st mvS
  rw [e]
  dsimp only [Option.map]
  by_cases c : x.s + 1 = x.o.ds.length
  · rw [if_pos c, if_pos c]
    dsimp only
    rw [mvL_len]
  · rw [if_neg c, if_neg c]
    dsimp only [Bk.set]
    rw [mvL_len, List.length_set]
end
end Z
namespace Z
open PySem PySem.Spec PyProof.Rows L2
theorem SlI.kvl {x : Sl} {kv : Kv} (h : SlI x kv) {i : Nat} {d : Addr} {l : Kv} (e : x.all[i]? = some (d, l)) : l.length ≤ kv.length := by
  have := ((kvL_at e).symm.trans h.pm).length_eq
  rw [List.length_append] at this
  omega
end Z
namespace Z
open PySem PySem.Spec PyProof.Rows L2
theorem putP_le (kv : Kv) (k v : Int) : (putP kv k v).length ≤ kv.length + 1 := by
  unfold putP
  split
  · rw [List.length_map]; omega
  · rw [List.length_append, List.length_singleton]; omega
theorem mv1_kvl (ds : Lots) (p : Int × Int) : (kvL (mv1 ds p)).length ≤ (kvL ds).length + 1 := by
  unfold mv1
  split
  · rename_i z e
    have h1 := (kvL_at (d := z.1) (l := z.2) e).length_eq
    have h2 := (kvL_set (d := z.1) (d' := z.1) (l := z.2) (x := putP z.2 p.1 p.2) e).length_eq
    have h3 := putP_le z.2 p.1 p.2
    rw [List.length_append] at h1 h2
    omega
  · omega
theorem mvL_kvl : ∀ (ps : Kv) (ds : Lots), (kvL (mvL ds ps)).length ≤ (kvL ds).length + ps.length
  | [], _ => Nat.le_refl _
  | p :: r, ds => by
    have h1 := mvL_kvl r (mv1 ds p)
    have h2 := mv1_kvl ds p
    show (kvL (mvL (mv1 ds p) r)).length ≤ _
    rw [List.length_cons]
    omega
end Z

/-! Z17: owned rows of slots on the heap; a comprehension over a range that makes owned things; a dict locked by its loop. -/
namespace Z
open PySem PySem.Spec PyProof.Rows L2
section
variable {K : PySem.W.Frag} {B H H1 : Hp} {L : List Cell} {D : Addr} {Q : VK} {g : TG} {tt : TT} {te : TE} {vs : List Nat} {σ : L2.St} {acc : List V} {y : V} {Nx : Hp → Prop}
theorem LC.rangeA {lo : Int} {n : Nat} (w : W B L H1) (hD : H1 D = none) (hlen : n < sizeLine) (Pv : Nat → Hp → List Cell → List V → Prop) (h0 : Pv 0 B [] [])
    (hs : ∀ (i : Nat) B' A acc H (Nx : Hp → Prop), i < n → Same B B' → W B' ((D, .lst acc) :: (A ++ L)) H → Pv i B' A acc → acc.length ≤ i → acc.length < sizeLine →
      (∀ B'' A' acc' H', Same B' B'' → W B'' ((D, .lst acc') :: (A' ++ L)) H' → Pv (i + 1) B'' A' acc' → acc'.length ≤ i + 1 → Nx H') →
      g (.int (lo + i)) (wipe σ vs) H fun σ2 H2 => wipe σ2 vs = wipe σ vs ∧ tt σ2 H2 fun b H3 => Br b (te σ2 H3 (rAcc D Nx)) (Nx H3))
    (hd : ∀ B' A acc H, Same B B' → W B' ((D, .lst acc) :: (A ++ L)) H → Pv n B' A acc → acc.length ≤ n → Q (.ref D) H) : LC (Itr lo n) D g tt te vs σ H1 Q := by
  refine lc_range (lo := lo) (n := n) (fun i H => ∃ B' A acc, Same B B' ∧ W B' ((D, .lst acc) :: (A ++ L)) H ∧ Pv i B' A acc ∧ acc.length ≤ i) ⟨B, [], [], same_refl B, w.newL hD _, h0, Nat.le_refl _⟩
    ?_ (fun H ⟨B', A, acc, s, w', p, l⟩ => hd B' A acc H s w' p l)
  rintro i H hi ⟨B', A, acc, s, w', p, l⟩
  exact hs i B' A acc H _ hi s w' p l (by omega) fun B'' A' acc' H' s' w'' p' l' => ⟨B'', A', acc', same_trans s s', w'', p', l'⟩
end
def lotC (z : Addr × Kv) : Cell := (z.1, .dK (dkP z.2))
def rfL (ds : Lots) : List V := ds.map fun z => V.ref z.1
section
variable {B H : Hp} {L A R : List Cell} {ds : Lots} {i : Nat} {d : Addr} {l l' : Kv}
theorem rfL_len (ds : Lots) : (rfL ds).length = ds.length := List.length_map _
theorem rfL_set (h : ds[i]? = some (d, l)) : rfL (ds.set i (d, l')) = rfL ds := by
  unfold rfL
  rw [List.map_set]
  refine List.ext_getElem? fun j => ?_
  by_cases c : i = j
  · subst c
    have hi := (List.getElem?_eq_some_iff.mp h).1
    rw [List.getElem?_set_self (by rw [List.length_map]; exact hi), List.getElem?_map, h]
    rfl
  · rw [List.getElem?_set_ne c]
theorem rfL_at (h : ds[i]? = some (d, l)) : (rfL ds)[i]? = some (.ref d) := by unfold rfL; rw [List.getElem?_map, h]; rfl
theorem W.lot (w : W B (A ++ (ds.map lotC ++ R)) H) (e : ds[i]? = some (d, l)) (l' : Kv) : W B (A ++ ((ds.set i (d, l')).map lotC ++ R)) (upd H d (.dK (dkP l'))) := by
  have e1 : ds.map lotC = (ds.take i).map lotC ++ (d, .dK (dkP l)) :: (ds.drop (i + 1)).map lotC := by
    conv => lhs; rw [at_split e]
    rw [List.map_append, List.map_cons]
    rfl
  have e2 : (ds.set i (d, l')).map lotC = (ds.take i).map lotC ++ (d, .dK (dkP l')) :: (ds.drop (i + 1)).map lotC := by
    rw [set_split e, List.map_append, List.map_cons]
    rfl
  rw [e1, List.append_assoc, ← List.append_assoc, List.cons_append] at w
  rw [e2, List.append_assoc, ← List.append_assoc, List.cons_append]
  exact W.put w _
theorem W.lotG (w : W B (A ++ (ds.map lotC ++ R)) H) (e : ds[i]? = some (d, l)) : H d = some (.dK (dkP l)) :=
  w.get (List.mem_append_right _ (List.mem_append_left _ (List.mem_map.mpr ⟨(d, l), List.mem_iff_getElem?.mpr ⟨i, e⟩, rfl⟩)))
end
end Z

/-! Z18: for k, v in d.items(): the dict is locked meanwhile. -/
namespace Z
open PySem PySem.Spec PyProof.Rows L2
section
variable {σ : L2.St} {H : Hp} {D : Ends} {t : TS} {d : Addr} {u : HO} {td : TE} {R : It → Hp → Prop} {g : TG} {tb : TS} {kvs : List (Key × V)} {o : Obj}
theorem g_lock (e : H d = some u) (mu : Mut (some u)) (h : ∀ od, t ⟨fun σ' H' => H' d = some (.frz od u) ∧ D.nx σ' (upd H' d u), fun v H' => H' d = some (.frz od u) ∧ D.rt v (upd H' d u), fun σ' H' => H' d = some (.frz od u) ∧ D.bk σ' (upd H' d u), fun σ' H' => H' d = some (.frz od u) ∧ D.ct σ' (upd H' d u)⟩ σ (upd H d (.frz od u))) : tLock t D σ H := ⟨d, u, e, mu, h⟩
def rItm (R : It → Hp → Prop) (x : V) (H1 : Hp) : Prop := ∃ d o kvs, x = .ref d ∧ H1 d = some (.frz o (.dK kvs)) ∧ R (Iti d o kvs) H1
theorem g_items (h : td σ H (rItm R)) : iItems td σ H R := h
theorem r_itm (h : H d = some (.frz o (.dK kvs))) (q : R (Iti d o kvs) H) : rItm R (.ref d) H := ⟨d, o, kvs, rfl, h, q⟩
theorem FOR.items (Pv : Nat → L2.St → Hp → Prop) (h0 : Pv 0 σ H) (hl : ∀ i σ H, i ≤ kvs.length → Pv i σ H → H d = some (.frz o (.dK kvs)))
    (hs : ∀ i k v σ H T, kvs[i]? = some (k, v) → Pv i σ H → H T = none → g (.ref T) σ (upd H T (.tup [kV k, v])) fun σ2 H2 => tb { D with nx := Pv (i + 1), ct := Pv (i + 1), bk := D.nx } σ2 H2) (hd : ∀ σ H, Pv kvs.length σ H → D.nx σ H) : FOR (Iti d o kvs) g tb D σ H := by
  refine ⟨fun i m σ H => m + i = kvs.length ∧ Pv i σ H, ⟨kvs.length, by omega, h0⟩, fun i m σ H ⟨hm, p⟩ => ?_⟩
  have hq := hl i σ H (by omega) p
  by_cases c : i = kvs.length
  · subst c
    exact .inl ⟨⟨hq, Nat.le_refl _⟩, hd _ _ p⟩
  · have hi : i < kvs.length := by omega
    refine .inr ⟨⟨hq, hi⟩, Pv (i + 1), fun σ' H' h' => ⟨m - 1, by omega, by omega, h'⟩, fun x H' hy => ?_⟩
    obtain ⟨T, k, v, hkv, rfl, hT, rfl⟩ := hy
    exact hs i k v σ H T hkv p hT
end
section
variable {H : Hp} {Q : VK} {a b : Addr} {kv : Kv} {k v : Int}
theorem r_upd1 (hab : b ≠ a) (ha : H a = some (.dK (dkP kv))) (hb : H b = some (.dK [(Sum.inl k, .int v)])) (hl : kv.length < sizeLine) (q : Q .non (upd H a (.dK (dkP (putP kv k v))))) : rUpd (.ref a) [.ref b] H Q :=
  ⟨a, b, dkP kv, [(Sum.inl k, .int v)], rfl, rfl, hab, ha, hb, by rw [dkP_len, List.length_singleton]; omega, by rw [dkP_one]; exact q⟩
end
end Z
namespace Z
open PySem PySem.Spec PyProof.Rows L2
theorem rfL_mv1 (ds : Lots) (p : Int × Int) : rfL (mv1 ds p) = rfL ds := by
  unfold mv1
  split
  · rename_i z e
    exact rfL_set (d := z.1) (l := z.2) e
  · rfl
theorem rfL_mvL : ∀ (ps : Kv) (ds : Lots), rfL (mvL ds ps) = rfL ds
  | [], _ => rfl
  | p :: r, ds => (rfL_mvL r (mv1 ds p)).trans (rfL_mv1 ds p)
theorem mvL_take {ds : Lots} {ps : Kv} {i : Nat} {p : Int × Int} (h : ps[i]? = some p) : mvL ds (ps.take (i + 1)) = mv1 (mvL ds (ps.take i)) p := by
  unfold mvL
  rw [List.take_add_one, h, List.foldl_append]
  rfl
theorem dkP_at {ps : Kv} {i : Nat} {k : Key} {v : V} (h : (dkP ps)[i]? = some (k, v)) : ∃ p : Int × Int, ps[i]? = some p ∧ k = Sum.inl p.1 ∧ v = .int p.2 := by
  unfold dkP at h
  rw [List.getElem?_map] at h
  cases e : ps[i]? with
  | none => rw [e] at h; cases h
  | some p => rw [e] at h; cases h; exact ⟨p, rfl, rfl, rfl⟩
end Z
namespace Z
open PySem PySem.Spec PyProof.Rows L2
section
variable {K : PySem.W.Frag} {H : Hp} {Q : VK} {t : TA} {σ : L2.St} {r : V → List V → Hp → VK → Prop} {d : Addr} {kvs : List (Key × V)} {tk tv : TE} {k : Int} {v : V}
theorem r_bmD (h : H d = some (.dK kvs)) (q : t σ H fun xs H2 => r (.ref d) xs H2 Q) : rBm K "dict" r t σ (.ref d) H Q := ⟨.inr (.inr (.inl ⟨rfl, .inl ⟨_, h⟩⟩)), q⟩
/-- {k: v} -/
def rDisp1 (p : Addr) (Q : VK) (x y : V) (H2 : Hp) : Prop := H2 p = some (.dK []) ∧ ∃ kvs : List (Key × V), [(x, y)] = kvs.map (fun kv => (kV kv.1, kv.2)) ∧ kvs.length ≤ 15 ∧ Q (.ref p) (upd H2 p (.dK (mergeK [] kvs)))
theorem g_disp1 (h : ∀ p, H p = none → tk σ (upd H p (.dK [])) fun x H2 => tv σ H2 fun y H3 => rDisp1 p Q x y H3) : tDisp [(tk, tv)] σ H Q := h
theorem r_disp1 {p : Addr} (h : H p = some (.dK [])) (q : Q (.ref p) (upd H p (.dK [(Sum.inl k, v)]))) : rDisp1 p Q (.int k) v H := ⟨h, [(Sum.inl k, v)], rfl, by simp, q⟩
end
end Z
namespace Z
open PySem PySem.Spec PyProof.Rows L2
section
variable {K : PySem.W.Frag} {B H : Hp} {X Y L : List Cell} {D : Ends} {σ : L2.St} {ta tv : TE} {rd : V → V → Hp → VK → Prop} {f : Str} {C a dx : Addr} {fs : List (Str × V)} {i j : Int} {P : Hp → Prop} {d d2 : Addr} {o o2 : HO}
/-- an owned thing takes the place of another one -/
theorem W.inst (w : W B ((d2, o2) :: (X ++ (d, o) :: Y)) H) : W B (X ++ (d2, o2) :: Y) H := by
  have p : ((d2, o2) :: (X ++ (d, o) :: Y)).Perm ((d, o) :: (X ++ (d2, o2) :: Y)) :=
    (List.perm_middle.cons _).trans ((List.Perm.swap _ _ _).trans (List.perm_middle.symm.cons _))
  exact (w.perm p).drop1
def rAug (K : PySem.W.Frag) (tv : TE) (rd : V → V → Hp → VK → Prop) (f : Str) (σ : L2.St) (P : Hp → Prop) (x : V) (H1 : Hp) : Prop := ∃ a C dx fs v, x = .ref a ∧ H1 a = some (.ins C dx fs) ∧ Cls K C ∧ NoAttr K C f ∧ fs.lookup f = some v ∧
  tv σ H1 fun y H2 => rd v y H2 fun z H3 => ∃ dx' fs', H3 a = some (.ins C dx' fs') ∧ fs'.length < 1000 ∧ P (upd H3 a (.ins C dx' (putF f z fs')))
theorem g_fldaug (h : ta σ H (rAug K tv rd f σ (D.nx σ))) : sFldAug K ta tv rd f D σ H := h
theorem r_augA (h : H a = some (.ins C dx fs)) (c : Cls K C) (no : NoAttr K C f) (l : fs.lookup f = some (.int i)) (hl : fs.length < 1000) (q : P (upd H a (.ins C dx (putF f (.int (i + j)) fs)))) : rAug K (tC (.int j)) rAdd f σ P (.ref a) H :=
  ⟨a, C, dx, fs, .int i, rfl, h, c, no, l, i, j, rfl, rfl, dx, fs, h, hl, q⟩
theorem r_augS (h : H a = some (.ins C dx fs)) (c : Cls K C) (no : NoAttr K C f) (l : fs.lookup f = some (.int i)) (hl : fs.length < 1000) (q : P (upd H a (.ins C dx (putF f (.int (i - j)) fs)))) : rAug K (tC (.int j)) rSub f σ P (.ref a) H :=
  ⟨a, C, dx, fs, .int i, rfl, h, c, no, l, i, j, rfl, rfl, dx, fs, h, hl, q⟩
end
end Z
namespace Z
open PySem PySem.Spec PyProof.Rows L2
theorem W.sl {B H : Hp} {L L' : List Cell} (w : W B L H) (h : L'.Sublist L) : W B L' H :=
  ⟨w.sub, fun c hc => w.has c (h.mem hc), w.nd.sublist (h.map _), fun c hc => w.out c (h.mem hc)⟩
end Z

/-! Z19: try .. except C: without a name; a dict compared with {}. -/
namespace Z
open PySem PySem.Spec PyProof.Rows L2
def tTryOn (K : PySem.W.Frag) (c : Value) (tb : WX → TS) (ts : Addr → Value → Option Addr → TS) (Wout : WX) : TS := fun D σ H => tb (wOnly K c ts Wout D) D σ H
section
variable {X : Cx} {x : Str} {c : Value} {body suite : List Stmt} {b₀ : Stmt} {np pos pos' : Pos} {tb : WX → TS} {ts : Addr → Value → Option Addr → TS} {Wout : WX}
theorem ps_tryOn (hs : X.stack = X.env :: X.outer) (hf : X.env.frame = some X.env.locals) (hc : Names X x c) (tk : Takes X Wout)
    (hb : ∀ (W : WX) (pn : List (Addr × Obj)) (xe : Value → Shared → Prop), Takes (X.tr pn xe) W → PassesOwn (model X.prog X.w) X.A X.env xe → PSs (X.tr pn xe) body (tb W))
    (hsu : ∀ (a : Addr) (oe : Obj) (cls : Value) (d : Option Addr) (pn : List (Addr × Obj)), Zc cls d oe → (∃ vs, oe.data = .fields vs) → PSs (X.suite a ((a, oe) :: pn)) (b₀ :: suite) (ts a cls d)) :
    PS X (.Try body [.ExceptHandler (some (.Name x np)) none (b₀ :: suite) pos'] [] [] pos) (tTryOn X.K c tb ts Wout) := ps_try_only hs hf hc tk hb hsu
end
section
variable {K : PySem.W.Frag} {σ : L2.St} {H : Hp} {Wout : WX} {D : Ends} {cls c : Value} {d : Option Addr} {ts : Addr → Value → Option Addr → TS} {tb : WX → TS}
theorem g_tryOn (h : tb (wOnly K c ts Wout D) D σ H) : tTryOn K c tb ts Wout D σ H := h
theorem r_caughtO (hx : PySem.W.exmOne K cls c = some true) (h : ∀ a, H a = none → ts a cls d D σ H) : wOnly K c ts Wout D cls d σ H := ⟨true, hx, fun _ => h, nofun⟩
theorem r_passedO (hx : PySem.W.exmOne K cls c = some false) (h : Wout cls d σ H) : wOnly K c ts Wout D cls d σ H := ⟨false, hx, nofun, fun _ => h⟩
end
section
variable {X : Cx} {H : Hp} {Q : VK} {a b : Addr} {kvs : List (Key × V)}
def rEqD0 : R2 := fun x y H Q => ∃ a b ks, x = .ref a ∧ y = .ref b ∧ H a = some (.dK ks) ∧ H b = some (.dK []) ∧ Q (.bl (decide (ks.length = 0))) H
def rNeD0 : R2 := fun x y H Q => ∃ a b ks, x = .ref a ∧ y = .ref b ∧ H a = some (.dK ks) ∧ H b = some (.dK []) ∧ Q (.bl (!decide (ks.length = 0))) H
theorem op_eqD0 (hu : X.A.units < cLine) : OpR X (compareOp .Eq) rEqD0 := by
  intro pins s σ H x y v u Q I rx ry h
  obtain ⟨a, b, ks, rfl, rfl, ea, eb, q⟩ := h
  obtain rfl : v = Value.ref a := rx
  obtain rfl : u = Value.ref b := ry
  obtain ⟨_, ya, va, ra, da⟩ := (show ObjOk X.prog X.w H s.heap a (.dK ks) from I.hok a _ ea)
  obtain ⟨_, yb, vb, rb, db⟩ := (show ObjOk X.prog X.w H s.heap b (.dK []) from I.hok b _ eb)
  have hla : va.length = ks.length := ra.length.symm
  have hlb : vb = [] := List.eq_nil_of_length_eq_zero rb.length.symm
  subst hlb
  refine PySem.W.keq_eq (knd := mixKind X.prog X.w) (r := true) ya yb da db hu (fun e => ?_) (fin_bl I q (by rw [hla]; cases ks <;> simp))
  have : va = [] := List.eq_nil_of_length_eq_zero e
  subst this
  exact .nil
theorem op_neD0 (hu : X.A.units < cLine) : OpR X (compareOp .NotEq) rNeD0 := by
  intro pins s σ H x y v u Q I rx ry h
  obtain ⟨a, b, ks, rfl, rfl, ea, eb, q⟩ := h
  obtain rfl : v = Value.ref a := rx
  obtain rfl : u = Value.ref b := ry
  obtain ⟨_, ya, va, ra, da⟩ := (show ObjOk X.prog X.w H s.heap a (.dK ks) from I.hok a _ ea)
  obtain ⟨_, yb, vb, rb, db⟩ := (show ObjOk X.prog X.w H s.heap b (.dK []) from I.hok b _ eb)
  have hla : va.length = ks.length := ra.length.symm
  have hlb : vb = [] := List.eq_nil_of_length_eq_zero rb.length.symm
  subst hlb
  refine PySem.W.keq_ne (knd := mixKind X.prog X.w) (r := true) ya yb da db hu (fun e => ?_) (fin_bl I q (by rw [hla]; cases ks <;> simp))
  have : va = [] := List.eq_nil_of_length_eq_zero e
  subst this
  exact .nil
theorem r_eqD0 (h1 : H a = some (.dK kvs)) (h2 : H b = some (.dK [])) (q : Q (.bl (decide (kvs.length = 0))) H) : rEqD0 (.ref a) (.ref b) H Q := ⟨a, b, kvs, rfl, rfl, h1, h2, q⟩
theorem r_neD0 (h1 : H a = some (.dK kvs)) (h2 : H b = some (.dK [])) (q : Q (.bl (!decide (kvs.length = 0))) H) : rNeD0 (.ref a) (.ref b) H Q := ⟨a, b, kvs, rfl, rfl, h1, h2, q⟩
end
end Z

set_option maxHeartbeats 4000000
/-! Z20: sorted(xs, key=f), f a def of the program that answers with a pair of whole numbers. -/
namespace Z
open PySem PySem.Spec PyProof.Rows L2
def kfH (H : Hp) (u : Value) : Int × Int := match u with
  | .ref t => match H t with
    | some (.tup [.int x, .int y]) => (x, y)
    | _ => (0, 0)
  | _ => (0, 0)
def rSortBy (K : PySem.W.Frag) (f : Addr) (sp : Sp) : List V → List V → Hp → VK → Prop := fun vs zs H Q => ∃ (a : Addr) (xs : List V) (key : V → Int × Int), vs = [.ref a] ∧ zs = [.ref f] ∧ SqL K H a xs ∧ (∀ x ∈ xs, ∃ p, x = .ref p) ∧
  (∀ x ∈ xs, ∀ H1 (Q1 : VK), Same H H1 → (∀ t H2, Same H1 H2 → H2 t = some (.tup [.int (key x).1, .int (key x).2]) → Q1 (.ref t) H2) → sp [x] H1 Q1 (fun _ _ _ => False)) ∧
  ∀ ys p H', Same H H' → H p = none → H' p = some (.lst ys) → ys.Perm xs → ys.Pairwise (fun x y => SrtO.lexB (key y) (key x) = false) → Q (.ref p) H'
section
variable {X : Cx} {pins : List (Addr × Obj)} {σ : L2.St} {H : Hp} {s : Shared} {f : Addr} {fd : FuncData} {ps : List Str} {sp : Sp} {k : Nat}
theorem run_at2 (F : FnOk X.prog X.w X.K X.mg X.base (L2.CX X.prog X.w) k f fd ps sp) (hr : Room (k + 2) X.A) (hb : Binds X.K fd ps []) (I : Inv X pins σ H s) {x : V} {u : Value} {Q : VK} (r : RelV x u) (h : sp [x] H Q (fun _ _ _ => False)) :
    wpAny (model X.prog X.w) X.A.in1.in1 (call (.ref f) [u]) (EP X pins σ Q) (fun _ _ => False) s := by
  have r2 : Vals [x] [u] := .cons r .nil
  have hl := F.len _ _ _ _ h
  have hb2 := hb s [u] I.kIn (by simpa using hl)
  rw [List.append_nil] at hb2
  refine wpAny_call (codeAny_mono (F.run X.A.in1.in1 X.stack s H ⟨[u], []⟩ [u] [x] Q (fun _ _ _ => False) hr.in1.in1 I.env0.in1.in1 hb2 r2 h) fun r s' hq => ?_)
  cases r with
  | error e =>
    obtain ⟨_, _, _, _, _, _, _, _, _, _, _, _, z⟩ := hq
    exact z
  | ok fl =>
    cases fl with
    | ret u => exact I.after hq
    | next => exact False.elim hq
    | brk => exact False.elim hq
    | cont => exact False.elim hq
/-- the keyed pairs behind the sort -/
theorem sortBy_out {H : Hp} {ts : List Addr} {its : List Value} {key : V → Int × Int} {l : List Keyed} (hl : ts.length = its.length)
    (hk : ∀ (j : Nat) (t : Addr) (x : Value), ts[j]? = some t → its[j]? = some x → kfH H (.ref t) = key (backV x))
    (hp : l.Perm ((ts.map Value.ref).zip its)) (hs : SrtO.Srtd (SrtO.lt2 fun v u => SrtO.lexB (kfH H v) (kfH H u)) l) :
    ((l.map (·.2)).map backV).Perm (its.map backV) ∧ ((l.map (·.2)).map backV).Pairwise (fun x y => SrtO.lexB (key y) (key x) = false) := by
  have e2 : ((ts.map Value.ref).zip its).map (·.2) = its := List.map_snd_zip (by rw [List.length_map]; omega)
  refine ⟨?_, ?_⟩
  · have := (hp.map (·.2)).map backV
    rw [e2] at this
    exact this
  · have hm : ∀ p ∈ l, kfH H p.1 = key (backV p.2) := fun p hpm => by
      obtain ⟨j, hj⟩ := List.getElem?_of_mem (hp.mem_iff.mp hpm)
      rw [List.getElem?_zip_eq_some, List.getElem?_map] at hj
      obtain ⟨h1, h2⟩ := hj
      cases ht : ts[j]? with
      | none => rw [ht] at h1; cases h1
      | some t =>
        rw [ht] at h1
        have h1 : Value.ref t = p.1 := Option.some.inj h1
        rw [← h1]
        exact hk j t _ ht h2
    rw [List.map_map, List.pairwise_map]
    refine List.Pairwise.imp_of_mem (fun {p q} hp hq h => ?_) hs
    have h : SrtO.lexB (kfH H q.1) (kfH H p.1) = false := h
    rw [hm p hp, hm q hq] at h
    exact h
theorem vals_refs : ∀ {ts : List Addr} {us : List Value}, Vals (ts.map V.ref) us → us = ts.map Value.ref
  | [], _, .nil => rfl
  | t :: ts, _, .cons r h => by
    cases r
    rw [vals_refs h]
    rfl
theorem refs_vals : ∀ ts : List Addr, Vals (ts.map V.ref) (ts.map Value.ref)
  | [] => .nil
  | t :: ts => .cons rfl (refs_vals ts)
/-- an object of ours is tracked from now on -/
theorem inv_adopt {a : Addr} {o : HO} (I : Inv X pins σ H s) (fo : FpOk X pins H a) (hx : a ∉ X.ex) (new : ObjOk X.prog X.w (upd H a o) s.heap a o) : Inv X pins σ (upd H a o) s := by
  obtain ⟨h1, h2, h3, h4, h5, h6⟩ := fo
  have h4 : X.s_0.heap.objs.size ≤ a := h4.resolve_left hx
  have ne : ∀ b ob, X.s_0.heap.get? b = some ob → b ≠ a := fun b ob e z => by
    subst z
    exact absurd (Nat.lt_of_lt_of_le (Heap.lt_size e) h4) (Nat.lt_irrefl _)
  have nn : ∀ b u, H b = some u → b ≠ a := fun b u e z => by rw [z, h1] at e; cases e
  refine ⟨I.ok, I.os, I.bare, ⟨I.base.keep, I.base.slot, fun b ob e n hx => ?_, I.base.there, fun b xs e => ?_, fun b ob u e => ?_, fun b ps e => ?_⟩, I.loc, I.cell, ?_, fun x c e => ?_, fun p hp => ?_, fun b u e => ?_, I.len⟩
  · rw [upd_ne (ne b ob e)]; exact I.base.free b ob e n hx
  · have := I.base.tups b xs e
    rw [upd_ne (nn _ _ this)]; exact this
  · have := I.base.frzs b ob u e
    rw [upd_ne (nn _ _ this)]; exact this
  · obtain ⟨m, this⟩ := I.base.tbls b ps e
    exact ⟨m, by rw [upd_ne (nn _ _ this)]; exact this⟩
  · rw [upd_ne (Ne.symm h2)]; exact I.free
  · rw [upd_ne (h5 x c e)]; exact I.freeC x c e
  · obtain ⟨p1, p2, p3⟩ := I.pin p hp
    exact ⟨p1, by rw [upd_ne (h6 p hp)]; exact p2, p3⟩
  · by_cases hb : b = a
    · subst hb; rw [upd_same] at e; cases e; exact new
    · rw [upd_ne hb] at e
      exact (I.hok b u e).stay (fun c v _ q => q) (fun c q => by rw [upd_ne (nn _ _ q)]; exact q) fun c xs q => by rw [upd_ne (nn _ _ q)]; exact q
theorem cr_sortBy (F : FnOk X.prog X.w X.K X.mg X.base (L2.CX X.prog X.w) k f fd ps sp) (hr : Room (k + 2) X.A) (hb : Binds X.K fd ps []) (hxx : X.ex = []) : CallRK X (.builtin "sorted") [Str.ofString "key"] (rSortBy X.K f sp) := by
  intro pins s σ H vs zs us ws Q I r rz h
  obtain ⟨a, xs, key, rfl, rfl, hs, hx, hrun, q⟩ := h
  obtain rfl := Vals.ref1 r
  obtain ⟨w1, rfl, e1⟩ := vals1 rz
  obtain rfl : w1 = Value.ref f := e1
  obtain ⟨its, rv, hl, hz⟩ := I.list hs
  obtain ⟨exs, hits⟩ := refs_back rv hx
  have hz' : its.length ≤ sizeLine := by rw [← rv.length]; exact hz
  refine call_function_entry_kw kind_sorted plain_sorted entry_sorted (ksk_s1 _ _) ?_
  unfold Builtin.«sorted»
  refine wpAny_bind (m := checkCount "sorted" 1 1 _) (wpAny_pure ?_)
  refine wpAny_bind (collect_list hl.isList ?_ hz')
  refine wpAny_bind (wpAny_newList ?_ hz')
  have hsz : ((s.heap.push (seqObj "list" #[] 0)).update s.heap.objs.size (Obj.mapSeq (· ++ its.toArray))).objs.size = s.heap.objs.size + 1 := by
    rw [Heap.size_update, size_push']
  have hoL : (((s.heap.push (seqObj "list" #[] 0)).update s.heap.objs.size (Obj.mapSeq (· ++ its.toArray))).push (seqObj "list" its.toArray 0)).get? (s.heap.objs.size + 1) = some (seqObj "list" its.toArray 0) := by
    rw [← hsz]; exact Heap.get?_push_size _ rfl
  have keep : ∀ b o, s.heap.get? b = some o → (((s.heap.push (seqObj "list" #[] 0)).update s.heap.objs.size (Obj.mapSeq (· ++ its.toArray))).push (seqObj "list" its.toArray 0)).get? b = some o := fun b o q => by
    have hlt : b < s.heap.objs.size := Heap.lt_size q
    refine Heap.get?_push_of_some _ ?_
    rw [Heap.get?_update_ne _ _ _ _ (Nat.ne_of_lt hlt)]
    exact Heap.get?_push_of_some _ q
  show wpAny _ _ _ _ _ { s with heap := ((s.heap.push (seqObj "list" #[] 0)).update s.heap.objs.size (Obj.mapSeq (· ++ its.toArray))).push (seqObj "list" its.toArray 0) }
  rw [hsz]
  have ha0 : H (s.heap.objs.size + 1) = none := I.hok.fresh (Nat.le_succ _)
  have fD : FpOk X pins H (s.heap.objs.size + 1) := I.fpOk (Nat.le_succ _) ha0
  have I1 := I.kept (t' := s.toks) keep
  generalize (((s.heap.push (seqObj "list" #[] 0)).update s.heap.objs.size (Obj.mapSeq (· ++ its.toArray))).push (seqObj "list" its.toArray 0)) = h1 at *
  generalize s.heap.objs.size + 1 = D at *
  refine wpAny_bind (wpAny_holding (wpAny_call_entry_kw slot_list_sort ⟨_, hoL, rfl⟩ entry_list_sort ?_ (ksk_l1 _ _)))
  show wpAny (model X.prog X.w) X.A.in1.in1 (Builtin.«list.sort» ⟨[.ref D], [(Str.ofString "key", .ref f)]⟩) _ _ _
  rw [ksk_t1]
  unfold ksk_tree
  refine wpAny_bind (listItems_at hoL rfl ?_)
  refine wpAny_bind (listUpdate_at hoL rfl ?_ (by rw [List.size_toArray]; exact hz') (Nat.zero_le _))
  have I2 := I1.turned (t' := s.toks) (it := D) (h' := h1.update D (Obj.mapSeq fun _ => (#[] : Array Value))) (fun b o hb e => (Heap.get?_update_ne _ _ _ _ hb).trans e) fD.1 fD.2.1 fD.2.2.2.1 fD.2.2.2.2.1 fD.2.2.2.2.2
  obtain ⟨e1, ho1⟩ : ∃ e1, (h1.update D (Obj.mapSeq fun _ => (#[] : Array Value))).get? D = some (seqObj "list" #[] e1) := ⟨_, get?_update_seq hoL fun _ => #[]⟩
  refine wpAny_bind (seqEpoch_at ho1 rfl ?_)
  generalize h1.update D (Obj.mapSeq fun _ => (#[] : Array Value)) = h2 at *
  refine wpAny_bind (wpAny_newTuple ?_ (by show its.length ≤ _; exact hz'))
  refine wpAny_bind (wpAny_newList ?_ (Nat.zero_le _))
  have I3 := I2.kept (t' := s.toks) (h' := h2.push (seqObj "tuple" its.toArray 0)) (fun b o e => Heap.get?_push_of_some _ e)
  have ho3 := Heap.get?_push_of_some (seqObj "tuple" its.toArray 0) ho1
  show wpAny _ _ _ _ _ { s with heap := (h2.push (seqObj "tuple" its.toArray 0)).push (seqObj "list" #[] 0) }
  generalize h2.push (seqObj "tuple" its.toArray 0) = h3 at *
  have I4 : Inv X pins σ (upd H h3.objs.size (.lst [])) { s with heap := h3.push (seqObj "list" #[] 0) } := I3.lnew (t' := s.toks) (its := []) (ys := []) .nil (Nat.zero_le _)
  have hk0 : H h3.objs.size = none := I3.fresh
  refine wpAny_holding ?_
  show wpAny _ _ (ksk_rest D (.ref f) false its.toArray e1 (.ref h3.objs.size)) _ _ _
  have hDk : D ≠ h3.objs.size := Nat.ne_of_lt (Heap.lt_size ho3)
  have ho4 := Heap.get?_push_of_some (seqObj "list" #[] 0) ho3
  generalize h3.push (seqObj "list" #[] 0) = h4 at *
  generalize h3.objs.size = kS at *
  have sH : Same H (upd H kS (.lst [])) := same_new hk0
  have I5 : Inv X (pins ++ [(D, seqObj "list" #[] e1)]) σ (upd H kS (.lst [])) { s with heap := h4 } := I4.pins_of fun p hp => by
    rcases List.mem_append.mp hp with hp | hp
    · exact I4.pin p (List.mem_append_right _ hp)
    · rw [List.mem_singleton.mp hp]
      exact ⟨ho4, by show upd H kS (.lst []) D = none; rw [upd_ne hDk]; exact ha0, fD.2.1, fD.2.2.1, fun v e => by cases e⟩
  unfold ksk_rest
  refine wpAny_bind (wpAny_rule ?_)
  rw [List.forIn_toArray]
  refine wpAny_bind (ksk_fold (fun i s' => ∃ (H' : Hp) (ts : List Addr), Inv X (pins ++ [(D, seqObj "list" #[] e1)]) σ H' s' ∧ Same H H' ∧ H' kS = some (.lst (ts.map V.ref)) ∧ ts.length = i ∧
    ∀ (j : Nat) (t : Addr) (x : Value), ts[j]? = some t → its[j]? = some x → H' t = some (.tup [.int (key (backV x)).1, .int (key (backV x)).2])) its 0 _
    ⟨_, [], I5, sH, upd_same, rfl, fun j t x e => by simp at e⟩ ?step ?done)
  case step =>
    rintro j x s' hxj ⟨H', ts, I', sH', hK, hlen, hts⟩
    rw [Nat.zero_add] at hlen ⊢
    have hxm : x ∈ its := List.mem_of_getElem? hxj
    have hjl := (List.getElem?_eq_some_iff.mp hxj).1
    obtain ⟨ax, rfl⟩ := hits x hxm
    have hbx : (backV (Value.ref ax)) ∈ xs := by rw [exs]; exact List.mem_map.mpr ⟨_, hxm, rfl⟩
    refine wpAny_bind (wpAny_attempt (wpAny_mono (run_at2 F hr hb I' (x := backV (Value.ref ax)) (u := .ref ax) (Q := fun v H2 => ∃ t, v = .ref t ∧ Same H' H2 ∧ H2 t = some (.tup [.int (key (backV (Value.ref ax))).1, .int (key (backV (Value.ref ax))).2])) rfl (hrun _ hbx H' _ sH' fun t H2 s2 ht => ⟨t, rfl, s2, ht⟩)) (fun v s'' he => ?_) fun _ _ hF => hF.elim))
    obtain ⟨v2, H2, I2', rv2, t, rfl, s2, ht⟩ := he
    obtain rfl : v = Value.ref t := rv2
    try dsimp only
    have hK2 := s2 _ _ hK
    obtain ⟨hzk, kits, n, rk, hkl, hkg⟩ := I2'.lstM hK2
    have ek := vals_refs rk
    have hsz1 : kits.length = ts.length := by rw [ek, List.length_map]
    have I6 := I2'.lset (t' := s''.toks) (f := fun a => a.push (.ref t)) (its' := kits ++ [.ref t]) (ys := (ts ++ [t]).map V.ref) hK2 hkg (by simp) (by rw [ek, List.map_append]; exact (refs_vals ts).append (.cons rfl .nil)) (by rw [List.length_map, List.length_append, List.length_singleton]; omega)
    refine wpAny_bind (listUpdate_at hkg rfl ?_ (by rw [List.size_toArray]; omega) (by rw [Array.size_push, List.size_toArray]; omega))
    have hne : ∀ c u, H2 c = some (.tup u) → c ≠ kS := fun c u e z => by rw [z, hK2] at e; cases e
    have hneH : ∀ c u, H c = some u → c ≠ kS := fun c u e z => by rw [z, hk0] at e; cases e
    refine wpAny_pure ⟨rfl, _, ts ++ [t], I6, fun b o e => ?_, upd_same, by rw [List.length_append, List.length_singleton, hlen], fun j' t' x' e1' e2' => ?_⟩
    · rw [upd_ne (hneH b o e)]
      exact s2 _ _ (sH' b o e)
    · by_cases c : j' < ts.length
      · rw [List.getElem?_append_left c] at e1'
        have := s2 _ _ (hts j' t' x' e1' e2')
        rw [upd_ne (hne _ _ this)]
        exact this
      · rw [List.getElem?_append_right (by omega)] at e1'
        have hj0 : j' - ts.length = 0 := by
          have := (List.getElem?_eq_some_iff.mp e1').1
          rw [List.length_singleton] at this
          omega
        rw [hj0] at e1'
        have e1' : t = t' := Option.some.inj e1'
        subst e1'
        have : j' = j := by omega
        subst this
        rw [hxj] at e2'
        cases e2'
        rw [upd_ne (hne _ _ ht)]
        exact ht
  case done =>
    rintro s' ⟨H', ts, I', sH', hK, hlen, hts⟩
    rw [Nat.zero_add] at hlen
    obtain ⟨hzk, kits, n, rk, hkl, hkg⟩ := I'.lstM hK
    have ek := vals_refs rk
    subst ek
    try dsimp only
    refine wpAny_bind (listItems_at hkg rfl ?_)
    have hgD := (I'.pin (D, seqObj "list" #[] e1) (List.mem_append_right _ (List.mem_append_right _ (List.mem_singleton.mpr rfl))))
    have hkf : ∀ j t x, ts[j]? = some t → its[j]? = some x → kfH H' (.ref t) = key (backV x) := fun j t x e2 e3 => by
      have := hts j t x e2 e3
      unfold kfH
      dsimp only
      rw [this]
    have hpair : ∀ v ∈ ts.map Value.ref, Srt.IsPair s'.heap v (kfH H' v).1 (kfH H' v).2 := fun v hv => by
      obtain ⟨t, htm, rfl⟩ := List.mem_map.mp hv
      obtain ⟨j, hj⟩ := List.getElem?_of_mem htm
      have hjl := (List.getElem?_eq_some_iff.mp hj).1
      obtain ⟨x, hxj⟩ : ∃ x, its[j]? = some x := ⟨_, List.getElem?_eq_getElem (by omega)⟩
      have ht := hts j t x hj hxj
      rw [hkf j t x hj hxj]
      obtain ⟨_, its2, r2, o, ho, hc, n, hd⟩ := I'.hok _ _ ht
      obtain ⟨u1, u2, rfl, ri, rj⟩ := vals2 r2
      obtain ⟨t1, rfl⟩ := ri
      obtain ⟨t2, rfl⟩ := rj
      exact ⟨t, o, t1, t2, n, rfl, ho, hc, hd⟩
    have hzs : ((ts.map Value.ref).toArray.zip its.toArray).toList = (ts.map Value.ref).zip its := by
      rw [ksk_zip]
    -- the tail
    have tail : ∀ (P : PySem.Fin → Shared → Prop) (E : Value → Shared → Prop), (∀ s_f H_f ys, Inv X pins σ H_f s_f → Same H H_f → H_f D = some (.lst ys) → ys.Perm xs → ys.Pairwise (fun x y => SrtO.lexB (key y) (key x) = false) → P (.done (.ret .none)) s_f) →
        ∀ st' : SortSt, SrtO.Srtd (SrtO.lt2 fun v u => SrtO.lexB (kfH H' v) (kfH H' u)) (arrOf st').toList → (arrOf st').toList.Perm ((ts.map Value.ref).zip its) → failedOf st' = none →
        wpAny (model X.prog X.w) X.A.in1.in1 (ksk_tail D false e1 (.ref kS) st') P E s' := by
      intro P E hP st' hs1 hp1 hf
      obtain ⟨o1, o2⟩ := sortBy_out (H := H') (ts := ts) (its := its) (key := key) (l := (arrOf st').toList) hlen hkf hp1 hs1
      rw [← exs] at o1
      have hml : ∀ u ∈ (arrOf st').toList.map (·.2), ∃ a, u = Value.ref a := fun u hu => by
        obtain ⟨p, hp, rfl⟩ := List.mem_map.mp hu
        exact hits _ (List.of_mem_zip (hp1.mem_iff.mp hp)).2
      have hal : (arrOf st').size = its.length := by
        have := hp1.length_eq
        rw [List.length_zip, List.length_map, Array.length_toList] at this
        omega
      unfold ksk_tail
      try dsimp only
      refine wpAny_bind (listUpdate_at hkg rfl ?_ (by rw [List.size_toArray, List.length_map]; omega) (Nat.zero_le _))
      refine wpAny_bind (wpAny_letGo ?_)
      have I7 := I'.lset (t' := s'.toks) (f := fun _ => #[]) (its' := []) (ys := []) hK hkg rfl .nil (Nat.zero_le _)
      have hgD := (I7.pin (D, seqObj "list" #[] e1) (List.mem_append_right _ (List.mem_append_right _ (List.mem_singleton.mpr rfl))))
      have I8 := I7.unpinned
      have hgD1 : (s'.heap.update kS (Obj.mapSeq fun _ => (#[] : Array Value))).get? D = some (seqObj "list" #[] e1) := hgD.1
      refine wpAny_bind (seqEpoch_at hgD1 rfl ?_)
      refine wpAny_bind (listUpdate_at hgD1 rfl ?_ (Nat.zero_le _) (by simp only [Bool.false_eq_true, if_false, Array.size_map]; omega))
      rw [hf]
      simp only [bne_self_eq_false, Bool.false_eq_true, if_false]
      have fD2 : FpOk X pins (upd H' kS (.lst [])) D := ⟨hgD.2.1, fD.2⟩
      have I9 := I8.turned (t' := s'.toks) (it := D) (h' := (s'.heap.update kS (Obj.mapSeq fun _ => (#[] : Array Value))).update D (Obj.mapSeq fun _ => (arrOf st').map (·.2))) (fun b o hb e => (Heap.get?_update_ne _ _ _ _ hb).trans e) fD2.1 fD2.2.1 fD2.2.2.2.1 fD2.2.2.2.2.1 fD2.2.2.2.2.2
      have hc := get?_update_seq hgD1 (fun _ => (arrOf st').map (·.2))
      obtain ⟨c2, hc2⟩ : ∃ c2, ((s'.heap.update kS (Obj.mapSeq fun _ => (#[] : Array Value))).update D (Obj.mapSeq fun _ => (arrOf st').map (·.2))).get? D = some (seqObj "list" ((arrOf st').map (·.2)) c2) := ⟨_, hc⟩
      have hv : Vals (((arrOf st').toList.map (·.2)).map backV) ((arrOf st').toList.map (·.2)) := vals_back hml
      have e9 : ((arrOf st').toList.map (·.2)).toArray = (arrOf st').map (·.2) := by
        apply Array.ext'
        rw [Array.toList_map]
      have hlz : (((arrOf st').toList.map (·.2)).map backV).length ≤ sizeLine := by rw [o1.length_eq]; exact hz
      have I10 := inv_adopt I9 (o := .lst (((arrOf st').toList.map (·.2)).map backV)) fD2 (by rw [hxx]; simp) ⟨hlz, _, c2, hv, by rw [e9]; exact hc2⟩
      refine wpAny_pure (hP _ _ _ I10 (fun b o e => ?_) upd_same o1 o2)
      have hbD : b ≠ D := fun z => by rw [z, ha0] at e; cases e
      have hbk : b ≠ kS := fun z => by rw [z, hk0] at e; cases e
      rw [upd_ne hbD, upd_ne hbk]
      exact sH' b o e
    have hsz2 : ((ts.map Value.ref).toArray.zip its.toArray).size = its.length := by rw [Array.size_zip, List.size_toArray, List.size_toArray, List.length_map, hlen, Nat.min_self]
    unfold ksk_end
    try dsimp only
    simp only [Bool.false_eq_true, if_false]
    have fin : ∀ s_f H_f ys, Inv X pins σ H_f s_f → Same H H_f → H_f D = some (.lst ys) → ys.Perm xs → ys.Pairwise (fun x y => SrtO.lexB (key y) (key x) = false) → EP X pins σ Q (.ref D) s_f := fun s_f H_f ys I2 s2 e2 p2 o2 => ⟨.ref D, H_f, I2, rfl, q ys D H_f s2 ha0 e2 p2 o2⟩
    by_cases h2 : its.toArray.size < 2
    · rw [if_pos h2, if_pos h2]
      refine wpAny_bind (wpAny_pure ?_)
      rw [StateT.run_pure]
      refine wpAny_bind (wpAny_pure ?_)
      try dsimp only
      refine tail _ _ ?_ (SortSt.mk' general' ((ts.map Value.ref).toArray.zip its.toArray) #[] 7 none) ?_ ?_ rfl
      · intro s_f H_f ys a1 a2 a3 a4 a5
        exact ⟨_, rfl, wpAny_pure ⟨_, rfl, fin s_f H_f ys a1 a2 a3 a4 a5⟩⟩
      · show SrtO.Srtd _ ((ts.map Value.ref).toArray.zip its.toArray).toList
        have hl2 : ((ts.map Value.ref).toArray.zip its.toArray).toList.length < 2 := by rw [Array.length_toList, hsz2]; rw [List.size_toArray] at h2; exact h2
        match ((ts.map Value.ref).toArray.zip its.toArray).toList, hl2 with
        | [], _ => exact List.Pairwise.nil
        | [v], _ => exact List.pairwise_singleton _ _
        | _ :: _ :: l, h => exact absurd h (by rw [List.length_cons, List.length_cons]; omega)
      · show (((ts.map Value.ref).toArray.zip its.toArray).toList).Perm _
        rw [hzs]
    · rw [if_neg h2, if_neg h2]
      rw [List.size_toArray] at h2
      have hcl : ∀ o, s'.heap.get? D = some o → o.cls ≠ .type "tuple" := fun o e z => by
        have e2 : some o = some (seqObj "list" #[] e1) := e.symm.trans hgD.1
        cases e2
        exact absurd (Value.type.inj z) (by decide)
      have hso := SrtO.pairs_sortableO (prog := X.prog) (w := X.w) (A := X.A.in1.in1) (s := s') (a := D) (vs := ts.map Value.ref) (k := kfH H') (by rw [List.length_map]; omega) hpair hcl
      have hso2 := hso s'.heap (fun b o _ e => e)
      clear hso hcl
      obtain ⟨κ, hkind, hT⟩ := hso2
      refine wpAny_bind (hkind _ _ ?_)
      refine wpAny_bind (wpAny_mono (SrtO.wpS_sortO (st0 := SortSt.mk' κ ((ts.map Value.ref).toArray.zip its.toArray) #[] 7 none)
        (Q := fun _ st' => SrtO.Srtd (SrtO.lt2 fun v u => SrtO.lexB (kfH H' v) (kfH H' u)) (arrOf st').toList ∧ SrtO.Stb (SrtO.lt2 fun v u => SrtO.lexB (kfH H' v) (kfH H' u)) (arrOf st').toList ((ts.map Value.ref).toArray.zip its.toArray).toList ∧ failedOf st' = none) (SrtO.swo2 (SrtO.swo_lex (kfH H'))) hT rfl (fun p hm => ?_) rfl rfl fun st' a1 a2 a3 => ⟨a1, a2, a3⟩) ?_ fun _ _ e => e)
      · have hm : p ∈ ((ts.map Value.ref).toArray.zip its.toArray).toList := hm
        rw [hzs] at hm
        exact (List.of_mem_zip hm).1
      · rintro ⟨⟨⟩, st'⟩ s2 ⟨rfl, hp1, hp2, hf⟩
        try dsimp only
        refine tail _ _ ?_ st' hp1 ?_ hf
        · intro s_f H_f ys a1 a2 a3 a4 a5
          exact ⟨_, rfl, wpAny_pure ⟨_, rfl, fin s_f H_f ys a1 a2 a3 a4 a5⟩⟩
        · have := hp2.perm
          rw [hzs] at this
          exact this
end
end Z

/-! Z21: lists of pairs on the heap; list(d.items()); sorted by a key. -/
namespace Z
open PySem PySem.Spec PyProof.Rows L2 LiI
def prT (B : Hp) (t : Addr) : Int × Int := match B t with
  | some (.tup [.int k, .int v]) => (k, v)
  | _ => (0, 0)
/-- ts are tuples, the pairs ps -/
structure TP (B : Hp) (ts : List Addr) (ps : Kv) : Prop where
  all : ∀ t ∈ ts, B t = some (.tup [.int (prT B t).1, .int (prT B t).2])
  eq : ps = ts.map (prT B)
theorem prT_of {B : Hp} {t : Addr} {k v : Int} (h : B t = some (.tup [.int k, .int v])) : prT B t = (k, v) := by unfold prT; rw [h]
section
variable {B B' H H' : Hp} {ts us : List Addr} {ps qs : Kv} {t : Addr} {i : Nat} {L : List Cell}
theorem TP.mono (h : TP B ts ps) (s : Same B B') : TP B' ts ps := by
  have e : ∀ t ∈ ts, prT B' t = prT B t := fun t ht => prT_of (s _ _ (h.all t ht))
  refine ⟨fun t ht => ?_, ?_⟩
  · rw [e t ht]; exact s _ _ (h.all t ht)
  · rw [h.eq]; exact List.map_congr_left fun t ht => (e t ht).symm
theorem TP.nil : TP B [] [] := ⟨nofun, rfl⟩
theorem TP.app (h : TP B ts ps) (h2 : TP B us qs) : TP B (ts ++ us) (ps ++ qs) :=
  ⟨fun t ht => (List.mem_append.mp ht).elim (h.all t) (h2.all t), by rw [h.eq, h2.eq, List.map_append]⟩
theorem TP.one {k v : Int} (h : B t = some (.tup [.int k, .int v])) : TP B [t] [(k, v)] :=
  ⟨fun t' ht => by rw [List.mem_singleton.mp ht, prT_of h]; exact h, by rw [List.map_singleton, prT_of h]⟩
theorem TP.len (h : TP B ts ps) : ts.length = ps.length := by rw [h.eq, List.length_map]
theorem TP.at (h : TP B ts ps) (e : ts[i]? = some t) : ∃ p : Int × Int, ps[i]? = some p ∧ B t = some (.tup [.int p.1, .int p.2]) := by
  refine ⟨prT B t, ?_, h.all t (List.mem_of_getElem? e)⟩
  rw [h.eq, List.getElem?_map, e]
  rfl
theorem TP.perm (h : TP B ts ps) (p : us.Perm ts) : ∃ qs, TP B us qs ∧ qs.Perm ps := ⟨us.map (prT B), ⟨fun t ht => h.all t (p.mem_iff.mp ht), rfl⟩, by rw [h.eq]; exact p.map _⟩
theorem TP.sub (h : TP B ts ps) (n : Nat) : TP B (ts.take n) (ps.take n) := ⟨fun t ht => h.all t (List.mem_of_mem_take ht), by rw [h.eq, List.map_take]⟩
theorem TP.ex (h : TP B ts ps) (i : Nat) (hi : i < ps.length) : ∃ t, ts[i]? = some t := ⟨_, List.getElem?_eq_getElem (by rw [h.len]; exact hi)⟩
theorem getR {i : Nat} {x : V} (h : (ts.map V.ref)[i]? = some x) : ∃ t, x = .ref t ∧ ts[i]? = some t ∧ i < ts.length := by
  rw [List.getElem?_map] at h
  cases e : ts[i]? with
  | none => rw [e] at h; cases h
  | some n => rw [e] at h; exact ⟨n, (Option.some.inj h).symm, rfl, (List.getElem?_eq_some_iff.mp e).1⟩
/-- new things came -/
theorem W.ext (w : W B L H) (s : Same H H') : W B L H' := ⟨same_trans w.sub s, fun c hc => s _ _ (w.has c hc), w.nd, w.out⟩
theorem W.grow (w : W B L H) (s : Same H H') (N : List Addr) (hN : ∀ b ∈ N, H b = none) : ∃ B', Same B B' ∧ W B' L H' ∧ ∀ b ∈ N, ∀ o, H' b = some o → B' b = some o := by
  classical
  refine ⟨fun b => if b ∈ N then H' b else B b, fun b o e => ?_, ⟨fun b o e => ?_, fun c hc => s _ _ (w.has c hc), w.nd, fun c hc => ?_⟩, fun b hb o e => ?_⟩
  · have nb : b ∉ N := fun hb => by
      have := w.sub _ _ e
      rw [hN b hb] at this
      cases this
    show (if b ∈ N then H' b else B b) = some o
    rw [if_neg nb]
    exact e
  · have e : (if b ∈ N then H' b else B b) = some o := e
    by_cases hb : b ∈ N
    · rw [if_pos hb] at e; exact e
    · rw [if_neg hb] at e; exact s _ _ (w.sub _ _ e)
  · show (if c.1 ∈ N then H' c.1 else B c.1) = none
    have nb : c.1 ∉ N := fun hb => by
      have := w.has c hc
      rw [hN _ hb] at this
      cases this
    rw [if_neg nb]
    exact w.out c hc
  · show (if b ∈ N then H' b else B b) = some o
    rw [if_pos hb]
    exact e
/-- a new thing that came is owned -/
theorem W.own {p : Addr} {o : HO} (w : W B L H) (s : Same H H') (hp : H p = none) (e : H' p = some o) : W B ((p, o) :: L) H' := by
  have w' := w.ext s
  refine ⟨w'.sub, fun c hc => ?_, List.nodup_cons.mpr ⟨w.freeL hp, w.nd⟩, fun c hc => ?_⟩
  · rcases List.mem_cons.mp hc with rfl | hc
    · exact e
    · exact w'.has c hc
  · rcases List.mem_cons.mp hc with rfl | hc
    · exact w.freeB hp
    · exact w.out c hc
theorem W.ownN {p : Addr} {o : HO} (w : W B L H') (hp : H p = none) (hB : B p = none) (hL : p ∉ L.map (·.1)) (e : H' p = some o) : W B ((p, o) :: L) H' := by
  refine ⟨w.sub, fun c hc => ?_, List.nodup_cons.mpr ⟨hL, w.nd⟩, fun c hc => ?_⟩
  · rcases List.mem_cons.mp hc with rfl | hc
    · exact e
    · exact w.has c hc
  · rcases List.mem_cons.mp hc with rfl | hc
    · exact hB
    · exact w.out c hc
end
/-! list(d.items()) -/
section
variable {σ : L2.St} {H B : Hp} {Q : VK} {te : TE} {d : Addr} {l : Kv} {L : List Cell}
theorem g_litems (h : te σ H fun x H1 => rItemsL x H1 Q) : tListItems te σ H Q := h
theorem paired_len {α β : Type} {R : α → β → Prop} : ∀ {xs : List α} {ys : List β}, Paired R xs ys → xs.length = ys.length
  | _, _, .nil => rfl
  | _, _, .cons _ t => by rw [List.length_cons, List.length_cons, paired_len t]
theorem tp_paired {B : Hp} : ∀ {ts : List Addr} {l : Kv}, Paired (fun (t : Addr) (q : Key × V) => B t = some (.tup [kV q.1, q.2])) ts (dkP l) → TP B ts l
  | [], [], _ => .nil
  | t :: ts, p :: l, .cons r h => (TP.one (k := p.1) (v := p.2) r).app (tp_paired (ts := ts) (l := l) h)
theorem d_litems (w : W B L H) (h : H d = some (.dK (dkP l))) (q : ∀ p ts B' H', Same B B' → B' p = some (.lst (ts.map V.ref)) → TP B' ts l → W B' L H' → Q (.ref p) H') : rItemsL (.ref d) H Q := by
  refine ⟨d, dkP l, rfl, h, fun H' p ts s hp hts hpt e hpr => ?_⟩
  obtain ⟨B', s1, w', hN⟩ := w.grow s (p :: ts) (fun b hb => (List.mem_cons.mp hb).elim (fun z => z ▸ hp) (hts b))
  refine q p ts B' H' s1 (hN p (List.mem_cons_self ..) _ e) ?_ w'
  have tp := tp_paired hpr
  exact ⟨fun t ht => by
    have e2 := tp.all t ht
    have e3 := hN t (List.mem_cons_of_mem _ ht) _ e2
    rw [prT_of e3]; exact e3, by
    rw [tp.eq]
    exact List.map_congr_left fun t ht => (prT_of (hN t (List.mem_cons_of_mem _ ht) _ (tp.all t ht))).symm⟩
end
/-! sorted(xs, key=f) -/
section
variable {K : PySem.W.Frag} {σ : L2.St} {H B : Hp} {Q : VK} {t tk : TA} {r : List V → List V → Hp → VK → Prop} {L : List Cell} {a f : Addr} {sp : Sp} {ts : List Addr} {ps : Kv}
theorem g_ckw (h : t σ H fun vs H1 => tk σ H1 fun zs H2 => r vs zs H2 Q) : tCKw r t tk σ H Q := h
def keyT (B : Hp) (κ : Int → Int × Int) : V → Int × Int
  | .ref t => κ (prT B t).1
  | _ => (0, 0)
theorem refs_perm {ys : List V} (h : ys.Perm (ts.map V.ref)) : ∃ us : List Addr, ys = us.map V.ref ∧ us.Perm ts := by
  refine ⟨ys.map (fun v => match v with | .ref t => t | _ => 0), ?_, ?_⟩
  · rw [List.map_map]
    have : ∀ y ∈ ys, (V.ref ∘ fun v => match v with | .ref t => t | _ => (0 : Addr)) y = y := fun y hy => by
      obtain ⟨t, _, rfl⟩ := List.mem_map.mp (h.mem_iff.mp hy)
      rfl
    conv => lhs; rw [← List.map_id ys]
    exact (List.map_congr_left fun y hy => this y hy).symm
  · have := h.map (fun v => match v with | V.ref t => t | _ => (0 : Addr))
    rw [List.map_map] at this
    have e : ts.map ((fun v => match v with | V.ref t => t | _ => (0 : Addr)) ∘ V.ref) = ts := by
      conv => rhs; rw [← List.map_id ts]
      rfl
    rwa [e] at this
theorem d_sortBy (κ : Int → Int × Int) (w : W B L H) (h : SqL K H a (ts.map V.ref)) (tp : TP B ts ps)
    (hf : ∀ (t : Addr) (k v : Int) (H1 : Hp) (Q1 : VK), W B L H1 → H1 t = some (.tup [.int k, .int v]) → (k, v) ∈ ps → (∀ p H2, Same H1 H2 → H2 p = some (.tup [.int (κ k).1, .int (κ k).2]) → Q1 (.ref p) H2) → sp [.ref t] H1 Q1 (fun _ _ _ => False))
    (q : ∀ (p : Addr) (us : List Addr) (qs : Kv) (H' : Hp), H p = none → Same H H' → H' p = some (.lst (us.map V.ref)) → TP B us qs → qs.Perm ps → qs.Pairwise (fun x y => SrtO.lexB (κ y.1) (κ x.1) = false) → Q (.ref p) H') : rSortBy K f sp [.ref a] [.ref f] H Q := by
  refine ⟨a, ts.map V.ref, keyT B κ, rfl, rfl, h, fun x hx => ?_, fun x hx H1 Q1 s1 q1 => ?_, fun ys p H' s hp e hpm hpw => ?_⟩
  · obtain ⟨t, _, rfl⟩ := List.mem_map.mp hx
    exact ⟨t, rfl⟩
  · obtain ⟨t, ht, rfl⟩ := List.mem_map.mp hx
    have e := tp.all t ht
    refine hf t _ _ H1 Q1 (w.ext s1) (s1 _ _ (w.sub _ _ e)) ?_ q1
    rw [tp.eq]
    exact List.mem_map.mpr ⟨t, ht, rfl⟩
  · obtain ⟨us, rfl, hus⟩ := refs_perm hpm
    obtain ⟨qs, tq, hq⟩ := tp.perm hus
    refine q p us qs H' hp s e tq hq ?_
    rw [tq.eq, List.pairwise_map]
    rw [List.pairwise_map] at hpw
    exact hpw
end
end Z

set_option maxHeartbeats 4000000
/-! Z38: defs that are called within an except suite and raise nothing there: what is handled may have any context. -/
namespace L2H
open PySem PySem.Spec PyProof.Rows L2 HotX
/-- as FnH, but of the thing that is handled it is known only that it stands -/
structure FnC (pr : Program) (w : World) (K : PySem.W.Frag) (mg : Str → Option Value) (b0 : Heap) (cx : CXT)
    (lev : Nat) (f : Addr) (fd : FuncData) (ps : List Str) (sp : Sp) : Prop where
  ln : ∀ {us G R T}, sp us G R T → us.length = ps.length
  go : ∀ {Ar fr st G ar ul us R T pin}, RoomH lev Ar → PinOk fr G st pin → Env0 pr w K mg b0 Ar fr st G →
    BindsTo st fd ar (ps.zip ul) → Vals us ul → sp us G R T → codeAny (model pr w) Ar (.call (.ref f) ar) (CR cx fr pr w G st R T) st
section
variable {pr : Program} {w : World} {K : PySem.W.Frag} {mg : Str → Option Value} {b0 : Heap} {lev : Nat} {f : Addr} {fd : FuncData}
theorem Fun.okC {x ql : Str} {d : Stmt} {nms ps : List Str} {sp : Sp} (F : Fun K x ql d f fd) (sc : FnScope nms ps (defScope d))
    (ln : ∀ us G R T, sp us G R T → us.length = ps.length)
    (bd : ∀ (cdv : Value) (Ar : Around) (fr : List Env) (st : Shared) (G : Hp) (us : List V) (R : VK) (T : XK) (pin : Addr × Obj),
      RoomH lev (Ar.deeper (envOfC ql (defScope d) st.heap.objs.size f cdv)) → sp us G R T →
      ∃ t, PSs (cxH (L2.CX pr w) pr w K mg b0 nms ql (defScope d) f cdv Ar fr st G T pin) (defBody d) t ∧ t { nx := fun _ G' => R .non G', rt := R } (L2.start nms us) G) :
    FnC pr w K mg b0 (L2.CX pr w) (lev + 1) f fd ps sp := by
  obtain ⟨oc, od, kV, doc, pm, an, cdv, ct, osl, rfl, lk, cd⟩ := F.ex
  refine ⟨fun z => ln _ _ _ _ z, ?_⟩
  intro Ar fr st G ar ul us R T pin room pk env bt vl z
  have stay := fun b o e => (env.bs b o e).1
  have inK := env.mod.kin.keeps stay
  have free := env.mod.nolimit.keeps stay
  refine codeAny_call_function room.depth (inK _ _ lk) rfl sc.co sc.gen rfl (PySem.W.codeRec_of inK cd) (bt _ _ _ _ ?_)
  have kinds : ∀ y ∈ ps.zip ul, (defScope d).names.lookup y.1 = some .local ∨ ((defScope d).names.lookup y.1 = some .cell ∧ ((cellsFrom (st.heap.objs.size + 1) (defScope d).names []).lookup y.1).isSome = true) := by
    intro y hy
    refine (sc.par y.1 (List.of_mem_zip (a := y.1) (b := y.2) hy).1).imp id fun q => ⟨q, ?_⟩
    exact PySem.W.cellsFrom_some _ _ _ (.inl q)
  refine wpAny_newFunctionEnv_cells sc.kind kinds fun ev hev st1 ic => ?_
  cases hev
  refine ⟨free.keeps ic.toInCall.keep, codeAny_func ?_⟩
  obtain ⟨t, ht, q⟩ := bd cdv Ar fr st G us R T pin (room.deeper _) z
  have iv := inv_startH (CX := L2.CX pr w) (E := T) sc pk env (ln _ _ _ _ z) vl ic
  refine wpAny_mono (ht.run [] st1 _ G _ iv q) (fun fl st2 hs => ?_) (fun _ _ hs => hs)
  cases fl with
  | brk => obtain ⟨_, _, _, no⟩ := hs; exact False.elim no
  | cont => obtain ⟨_, _, _, no⟩ := hs; exact False.elim no
  | next => obtain ⟨_, G2, J, q2⟩ := hs; exact ⟨V.non, G2, J.os, J.bare, J.base, J.hok, rfl, q2⟩
  | ret u => obtain ⟨v, _, G2, J, rv, q2⟩ := hs; exact ⟨v, G2, J.os, J.bare, J.base, J.hok, rv, q2⟩
theorem roomC {j k : Nat} {Ar : Around} {hd : Option Value} (r : Room k Ar) (hj : j ≤ k) : RoomH j (Ar.mark hd) := by
  have a := r.dp
  have b := r.un
  constructor
  · show Ar.depth + _ + _ < _; omega
  · show Ar.units + _ + _ < _; omega
end
theorem pe_callC {X : Cx} {cx : CXT} {lev : Nat} {f : Addr} {fd : FuncData} {ps : List Str} {sp : Sp} {T : XK} {x : Str} {p1 p2 : Pos} {e : Expr} {es : List Expr} {t : TA} {ds : List Value} {dvs : List V}
    (F : FnC X.prog X.w X.K X.mg X.base cx lev f fd ps sp) (room : RoomH lev X.A) (hp : ∃ pin, pin ∈ X.pn) (hg : Gl X x) (hm : X.mg x = some (.ref f)) (hk : PySem.W.keepIn X.K (.ref f) = true)
    (hb : Binds X.K fd ps ds) (hd : Vals dvs ds) (hx : Passes cx X T) (ha : PA X (e :: es) t) (h1 : (x == ("__debug__" : Str)) = false := by decide)
    (h2 : starEach (e :: es) X.env = (false, eval e X.env) :: starEach es X.env := by rfl) (h3 : (backTo p2 (starEach es X.env)).any (·.1) = false := by rfl) :
    PE X (.Call (.Name x p1) (e :: es) [] p2) (tCall sp dvs T t) := by
  constructor
  intro pins st σ G Q iv h
  refine wpAny_Call_Name_kw (ld_glob iv hg hm ?_ h1)
  refine PySem.W.callWith_K (h₀ := X.base) iv.ok.mod.kin hk (thn (ha.run p2 pins st σ G _ iv h) fun ul st1 ⟨us, G1, iv1, vl, q⟩ => ⟨iv1.kIn, ?_⟩) h2 h3
  obtain ⟨pin, hpn⟩ := hp
  obtain ⟨g1, g2, g3, g4, g5⟩ := iv1.pin pin (List.mem_append_left _ hpn)
  have pk : PinOk X.stack G1 st1 pin := ⟨g1, g2, fun hm2 => by rcases List.mem_cons.mp (iv1.stkSub pin.1 hm2) with z | z; exact g3 z; exact g4 z, g5⟩
  have vl2 := vl.append hd
  have len2 : (ul ++ ds).length = ps.length := vl2.length.symm.trans (F.ln q)
  refine wpAny_call (codeAny_mono (F.go room pk iv1.env0 (hb st1 ul iv1.kIn len2) vl2 q) fun r st2 hq => ?_)
  match r, hq with
  | .error er, hq => exact hx pins σ G1 st1 er st2 iv1 hq
  | .ok (.ret u), hq => exact iv1.after hq
  | .ok .next, hq => exact False.elim hq
  | .ok .brk, hq => exact False.elim hq
  | .ok .cont, hq => exact False.elim hq
end L2H

open PySem L2 Z
local macro_rules | `(tactic| wtm_at "side") => `(tactic| first | with_reducible assumption | omega | (show _ ∨ _; omega) | (show _ ∧ _; omega) | decide | with_reducible rfl | exact ⟨by decide, by decide, by decide⟩ | (refine ⟨?_, ?_, ?_⟩ <;> first | decide | omega | with_reducible assumption) | (refine ⟨?_, ?_⟩ <;> first | decide | omega | with_reducible assumption))
local macro_rules | `(tactic| wtm_at "mem") => `(tactic| first | with_reducible exact List.mem_cons_self .. | (with_reducible refine List.mem_cons_of_mem _ ?_; wtm_at "mem") | (with_reducible refine List.mem_append_left _ ?_; wtm_at "mem") | (with_reducible refine List.mem_append_right _ ?_; wtm_at "mem") | with_reducible assumption)
local macro_rules | `(tactic| wtm_at "rd") => `(tactic| first | with_reducible assumption | (with_reducible refine' W.get ?wtW ?wtQ; (case wtW => with_reducible assumption); (case wtQ => wtm_at "mem")) | (with_reducible refine' W.rd ?wtW ?wtQ; (case wtW => with_reducible assumption); (case wtQ => wtm_at "rd")) | (with_reducible refine' Z.Same.rd ?wtW ?wtQ; (case wtW => with_reducible assumption); (case wtQ => wtm_at "rd")))
local macro_rules | `(tactic| wtm_at "sq") => `(tactic| first | with_reducible assumption | (with_reducible refine SqL.of ?_; wtm_at "rd") | (with_reducible refine SqT.of ?_; wtm_at "rd") | (with_reducible refine' W.sq ?wtW ?wtQ; (case wtW => with_reducible assumption); (case wtQ => wtm_at "sq")) | (with_reducible refine' Z.Same.sq ?wtW ?wtQ; (case wtW => with_reducible assumption); (case wtQ => wtm_at "sq")) | (with_reducible refine' W.tq ?wtW ?wtQ; (case wtW => with_reducible assumption); (case wtQ => wtm_at "sq")) | (with_reducible refine' Z.Same.tq ?wtW ?wtQ; (case wtW => with_reducible assumption); (case wtQ => wtm_at "sq")))
local macro_rules | `(tactic| wtm_at "s0") => `(tactic| first
  | with_reducible refine g_seq ?_
  | with_reducible refine g_asg ?_
  | with_reducible refine g_name ?_
  | ((with_reducible refine' g_var ?gvE ?gvH); (case gvE => exact rfl))
  | with_reducible refine g_c ?_
  | with_reducible refine g_op ?_
  | with_reducible refine r_I0 ?_
  | ((with_reducible refine r_I ?gvE ?gvH); (case gvE => wtm_at "side"))
  | with_reducible refine g_test ?_
  | with_reducible refine g_tst ?_
  | with_reducible refine g_tB ?_
  | with_reducible refine r_eqI ?_
  | with_reducible refine r_neI ?_
  | with_reducible refine g_cons ?_
  | with_reducible refine g_nil ?_
  | with_reducible refine g_cb ?_
  | with_reducible refine g_call ?_
  | with_reducible refine g_ret ?_
  | with_reducible refine g_retN ?_
  | with_reducible refine g_next ?_
  | with_reducible refine g_un ?_
  | with_reducible refine r_U ?_
  | with_reducible refine g_chain ?_
  | with_reducible refine g_and ?_
  | with_reducible refine g_or ?_
  | with_reducible refine g_not ?_
  | with_reducible refine g_andV ?_
  | with_reducible refine g_orV ?_
  | with_reducible refine g_notV ?_
  | with_reducible refine g_if ?_
  | with_reducible refine brT ?_
  | with_reducible refine brF ?_
  | with_reducible refine brNT ?_
  | with_reducible refine brNF ?_
  | with_reducible refine br_rn ?_
  | with_reducible refine br_in ?_
  | with_reducible refine br_sn ?_
  | with_reducible refine br_nn ?_
  | with_reducible refine brN_rn ?_
  | with_reducible refine brN_in ?_
  | with_reducible refine brN_sn ?_
  | with_reducible refine brN_nn ?_
  | ((with_reducible refine br_pt ?gvE ?gvH); (case gvE => first | with_reducible assumption | omega | with_reducible rfl | (simp only [List.length_cons, List.length_nil]; done) | (simp only [List.length_cons, List.length_nil]; omega) | decide))
  | ((with_reducible refine br_pf ?gvE ?gvH); (case gvE => first | with_reducible assumption | omega | (simp only [List.length_cons, List.length_nil]; done) | (simp only [List.length_cons, List.length_nil]; omega) | decide))
  | ((with_reducible refine br_nt ?gvE ?gvH); (case gvE => first | with_reducible assumption | omega | (simp only [List.length_cons, List.length_nil]; done) | (simp only [List.length_cons, List.length_nil]; omega) | decide))
  | ((with_reducible refine br_nf ?gvE ?gvH); (case gvE => first | with_reducible assumption | omega | with_reducible rfl | (simp only [List.length_cons, List.length_nil]; done) | (simp only [List.length_cons, List.length_nil]; omega) | decide))
  | with_reducible refine isi_ii ?_
  | with_reducible refine isi_ib ?_
  | with_reducible refine isi_bi ?_
  | with_reducible refine isi_bb ?_
  | with_reducible refine isi_ni ?_
  | with_reducible refine isi_si ?_
  | with_reducible refine r_tup ?_
  | with_reducible refine r_lst ?_
  | with_reducible refine g_lc ?_
  | with_reducible refine g_for ?_
  | with_reducible refine g_rng1 ?_
  | with_reducible refine g_rng2 ?_
  | with_reducible refine g_ilist ?_
  | with_reducible refine g_itup ?_
  | ((with_reducible refine r_rng1 ?gvE ?gvH); (case gvE => wtm_at "side"))
  | ((with_reducible refine r_rng2 ?gvE ?gvH); (case gvE => wtm_at "side"))
  | with_reducible refine g_sl ?_
  | with_reducible refine g_nopart ?_
  | with_reducible refine g_part ?_
  | with_reducible refine r_part ?_
  | with_reducible refine g_fld ?_
  | with_reducible refine g_sfld ?_
  | with_reducible refine g_meth ?_
  | with_reducible refine g_make ?_
  | with_reducible refine g_din ?_
  | with_reducible refine g_dni ?_
  | with_reducible refine g_dge ?_
  | with_reducible refine g_dpu ?_
  | with_reducible refine r_isNo ?_
  | with_reducible refine r_notNo ?_
  | ((with_reducible refine' r_t0 ?gvE ?gvH); (case gvE => wtm_at "sq"))
  | ((with_reducible refine' r_t1 ?gvE ?gvH); (case gvE => wtm_at "sq"))
  | ((with_reducible refine' r_t2 ?gvE ?gvH); (case gvE => wtm_at "sq"))
  | ((with_reducible refine' g_tup2 ?gvE ?gvN ?gvH); (case gvE => wtm_at "sq"); (case gvN => rfl))
  | with_reducible refine g_dropE ?_
  | ((with_reducible refine' g_aug ?gvE ?gvH); (case gvE => exact rfl))
  | with_reducible refine g_ip ?_
  | with_reducible refine g_whb ?_
  | with_reducible refine g_yes ?_
  | with_reducible refine g_brk ?_
  | with_reducible refine g_cont ?_
  | with_reducible refine r_isB ?_
  | with_reducible refine r_notB ?_
  | with_reducible refine r_eqB ?_
  | with_reducible refine r_neB ?_
  | with_reducible refine r_eqS ?_
  | with_reducible refine r_neS ?_)
local macro_rules | `(tactic| wtm_at "s") => `(tactic| first | wtm_at "s0" | with_reducible refine g_ifS ?_)
/-! as far as it goes by itself; g0: up to the next if; br: either way -/
local macro_rules | `(tactic| wtm_at "g0") => `(tactic| repeat (wtm_at "s0"))
local macro_rules | `(tactic| wtm_at "br") => `(tactic| with_reducible first | refine br ?_ ?_ | refine brN ?_ ?_ | refine brB ?_ ?_ | refine brBN ?_ ?_)
local macro_rules | `(tactic| wtm_at "go") => `(tactic| repeat (wtm_at "s"))

namespace Toy
open PySem L2 Z
def top (i : Nat) : Stmt := PySem.Challenge.pw_staywalk_k11_one_key_kept.main.body.getD i (.Pass ⟨0, 0, 0, 0⟩)
abbrev s_Bank_init : Stmt := inClass (top 12) 0
abbrev n_Bank_init : List Str := ["self", "size", "slot"]
theorem sc_Bank_init : FnScope n_Bank_init ["self", "size"] (defScope s_Bank_init) := ⟨rfl, rfl, rfl, by decide +kernel, rfl, by decide +kernel, by decide +kernel⟩
abbrev s_Slots_init : Stmt := inClass (top 13) 0
abbrev n_Slots_init : List Str := ["self"]
theorem sc_Slots_init : FnScope n_Slots_init ["self"] (defScope s_Slots_init) := ⟨rfl, rfl, rfl, by decide +kernel, rfl, by decide +kernel, by decide +kernel⟩
abbrev s_Slots_begin_row : Stmt := inClass (top 13) 4
abbrev n_Slots_begin_row : List Str := ["self", "size"]
theorem sc_Slots_begin_row : FnScope n_Slots_begin_row ["self"] (defScope s_Slots_begin_row) := ⟨rfl, rfl, rfl, by decide +kernel, rfl, by decide +kernel, by decide +kernel⟩
abbrev s_mark_of : Stmt := top 3
abbrev n_mark_of : List Str := ["key"]
theorem sc_mark_of : FnScope n_mark_of ["key"] (defScope s_mark_of) := ⟨rfl, rfl, rfl, by decide +kernel, rfl, by decide +kernel, by decide +kernel⟩
abbrev s_slot_of : Stmt := top 4
abbrev n_slot_of : List Str := ["key", "size"]
theorem sc_slot_of : FnScope n_slot_of ["key", "size"] (defScope s_slot_of) := ⟨rfl, rfl, rfl, by decide +kernel, rfl, by decide +kernel, by decide +kernel⟩
abbrev s_Bank_lot_of : Stmt := inClass (top 12) 1
abbrev n_Bank_lot_of : List Str := ["self", "key"]
theorem sc_Bank_lot_of : FnScope n_Bank_lot_of ["self", "key"] (defScope s_Bank_lot_of) := ⟨rfl, rfl, rfl, by decide +kernel, rfl, by decide +kernel, by decide +kernel⟩
abbrev s_Slots_home : Stmt := inClass (top 13) 2
abbrev n_Slots_home : List Str := ["self", "key"]
theorem sc_Slots_home : FnScope n_Slots_home ["self", "key"] (defScope s_Slots_home) := ⟨rfl, rfl, rfl, by decide +kernel, rfl, by decide +kernel, by decide +kernel⟩
abbrev s_Slots_move_next : Stmt := inClass (top 13) 3
abbrev n_Slots_move_next : List Str := ["self", "key", "value"]
theorem sc_Slots_move_next : FnScope n_Slots_move_next ["self"] (defScope s_Slots_move_next) := ⟨rfl, rfl, rfl, by decide +kernel, rfl, by decide +kernel, by decide +kernel⟩
abbrev s_NoKey_init : Stmt := inClass (top 7) 0
abbrev n_NoKey_init : List Str := ["self", "key"]
theorem sc_NoKey_init : FnScope n_NoKey_init ["self", "key"] (defScope s_NoKey_init) := ⟨rfl, rfl, rfl, by decide +kernel, rfl, by decide +kernel, by decide +kernel⟩
abbrev s_Slots_sure : Stmt := inClass (top 13) 6
abbrev n_Slots_sure : List Str := ["self", "key", "lot"]
theorem sc_Slots_sure : FnScope n_Slots_sure ["self", "key"] (defScope s_Slots_sure) := ⟨rfl, rfl, rfl, by decide +kernel, rfl, by decide +kernel, by decide +kernel⟩
abbrev s_Slots_drop : Stmt := inClass (top 13) 7
abbrev n_Slots_drop : List Str := ["self", "key"]
theorem sc_Slots_drop : FnScope n_Slots_drop ["self", "key"] (defScope s_Slots_drop) := ⟨rfl, rfl, rfl, by decide +kernel, rfl, by decide +kernel, by decide +kernel⟩
abbrev s_Slots_put : Stmt := inClass (top 13) 5
abbrev n_Slots_put : List Str := ["self", "key", "value", "lot"]
theorem sc_Slots_put : FnScope n_Slots_put ["self", "key", "value"] (defScope s_Slots_put) := ⟨rfl, rfl, rfl, by decide +kernel, rfl, by decide +kernel, by decide +kernel⟩
abbrev s__law_cell_at : Stmt := top 16
abbrev n__law_cell_at : List Str := ["_law_script", "_law_k"]
theorem sc__law_cell_at : FnScope n__law_cell_at ["_law_script", "_law_k"] (defScope s__law_cell_at) := ⟨rfl, rfl, rfl, by decide +kernel, rfl, by decide +kernel, by decide +kernel⟩
abbrev s__law_keys : Stmt := top 17
abbrev n__law_keys : List Str := ["_law_script", "_law_cell", "_law_first", "_law_step"]
theorem sc__law_keys : FnScope n__law_keys ["_law_script"] (defScope s__law_keys) := ⟨rfl, rfl, rfl, by decide +kernel, rfl, by decide +kernel, by decide +kernel⟩
abbrev s_Slots_get : Stmt := inClass (top 13) 8
abbrev n_Slots_get : List Str := ["self", "key"]
theorem sc_Slots_get : FnScope n_Slots_get ["self", "key"] (defScope s_Slots_get) := ⟨rfl, rfl, rfl, by decide +kernel, rfl, by decide +kernel, by decide +kernel⟩
abbrev s_Slots_has : Stmt := inClass (top 13) 9
abbrev n_Slots_has : List Str := ["self", "key"]
theorem sc_Slots_has : FnScope n_Slots_has ["self", "key"] (defScope s_Slots_has) := ⟨rfl, rfl, rfl, by decide +kernel, rfl, by decide +kernel, by decide +kernel⟩
abbrev s_Slots_many : Stmt := inClass (top 13) 10
abbrev n_Slots_many : List Str := ["self"]
theorem sc_Slots_many : FnScope n_Slots_many ["self"] (defScope s_Slots_many) := ⟨rfl, rfl, rfl, by decide +kernel, rfl, by decide +kernel, by decide +kernel⟩
abbrev s_Slots_moved : Stmt := inClass (top 13) 12
abbrev n_Slots_moved : List Str := ["self"]
theorem sc_Slots_moved : FnScope n_Slots_moved ["self"] (defScope s_Slots_moved) := ⟨rfl, rfl, rfl, by decide +kernel, rfl, by decide +kernel, by decide +kernel⟩
abbrev s_Slots_banks : Stmt := inClass (top 13) 1
abbrev n_Slots_banks : List Str := ["self"]
theorem sc_Slots_banks : FnScope n_Slots_banks ["self"] (defScope s_Slots_banks) := ⟨rfl, rfl, rfl, by decide +kernel, rfl, by decide +kernel, by decide +kernel⟩
abbrev s_Slots_rows : Stmt := inClass (top 13) 11
abbrev n_Slots_rows : List Str := ["self", "bank"]
theorem sc_Slots_rows : FnScope n_Slots_rows ["self"] (defScope s_Slots_rows) := ⟨rfl, rfl, rfl, by decide +kernel, rfl, by decide +kernel, by decide +kernel⟩
abbrev s__law_whole : Stmt := top 15
abbrev n__law_whole : List Str := ["_law_found"]
theorem sc__law_whole : FnScope n__law_whole ["_law_found"] (defScope s__law_whole) := ⟨rfl, rfl, rfl, by decide +kernel, rfl, by decide +kernel, by decide +kernel⟩
abbrev s__law_refused : Stmt := top 19
abbrev n__law_refused : List Str := ["_law_told", "_law_key", "_law_way", "e"]
theorem sc__law_refused : FnScope n__law_refused ["_law_told", "_law_key", "_law_way"] (defScope s__law_refused) := ⟨rfl, rfl, rfl, by decide +kernel, rfl, by decide +kernel, by decide +kernel⟩
abbrev s__law_stands : Stmt := top 20
abbrev n__law_stands : List Str := ["_law_told", "_law_kept", "_law_keys_here", "_law_key"]
theorem sc__law_stands : FnScope n__law_stands ["_law_told", "_law_kept", "_law_keys_here"] (defScope s__law_stands) := ⟨rfl, rfl, rfl, by decide +kernel, rfl, by decide +kernel, by decide +kernel⟩
abbrev s__law_value : Stmt := top 18
abbrev n__law_value : List Str := ["_law_script", "_law_k", "_law_cell"]
theorem sc__law_value : FnScope n__law_value ["_law_script", "_law_k"] (defScope s__law_value) := ⟨rfl, rfl, rfl, by decide +kernel, rfl, by decide +kernel, by decide +kernel⟩
abbrev s_law : Stmt := top 21
abbrev n_law : List Str := ["_law_script", "_law_told", "_law_keys_here", "_law_kept", "_law_k", "_law_value_here", "_law_gone"]
theorem sc_law : FnScope n_law ["_law_script"] (defScope s_law) := ⟨rfl, rfl, rfl, by decide +kernel, rfl, by decide +kernel, by decide +kernel⟩
abbrev rz_Slots_sure : Prop := True
structure Ad where
  a_Bank_init : Addr
  d_Bank_init : FuncData
  a_Slots_init : Addr
  d_Slots_init : FuncData
  a_Slots_begin_row : Addr
  d_Slots_begin_row : FuncData
  a_mark_of : Addr
  d_mark_of : FuncData
  a_slot_of : Addr
  d_slot_of : FuncData
  a_Bank_lot_of : Addr
  d_Bank_lot_of : FuncData
  a_Slots_home : Addr
  d_Slots_home : FuncData
  a_Slots_move_next : Addr
  d_Slots_move_next : FuncData
  a_NoKey_init : Addr
  d_NoKey_init : FuncData
  a_Slots_sure : Addr
  d_Slots_sure : FuncData
  a_Slots_drop : Addr
  d_Slots_drop : FuncData
  a_Slots_put : Addr
  d_Slots_put : FuncData
  a__law_cell_at : Addr
  d__law_cell_at : FuncData
  a__law_keys : Addr
  d__law_keys : FuncData
  a_Slots_get : Addr
  d_Slots_get : FuncData
  a_Slots_has : Addr
  d_Slots_has : FuncData
  a_Slots_many : Addr
  d_Slots_many : FuncData
  a_Slots_moved : Addr
  d_Slots_moved : FuncData
  a_Slots_banks : Addr
  d_Slots_banks : FuncData
  a_Slots_rows : Addr
  d_Slots_rows : FuncData
  a__law_whole : Addr
  d__law_whole : FuncData
  a__law_refused : Addr
  d__law_refused : FuncData
  a__law_stands : Addr
  d__law_stands : FuncData
  a__law_value : Addr
  d__law_value : FuncData
  a_law : Addr
  d_law : FuncData
  c_WalkError : Addr
  c_NoKey : Addr
  c_Twice : Addr
  c_Bank : Addr
  c_Slots : Addr
  t_PLACES : Tok
  t_LEAST_SIZE : Tok
  t_MOST_SIZE : Tok
structure Txt (K : PySem.W.Frag) (mg : Str → Option Value) (D : Ad) : Prop where
  F_Bank_init : Fun K "__init__" "Bank.__init__" s_Bank_init D.a_Bank_init D.d_Bank_init
  b_Bank_init : Binds K D.d_Bank_init ["self", "size"] []
  F_Slots_init : Fun K "__init__" "Slots.__init__" s_Slots_init D.a_Slots_init D.d_Slots_init
  b_Slots_init : Binds K D.d_Slots_init ["self"] []
  F_Slots_begin_row : Fun K "begin_row" "Slots.begin_row" s_Slots_begin_row D.a_Slots_begin_row D.d_Slots_begin_row
  b_Slots_begin_row : Binds K D.d_Slots_begin_row ["self"] []
  F_mark_of : Fun K "mark_of" "mark_of" s_mark_of D.a_mark_of D.d_mark_of
  b_mark_of : Binds K D.d_mark_of ["key"] []
  g_mark_of : mg "mark_of" = some (.ref D.a_mark_of)
  F_slot_of : Fun K "slot_of" "slot_of" s_slot_of D.a_slot_of D.d_slot_of
  b_slot_of : Binds K D.d_slot_of ["key", "size"] []
  g_slot_of : mg "slot_of" = some (.ref D.a_slot_of)
  F_Bank_lot_of : Fun K "lot_of" "Bank.lot_of" s_Bank_lot_of D.a_Bank_lot_of D.d_Bank_lot_of
  b_Bank_lot_of : Binds K D.d_Bank_lot_of ["self", "key"] []
  F_Slots_home : Fun K "home" "Slots.home" s_Slots_home D.a_Slots_home D.d_Slots_home
  b_Slots_home : Binds K D.d_Slots_home ["self", "key"] []
  F_Slots_move_next : Fun K "move_next" "Slots.move_next" s_Slots_move_next D.a_Slots_move_next D.d_Slots_move_next
  b_Slots_move_next : Binds K D.d_Slots_move_next ["self"] []
  F_NoKey_init : Fun K "__init__" "NoKey.__init__" s_NoKey_init D.a_NoKey_init D.d_NoKey_init
  b_NoKey_init : Binds K D.d_NoKey_init ["self", "key"] []
  F_Slots_sure : Fun K "sure" "Slots.sure" s_Slots_sure D.a_Slots_sure D.d_Slots_sure
  b_Slots_sure : Binds K D.d_Slots_sure ["self", "key"] []
  F_Slots_drop : Fun K "drop" "Slots.drop" s_Slots_drop D.a_Slots_drop D.d_Slots_drop
  b_Slots_drop : Binds K D.d_Slots_drop ["self", "key"] []
  F_Slots_put : Fun K "put" "Slots.put" s_Slots_put D.a_Slots_put D.d_Slots_put
  b_Slots_put : Binds K D.d_Slots_put ["self", "key", "value"] []
  F__law_cell_at : Fun K "_law_cell_at" "_law_cell_at" s__law_cell_at D.a__law_cell_at D.d__law_cell_at
  b__law_cell_at : Binds K D.d__law_cell_at ["_law_script", "_law_k"] []
  g__law_cell_at : mg "_law_cell_at" = some (.ref D.a__law_cell_at)
  F__law_keys : Fun K "_law_keys" "_law_keys" s__law_keys D.a__law_keys D.d__law_keys
  b__law_keys : Binds K D.d__law_keys ["_law_script"] []
  g__law_keys : mg "_law_keys" = some (.ref D.a__law_keys)
  F_Slots_get : Fun K "get" "Slots.get" s_Slots_get D.a_Slots_get D.d_Slots_get
  b_Slots_get : Binds K D.d_Slots_get ["self", "key"] []
  F_Slots_has : Fun K "has" "Slots.has" s_Slots_has D.a_Slots_has D.d_Slots_has
  b_Slots_has : Binds K D.d_Slots_has ["self", "key"] []
  F_Slots_many : Fun K "many" "Slots.many" s_Slots_many D.a_Slots_many D.d_Slots_many
  b_Slots_many : Binds K D.d_Slots_many ["self"] []
  F_Slots_moved : Fun K "moved" "Slots.moved" s_Slots_moved D.a_Slots_moved D.d_Slots_moved
  b_Slots_moved : Binds K D.d_Slots_moved ["self"] []
  F_Slots_banks : Fun K "banks" "Slots.banks" s_Slots_banks D.a_Slots_banks D.d_Slots_banks
  b_Slots_banks : Binds K D.d_Slots_banks ["self"] []
  F_Slots_rows : Fun K "rows" "Slots.rows" s_Slots_rows D.a_Slots_rows D.d_Slots_rows
  b_Slots_rows : Binds K D.d_Slots_rows ["self"] []
  F__law_whole : Fun K "_law_whole" "_law_whole" s__law_whole D.a__law_whole D.d__law_whole
  b__law_whole : Binds K D.d__law_whole ["_law_found"] []
  g__law_whole : mg "_law_whole" = some (.ref D.a__law_whole)
  F__law_refused : Fun K "_law_refused" "_law_refused" s__law_refused D.a__law_refused D.d__law_refused
  b__law_refused : Binds K D.d__law_refused ["_law_told", "_law_key", "_law_way"] []
  g__law_refused : mg "_law_refused" = some (.ref D.a__law_refused)
  F__law_stands : Fun K "_law_stands" "_law_stands" s__law_stands D.a__law_stands D.d__law_stands
  b__law_stands : Binds K D.d__law_stands ["_law_told", "_law_kept", "_law_keys_here"] []
  g__law_stands : mg "_law_stands" = some (.ref D.a__law_stands)
  F__law_value : Fun K "_law_value" "_law_value" s__law_value D.a__law_value D.d__law_value
  b__law_value : Binds K D.d__law_value ["_law_script", "_law_k"] []
  g__law_value : mg "_law_value" = some (.ref D.a__law_value)
  F_law : Fun K "law" "law" s_law D.a_law D.d_law
  b_law : Binds K D.d_law ["_law_script"] []
  g_law : mg "law" = some (.ref D.a_law)
  g_WalkError : mg "WalkError" = some (.ref D.c_WalkError)
  xc_WalkError : XC K D.c_WalkError
  g_NoKey : mg "NoKey" = some (.ref D.c_NoKey)
  xc_NoKey : XC K D.c_NoKey
  sv_NoKey : PySem.W.subIn K (.ref D.c_NoKey) (.type "ValueError") = some true
  iC_NoKey : PySem.W.findIn K (.ref D.c_NoKey) "__init__" = some (some (.ref D.a_NoKey_init))
  tI_NoKey : PySem.W.typeIn K (.ref D.a_NoKey_init) = some (.type "function")
  no_NoKey_key : PySem.W.findIn K (.ref D.c_NoKey) "key" = some none
  sb_NoKey_WalkError : PySem.W.subIn K (.ref D.c_NoKey) (.ref D.c_WalkError) = some true
  sb_NoKey_Twice : PySem.W.subIn K (.ref D.c_NoKey) (.ref D.c_Twice) = some false
  sb_NoKey_NoKey : PySem.W.subIn K (.ref D.c_NoKey) (.ref D.c_NoKey) = some true
  g_Twice : mg "Twice" = some (.ref D.c_Twice)
  xc_Twice : XC K D.c_Twice
  g_Bank : mg "Bank" = some (.ref D.c_Bank)
  cl_Bank : Cls K D.c_Bank
  mk_Bank : Mk K D.c_Bank D.a_Bank_init
  me_Bank_lot_of : Meth K D.c_Bank "lot_of" D.a_Bank_lot_of
  na_Bank_lots : NoAttr K D.c_Bank "lots"
  na_Bank_size : NoAttr K D.c_Bank "size"
  g_Slots : mg "Slots" = some (.ref D.c_Slots)
  cl_Slots : Cls K D.c_Slots
  mk_Slots : Mk K D.c_Slots D.a_Slots_init
  me_Slots_banks : Meth K D.c_Slots "banks" D.a_Slots_banks
  me_Slots_home : Meth K D.c_Slots "home" D.a_Slots_home
  me_Slots_move_next : Meth K D.c_Slots "move_next" D.a_Slots_move_next
  me_Slots_begin_row : Meth K D.c_Slots "begin_row" D.a_Slots_begin_row
  me_Slots_put : Meth K D.c_Slots "put" D.a_Slots_put
  me_Slots_sure : Meth K D.c_Slots "sure" D.a_Slots_sure
  me_Slots_drop : Meth K D.c_Slots "drop" D.a_Slots_drop
  me_Slots_get : Meth K D.c_Slots "get" D.a_Slots_get
  me_Slots_has : Meth K D.c_Slots "has" D.a_Slots_has
  me_Slots_many : Meth K D.c_Slots "many" D.a_Slots_many
  me_Slots_rows : Meth K D.c_Slots "rows" D.a_Slots_rows
  me_Slots_moved : Meth K D.c_Slots "moved" D.a_Slots_moved
  na_Slots_old : NoAttr K D.c_Slots "old"
  na_Slots_young : NoAttr K D.c_Slots "young"
  na_Slots_shifted : NoAttr K D.c_Slots "shifted"
  na_Slots_number : NoAttr K D.c_Slots "number"
  cr_WalkError : ClX.CRead K D.c_WalkError (.type "type")
  ve_WalkError : PySem.W.findCls K (.ref D.c_WalkError) (.type "type") "__init__" = some (.val (.builtin "ValueError.__init__"))
  k_PLACES : mg "PLACES" = some (.int 65536 D.t_PLACES)
  k_LEAST_SIZE : mg "LEAST_SIZE" = some (.int 4 D.t_LEAST_SIZE)
  k_MOST_SIZE : mg "MOST_SIZE" = some (.int 256 D.t_MOST_SIZE)
  n_ValueError : mg "ValueError" = none
  n_bool : mg "bool" = none
  n_int : mg "int" = none
  n_isinstance : mg "isinstance" = none
  n_len : mg "len" = none
  n_range : mg "range" = none
section
variable {P : Program} {w : World} {K : PySem.W.Frag} {mg : Str → Option Value} {base : Heap}
abbrev sp_law (K : PySem.W.Frag) (_ : Ad) : Sp := spEnd K
theorem sp_law_end {K : PySem.W.Frag} {D : Ad} {vs : List V} {H : Hp} {Q : VK} {E : XK} (h : spEnd K vs H Q E) : sp_law K D vs H Q E := h

def sp__law_cell_at (K : PySem.W.Frag) (_ : Ad) : Sp := Sp2 fun x y H Q _ => ∃ (a : Addr) (ns : List Int) (i : Nat), x = .ref a ∧ y = .int i ∧ SqL K H a (ns.map V.int) ∧ Q (.int (ns.getD i 0)) H
theorem ok__law_cell_at {D : Ad} (T : Txt K mg D) : FnOk P w K mg base (L2.CX P w) 1 D.a__law_cell_at D.d__law_cell_at ["_law_script", "_law_k"] (sp__law_cell_at K D) := by
  refine T.F__law_cell_at.okX sc__law_cell_at (fun vs H Q E h => sp2_len h) (fun cdv A outer s H vs Q E hr h => ⟨_, (pss_cons (ps_if (pt_cmpR op_lt (pv 1) (pe_callB call_lenZ (by rfl) T.n_len bt_len (pa_cons (pv 0) pa_nil)) (nomark _))
      (pss_one (ps_ret (pe_ix ix_list (pv 0) (pv 1) (fun _ _ => rfl))))
      pss_nil)
    (pss_one (ps_ret pe_int))), ?_⟩)
  obtain ⟨x0, x1, rfl, h⟩ := h
  rw [show L2.start n__law_cell_at [x0, x1] = [some x0, some x1] from rfl]
  try dsimp only [cxOf]
  obtain ⟨a, ns, i, rfl, rfl, hS, k⟩ := h
  wtm_at "go"
  refine r_lenL hS ?_
  wtm_at "go"
  rw [List.length_map]
  refine br (fun h => ?_) (fun h => ?_)
  · wtm_at "go"
    have hi : i < ns.length := by omega
    refine r_ixL (v := .int (ns.getD i 0)) hS ?_ k
    rw [atI_nat' (by omega) (by rw [List.length_map]; exact h), Int.toNat_natCast, List.getElem?_map, List.getD_eq_getElem?_getD, List.getElem?_eq_getElem hi]
    rfl
  · wtm_at "go"
    have hi : ns.length ≤ i := by omega
    rw [List.getD_eq_getElem?_getD, List.getElem?_eq_none hi] at k
    exact k


section
variable {D : Ad} {H : Hp} {Q : VK} {E : XK}
theorem c_cell {a : Addr} {ns : List Int} {i : Nat} (h : SqL K H a (ns.map V.int)) (q : Q (.int (ns.getD i 0)) H) : sp__law_cell_at K D ([.ref a, .int (i : Nat)] ++ []) H Q E := ⟨_, _, rfl, a, ns, i, rfl, rfl, h, q⟩
theorem c_cell0 {a : Addr} {ns : List Int} (h : SqL K H a (ns.map V.int)) (q : Q (.int (ns.getD 0 0)) H) : sp__law_cell_at K D ([.ref a, .int 0] ++ []) H Q E := c_cell (i := 0) h q
theorem c_cell1 {a : Addr} {ns : List Int} (h : SqL K H a (ns.map V.int)) (q : Q (.int (ns.getD 1 0)) H) : sp__law_cell_at K D ([.ref a, .int 1] ++ []) H Q E := c_cell (i := 1) h q
theorem c_cell2 {a : Addr} {ns : List Int} (h : SqL K H a (ns.map V.int)) (q : Q (.int (ns.getD 2 0)) H) : sp__law_cell_at K D ([.ref a, .int 2] ++ []) H Q E := c_cell (i := 2) h q
theorem c_cell3 {a : Addr} {ns : List Int} (h : SqL K H a (ns.map V.int)) (q : Q (.int (ns.getD 3 0)) H) : sp__law_cell_at K D ([.ref a, .int 3] ++ []) H Q E := c_cell (i := 3) h q
theorem c_cell4 {a : Addr} {ns : List Int} (h : SqL K H a (ns.map V.int)) (q : Q (.int (ns.getD 4 0)) H) : sp__law_cell_at K D ([.ref a, .int 4] ++ []) H Q E := c_cell (i := 4) h q
theorem c_cell9 {a : Addr} {ns : List Int} (h : SqL K H a (ns.map V.int)) (q : Q (.int (ns.getD 9 0)) H) : sp__law_cell_at K D ([.ref a, .int 9] ++ []) H Q E := c_cell (i := 9) h q
end
local macro_rules | `(tactic| wtm_at "s0") => `(tactic| first
  | ((with_reducible refine' c_cell0 ?gvE ?gvH); (case gvE => wtm_at "sq"))
  | ((with_reducible refine' c_cell1 ?gvE ?gvH); (case gvE => wtm_at "sq"))
  | ((with_reducible refine' c_cell2 ?gvE ?gvH); (case gvE => wtm_at "sq"))
  | ((with_reducible refine' c_cell3 ?gvE ?gvH); (case gvE => wtm_at "sq"))
  | ((with_reducible refine' c_cell4 ?gvE ?gvH); (case gvE => wtm_at "sq"))
  | ((with_reducible refine' c_cell9 ?gvE ?gvH); (case gvE => wtm_at "sq")))


/-! the program's bits -/
def sp_turned (_ : PySem.W.Frag) (_ : Ad) : Sp := Sp1 fun x H Q _ => ∃ n : Nat, x = .int n ∧ Q (.int (r16 n : Nat)) H

def sp_mark_of (_ : PySem.W.Frag) (_ : Ad) : Sp := Sp1 fun x H Q _ => ∃ n : Nat, x = .int n ∧ Q (.int (n % 65536 : Nat)) H
theorem ok_mark_of {D : Ad} (T : Txt K mg D) : FnOk P w K mg base (L2.CX P w) 1 D.a_mark_of D.d_mark_of ["key"] (sp_mark_of K D) := by
  refine T.F_mark_of.okX sc_mark_of (fun vs H Q E h => sp1_len h) (fun cdv A outer s H vs Q E hr h => ⟨_, (pss_one (ps_ret (pe_op op_and (pv 0) (pe_op op_sub (pe_glob (v := .int 65536) rfl T.k_PLACES ⟨_, rfl⟩) pe_int)))), ?_⟩)
  obtain ⟨x0, rfl, h⟩ := h
  rw [show L2.start n_mark_of [x0] = [some x0] from rfl]
  try dsimp only [cxOf]
  obtain ⟨n, rfl, k⟩ := h
  wtm_at "go"
  rw [and_mark]
  exact k


def sp_place_of (_ : PySem.W.Frag) (_ : Ad) : Sp := Sp1 fun x H Q _ => ∃ n : Nat, x = .int n ∧ Q (.int (r16 n : Nat)) H

def sp_slot_of (_ : PySem.W.Frag) (_ : Ad) : Sp := Sp2 fun x y H Q _ => ∃ n s : Nat, s ≤ 16 ∧ x = .int n ∧ y = .int (2 ^ s : Nat) ∧ Q (.int (n % 2 ^ s : Nat)) H
def sp_slot_at (_ : PySem.W.Frag) (_ : Ad) : Sp := Sp2 fun x y H Q _ => ∃ n s : Nat, s ≤ 16 ∧ x = .int n ∧ y = .int (2 ^ s : Nat) ∧ Q (.int (r16 n % 2 ^ s : Nat)) H
def sp_stretch_of (_ : PySem.W.Frag) (_ : Ad) : Sp := Sp2 fun x y H Q _ => ∃ n s : Nat, s ≤ 16 ∧ x = .int n ∧ y = .int (2 ^ s : Nat) ∧
  ∀ p, H p = none → Q (.ref p) (upd H p (.tup [.int (r16 n : Nat), .int (r16 n + 2 ^ (16 - s) : Nat)]))
def sp_halves (_ : PySem.W.Frag) (_ : Ad) : Sp := Sp2 fun x y H Q _ => ∃ n m : Int, x = .int n ∧ y = .int m ∧ ∀ p, H p = none → Q (.ref p) (upd H p (.tup [.int n, .int (n + m)]))
section
variable {D : Ad} {H : Hp} {Q : VK} {E : XK} {n s : Nat}
theorem c_turned (q : Q (.int (r16 n : Nat)) H) : sp_turned K D ([.int (n : Nat)] ++ []) H Q E := ⟨_, rfl, n, rfl, q⟩
theorem c_mark (q : Q (.int (n % 65536 : Nat)) H) : sp_mark_of K D ([.int (n : Nat)] ++ []) H Q E := ⟨_, rfl, n, rfl, q⟩
theorem c_place (q : Q (.int (r16 n : Nat)) H) : sp_place_of K D ([.int (n : Nat)] ++ []) H Q E := ⟨_, rfl, n, rfl, q⟩
theorem c_slot_of (hs : s ≤ 16) (q : Q (.int (n % 2 ^ s : Nat)) H) : sp_slot_of K D ([.int (n : Nat), .int (2 ^ s : Nat)] ++ []) H Q E := ⟨_, _, rfl, n, s, hs, rfl, rfl, q⟩
theorem c_slot_at (hs : s ≤ 16) (q : Q (.int (r16 n % 2 ^ s : Nat)) H) : sp_slot_at K D ([.int (n : Nat), .int (2 ^ s : Nat)] ++ []) H Q E := ⟨_, _, rfl, n, s, hs, rfl, rfl, q⟩
theorem c_stretch {B : Hp} {L : List Cell} (w : W B L H) (hs : s ≤ 16) (q : ∀ p B' H', H p = none → Same B B' → B' p = some (.tup [.int (r16 n : Nat), .int (r16 n + 2 ^ (16 - s) : Nat)]) → W B' L H' → Q (.ref p) H') :
    sp_stretch_of K D ([.int (n : Nat), .int (2 ^ s : Nat)] ++ []) H Q E := ⟨_, _, rfl, n, s, hs, rfl, rfl, fun p hp => q p _ _ hp (same_new (w.freeB hp)) upd_same (w.newB hp _)⟩
theorem c_halves {B : Hp} {L : List Cell} {n m : Int} (w : W B L H) (q : ∀ p B' H', H p = none → Same B B' → B' p = some (.tup [.int n, .int (n + m)]) → W B' L H' → Q (.ref p) H') :
    sp_halves K D ([.int n, .int m] ++ []) H Q E := ⟨_, _, rfl, n, m, rfl, rfl, fun p hp => q p _ _ hp (same_new (w.freeB hp)) upd_same (w.newB hp _)⟩
end
local macro_rules | `(tactic| wtm_at "s0") => `(tactic| first
  | with_reducible refine c_turned ?_
  | with_reducible refine c_mark ?_
  | with_reducible refine c_place ?_
  | ((with_reducible refine c_slot_of ?gvE ?gvH); (case gvE => first | assumption | omega))
  | ((with_reducible refine c_slot_at ?gvE ?gvH); (case gvE => first | assumption | omega)))

theorem ok_slot_of {D : Ad} (T : Txt K mg D) : FnOk P w K mg base (L2.CX P w) 2 D.a_slot_of D.d_slot_of ["key", "size"] (sp_slot_of K D) := by
  refine T.F_slot_of.okX sc_slot_of (fun vs H Q E h => sp2_len h) (fun cdv A outer s H vs Q E hr h => ⟨_, (pss_one (ps_ret (pe_op op_and (pe_call (ok_mark_of T) (hr.mono (by decide)) rfl T.g_mark_of T.F_mark_of.kp T.b_mark_of .nil pX (pa_cons (pv 0) pa_nil)) (pe_op op_sub (pv 1) pe_int)))), ?_⟩)
  obtain ⟨x0, x1, rfl, h⟩ := h
  rw [show L2.start n_slot_of [x0, x1] = [some x0, some x1] from rfl]
  try dsimp only [cxOf]
  obtain ⟨n, s, hs, rfl, rfl, k⟩ := h
  wtm_at "go"
  rw [and_pow, mod16 n hs]
  exact k


/-! NoKey: raised with its key -/
local macro_rules | `(tactic| wtm_at "s0") => `(tactic| first | with_reducible refine g_raiseO ?_ | with_reducible refine g_vei ?_ | with_reducible refine g_ost ?_ | with_reducible refine g_tryAs ?_ | with_reducible refine g_xfA ?_ | with_reducible refine g_callW ?_ | with_reducible refine g_methW ?_)
abbrev sp_NoKey_init (_ : PySem.W.Frag) (D : Ad) : Sp := spX1 D.c_NoKey "key"
abbrev cNK (D : Ad) : Addr := D.c_NoKey
theorem ok_NoKey_init {D : Ad} (T : Txt K mg D) : FnOk P w K mg base (L2.CX P w) 1 D.a_NoKey_init D.d_NoKey_init ["self", "key"] (sp_NoKey_init K D) := by
  refine T.F_NoKey_init.okX sc_NoKey_init (fun vs H Q E h => sp2_len h) (fun cdv A outer s H vs Q E hr h => ⟨_, (pss_cons (ps_expr (pe_weinit rfl T.g_WalkError T.cr_WalkError T.ve_WalkError (pa_cons (pv 0) (pa_cons pe_str pa_nil))))
    (pss_one (ps_ost (pv 0) (pv 1)))), ?_⟩)
  obtain ⟨x0, x1, rfl, h⟩ := h
  rw [show L2.start n_NoKey_init [x0, x1] = [some x0, some x1] from rfl]
  try dsimp only [cxOf]
  obtain ⟨a, rfl, ha, k⟩ := h
  wtm_at "go"
  refine r_vei T.xc_NoKey.ox (by simp) ha ?_
  wtm_at "go"
  refine r_ost T.xc_NoKey.ox T.no_NoKey_key ha fun dx h1 h2 => ?_
  wtm_at "go"
  exact k dx h1 h2


/-! the program's rows of slots: the Bank instances stay, the lists of lots, the lots and the Slots are owned -/
def BkB (D : Ad) (B : Hp) (b : Bk) : Prop := ∃ dx, B b.bo = some (.ins D.c_Bank dx [("size", .int (b.ds.length : Nat)), ("lots", .ref b.la)])
theorem BkB.mono {D : Ad} {B B' : Hp} {b : Bk} (h : BkB D B b) (s : Same B B') : BkB D B' b := h.imp fun _ e => s _ _ e
def laC (b : Bk) : Cell := (b.la, .lst (rfL b.ds))
def yC : Option Bk → List Cell
  | none => []
  | some b => [laC b]
def yV : Option Bk → V
  | none => .non
  | some b => .ref b.bo
def slO (D : Ad) (dx : Addr) (x : Sl) (m : Int) : HO := .ins D.c_Slots dx [("old", .ref x.o.bo), ("young", yV x.y), ("shifted", .int (x.s : Nat)), ("number", .int m)]
def slC (D : Ad) (al dx : Addr) (x : Sl) (m : Int) : List Cell := (al, slO D dx x m) :: laC x.o :: (yC x.y ++ x.all.map lotC)
structure SlW (D : Ad) (B H : Hp) (L : List Cell) (al : Addr) (x : Sl) (m : Int) : Prop where
  ob : BkB D B x.o
  yb : ∀ b, x.y = some b → BkB D B b
  w : ∃ dx, W B (slC D al dx x m ++ L) H
def sp_Bank_init (K : PySem.W.Frag) (D : Ad) : Sp := Sp2 fun x y H Q _ => ∃ (a dx : Addr) (e : Nat) (B : Hp) (L : List Cell), x = .ref a ∧ y = .int (2 ^ e : Nat) ∧ e ≤ 8 ∧ W B ((a, .ins D.c_Bank dx []) :: L) H ∧
  ∀ (b : Bk) (B' H' : Hp), b.bo = a → b.ds.length = 2 ^ e → (∀ z ∈ b.ds, z.2 = []) → Same B B' → BkB D B' b → W B' (laC b :: (b.ds.map lotC ++ L)) H' → Q .non H'
theorem ok_Bank_init {D : Ad} (T : Txt K mg D) : FnOk P w K mg base (L2.CX P w) 1 D.a_Bank_init D.d_Bank_init ["self", "size"] (sp_Bank_init K D) := by
  refine T.F_Bank_init.okX sc_Bank_init (fun vs H Q E h => sp2_len h) (fun cdv A outer s H vs Q E hr h => ⟨_, (pss_cons (ps_fld (pv 0) (pv 1) rfl)
    (pss_one (ps_fld (pv 0) (pe_lc (own := [("slot", 2)]) (g := gName 2) rfl sc_Bank_init.nd (pi_range1 (by rfl) T.n_range (pa_cons (pv 1) pa_nil)) (blkOk_by (own := [("slot", 2)]) (N := n_Bank_init) (sc := defScope s_Bank_init) (by decide +kernel)) (fun _ _ _ _ _ => (pg_name (i := 2) sc_Bank_init.nd rfl (Or.inl rfl))) (fun _ _ _ _ _ => pts_nil) (fun _ _ _ _ _ => pe_dnewK)) rfl))), ?_⟩)
  obtain ⟨x0, x1, rfl, h⟩ := h
  rw [show L2.start n_Bank_init [x0, x1] = [some x0, some x1, none] from rfl]
  try dsimp only [cxOf]
  obtain ⟨a, dx, e, B, L, rfl, rfl, he, w, k⟩ := h
  have hpe : 2 ^ e ≤ 256 := Nat.pow_le_pow_right (n := 2) (by decide) he
  wtm_at "go"
  refine r_sfld (w.get (List.mem_cons_self ..)) T.cl_Bank T.na_Bank_size (by simp) ?_
  have w := W.put0 w (.ins D.c_Bank dx (putF "size" (.int (2 ^ e : Nat)) []))
  generalize hz : 2 ^ e = z at *
  wtm_at "go"
  intro D1 hD1
  refine LC.rangeA w hD1 (szlt (by omega)) (fun i B' A acc => B' = B ∧ ∃ ds : Lots, ds.length = i ∧ (∀ z ∈ ds, z.2 = []) ∧ A.Perm (ds.map lotC) ∧ acc = rfL ds) ⟨rfl, [], rfl, nofun, .refl _, rfl⟩ ?_ ?_
  · rintro i B' A acc H2 Nx hi s2 w ⟨rfl, ds, hl, he, hA, rfl⟩ hl1 hl2 hN
    wtm_at "go"
    refine ⟨rfl, ?_⟩
    wtm_at "go"
    refine o_dnew w fun p H3 hp w => ?_
    have w := w.perm (List.Perm.swap _ _ _)
    refine r_acc w hl2 fun H4 w4 => ?_
    refine hN _ ((p, .dK []) :: A) _ _ (same_refl _) w4 ⟨rfl, ds ++ [(p, [])], by simp; omega, fun z hz => ?_, ?_, ?_⟩ (by simp at hl1 ⊢; omega)
    · rcases List.mem_append.mp hz with hz | hz
      · exact he z hz
      · have : z = (p, []) := by simpa using hz
        rw [this]
    · rw [List.map_append]
      exact (hA.cons _).trans (List.perm_append_singleton _ _).symm
    · unfold rfL
      rw [List.map_append]
      rfl
  rintro B' A acc H2 s2 w ⟨rfl, ds, hl, he, hA, rfl⟩ hl1
  have w := w.perm ((hA.append_right _).cons _)
  wtm_at "go"
  refine r_sfld (w.get (List.mem_cons_of_mem _ (List.mem_append_right _ (List.mem_cons_self ..)))) T.cl_Bank T.na_Bank_lots (by simp [putF]) ?_
  have w := W.put (L := (D1, .lst (rfL ds)) :: ds.map lotC) w (.ins D.c_Bank dx (putF "lots" (.ref D1) (putF "size" (.int (z : Nat)) [])))
  have w := w.perm (List.perm_middle (l₁ := (D1, HO.lst (rfL ds)) :: ds.map lotC))
  have h0 := w.out _ (List.mem_cons_self ..)
  have hl : ds.length = z := by rw [hl]; omega
  wtm_at "go"
  exact k ⟨a, D1, ds⟩ _ _ rfl hl he (same_new h0) ⟨dx, by rw [upd_same]; show some _ = some _; rw [hl]; rfl⟩ w.give

section
variable {D : Ad} {B B' H : Hp} {L A : List Cell} {al : Addr} {x : Sl} {m : Int} {d : Addr} {l : Kv} {i : Nat} {b : Bk}
theorem SlW.ob_ (h : SlW D B H L al x m) : ∃ dx, H al = some (slO D dx x m) := h.w.imp fun _ w => w.get (List.mem_cons_self ..)
theorem SlW.la (h : SlW D B H L al x m) : H x.o.la = some (.lst (rfL x.o.ds)) := by
  obtain ⟨_, w⟩ := h.w
  exact w.get (List.mem_cons_of_mem _ (List.mem_cons_self ..))
theorem SlW.ly (h : SlW D B H L al x m) (e : x.y = some b) : H b.la = some (.lst (rfL b.ds)) := by
  obtain ⟨_, w⟩ := h.w
  refine w.get (List.mem_append_left _ (List.mem_cons_of_mem _ (List.mem_cons_of_mem _ (List.mem_append_left _ ?_))))
  rw [e]
  exact List.mem_cons_self ..
theorem SlW.bo (h : SlW D B H L al x m) : BkB D H x.o := by
  obtain ⟨_, w⟩ := h.w
  exact h.ob.imp fun _ e => w.rd e
theorem SlW.by_ (h : SlW D B H L al x m) (e : x.y = some b) : BkB D H b := by
  obtain ⟨_, w⟩ := h.w
  exact (h.yb b e).imp fun _ e => w.rd e
theorem SlW.lot (h : SlW D B H L al x m) (e : x.all[i]? = some (d, l)) : H d = some (.dK (dkP l)) := by
  obtain ⟨dx, w⟩ := h.w
  refine W.lotG (B := B) (A := (al, slO D dx x m) :: laC x.o :: yC x.y) (R := L) ?_ e
  simpa [slC, List.append_assoc] using w
theorem SlW.put (h : SlW D B H L al x m) (e : x.all[i]? = some (d, l)) (l' : Kv) : SlW D B (upd H d (.dK (dkP l'))) L al (x.set i (d, l')) m := by
  obtain ⟨dx, w⟩ := h.w
  have w2 : W B (((al, slO D dx x m) :: laC x.o :: yC x.y) ++ (x.all.map lotC ++ L)) H := by simpa [slC, List.append_assoc] using w
  have w3 := W.lot w2 e l'
  rw [← Sl.set_all] at w3
  have hd : ∀ b : Bk, (∀ a ∈ [b], True) := fun _ _ _ => trivial
  unfold Sl.set at w3 ⊢
  by_cases c : i < x.o.ds.length
  · rw [if_pos c] at w3 ⊢
    have e1 : x.o.ds[i]? = some (d, l) := by
      unfold Sl.all at e
      rwa [List.getElem?_append_left c] at e
    refine ⟨?_, h.yb, dx, ?_⟩
    · obtain ⟨dx2, e2⟩ := h.ob
      exact ⟨dx2, by show B x.o.bo = some (.ins _ _ [("size", .int ((x.o.ds.set i (d, l')).length : Nat)), _]); rw [List.length_set]; exact e2⟩
    · have e3 : laC (x.o.set i (d, l')) = laC x.o := by
        show (x.o.la, HO.lst (rfL (x.o.ds.set i (d, l')))) = (x.o.la, HO.lst (rfL x.o.ds))
        rw [rfL_set e1]
      show W B (((al, slO D dx x m) :: laC (x.o.set i (d, l')) :: (yC x.y ++ _)) ++ L) _
      rw [e3]
      simpa [List.append_assoc] using w3
  · rw [if_neg c] at w3 ⊢
    cases ey : x.y with
    | none =>
      unfold Sl.all Sl.yd at e
      rw [ey] at e
      have := (List.getElem?_eq_some_iff.mp e).1
      rw [List.append_nil] at this
      exact absurd this c
    | some b =>
      have e1 : b.ds[i - x.o.ds.length]? = some (d, l) := by
        unfold Sl.all Sl.yd at e
        rw [ey, List.getElem?_append_right (by omega)] at e
        exact e
      rw [ey] at w3
      refine ⟨h.ob, fun b' eb => ?_, dx, ?_⟩
      · cases eb
        obtain ⟨dx2, e2⟩ := h.yb b ey
        exact ⟨dx2, by show B b.bo = some (.ins _ _ [("size", .int ((b.ds.set _ (d, l')).length : Nat)), _]); rw [List.length_set]; exact e2⟩
      · have e3 : laC (b.set (i - x.o.ds.length) (d, l')) = laC b := by
          show (b.la, HO.lst (rfL (b.ds.set _ (d, l')))) = (b.la, HO.lst (rfL b.ds))
          rw [rfL_set e1]
        have e4 : slO D dx x m = slO D dx { x with y := some (b.set (i - x.o.ds.length) (d, l')) } m := by
          unfold slO
          rw [ey]
          rfl
        rw [e4] at w3
        show W B (((al, slO D dx { x with y := some (b.set (i - x.o.ds.length) (d, l')) } m) :: laC x.o :: (laC (b.set (i - x.o.ds.length) (d, l')) :: _)) ++ L) _
        rw [e3]
        simpa [List.append_assoc, yC] using w3
end
def sp_Bank_lot_of (K : PySem.W.Frag) (D : Ad) : Sp := Sp2 fun x y H Q _ => ∃ (b : Bk) (k : Int) (d : Addr) (l : Kv), x = .ref b.bo ∧ y = .int k ∧ 0 ≤ k ∧ BkB D H b ∧ H b.la = some (.lst (rfL b.ds)) ∧ (∃ e, 2 ≤ e ∧ e ≤ 8 ∧ b.ds.length = 2 ^ e) ∧ b.ds[k.toNat % b.ds.length]? = some (d, l) ∧ Q (.ref d) H
theorem ok_Bank_lot_of {D : Ad} (T : Txt K mg D) : FnOk P w K mg base (L2.CX P w) 3 D.a_Bank_lot_of D.d_Bank_lot_of ["self", "key"] (sp_Bank_lot_of K D) := by
  refine T.F_Bank_lot_of.okX sc_Bank_lot_of (fun vs H Q E h => sp2_len h) (fun cdv A outer s H vs Q E hr h => ⟨_, (pss_one (ps_ret (pe_ix ix_list (pe_fld (pv 0) rfl) (pe_call (ok_slot_of T) (hr.mono (by decide)) rfl T.g_slot_of T.F_slot_of.kp T.b_slot_of .nil pX (pa_cons (pv 1) (pa_cons (pe_fld (pv 0) rfl) pa_nil))) (fun _ _ => rfl)))), ?_⟩)
  obtain ⟨x0, x1, rfl, h⟩ := h
  rw [show L2.start n_Bank_lot_of [x0, x1] = [some x0, some x1] from rfl]
  try dsimp only [cxOf]
  obtain ⟨b, k, d, l, rfl, rfl, h0, ⟨dx, hb⟩, hl, ⟨e, e2, e8, he⟩, hd, q⟩ := h
  obtain ⟨n, rfl⟩ := Int.eq_ofNat_of_zero_le h0
  rw [Int.toNat_natCast] at hd
  have e16 : e ≤ 16 := by omega
  wtm_at "go"
  refine r_fld hb T.cl_Bank T.na_Bank_lots rfl ?_
  wtm_at "go"
  refine r_fld hb T.cl_Bank T.na_Bank_size rfl ?_
  rw [he] at hd ⊢
  wtm_at "go"
  refine r_ixL (SqL.of hl) ?_ q
  have hi := (List.getElem?_eq_some_iff.mp hd).1
  rw [atI_nat' (by omega) (by rw [rfL_len]; omega), Int.toNat_natCast]
  exact rfL_at hd

theorem putF_le (f : Str) (v : V) : ∀ fs : List (Str × V), (putF f v fs).length ≤ fs.length + 1
  | [] => Nat.le_refl 1
  | (g, x) :: r => by
    have := putF_le f v r
    unfold putF
    split
    · simp
    · simp; omega
theorem plS {f : Str} {v : V} {fs : List (Str × V)} {n : Nat} (h : fs.length ≤ n) : (putF f v fs).length ≤ n + 1 := Nat.le_trans (putF_le f v fs) (by omega)
theorem plT {fs : List (Str × V)} (n : Nat) (h : fs.length ≤ n) (hn : n < 1000) : fs.length < 1000 := by omega
theorem mk_bank {D : Ad} {B H : Hp} {L : List Cell} {Q : VK} {E : XK} {e : Nat} {v : V} (hv : v = .int (2 ^ e : Nat)) (w : W B L H) (he : e ≤ 8) (q : ∀ (b : Bk) (B' H' : Hp), b.ds.length = 2 ^ e → (∀ z ∈ b.ds, z.2 = []) → Same B B' → BkB D B' b → W B' (laC b :: (b.ds.map lotC ++ L)) H' → Q (.ref b.bo) H') : rMk D.c_Bank (sp_Bank_init K D) [] E Q [v] H := by
  intro x dx hx hdx hne
  have w1 := w.newB hdx (.own x)
  have w2 := w1.newL (p := x) (by rw [upd_ne (Ne.symm hne)]; exact hx) (.ins D.c_Bank dx [])
  exact ⟨_, _, rfl, x, dx, e, _, L, rfl, hv, he, w2, fun b B' H' hb hl hz s i w3 => ⟨rfl, by have := q b B' H' hl hz (same_trans (same_new (w.freeB hdx)) s) i w3; rwa [hb] at this⟩⟩
def sp_Slots_init (K : PySem.W.Frag) (D : Ad) : Sp := Sp1 fun x H Q _ => ∃ (a dx : Addr) (B : Hp) (L : List Cell), x = .ref a ∧ W B ((a, .ins D.c_Slots dx []) :: L) H ∧
  ∀ (x : Sl) (B' H' : Hp), Same B B' → x.y = none → x.s = 0 → x.o.ds.length = 4 → (∀ z ∈ x.o.ds, z.2 = []) → SlW D B' H' L a x 0 → Q .non H'
theorem ok_Slots_init {D : Ad} (T : Txt K mg D) : FnOk P w K mg base (L2.CX P w) 3 D.a_Slots_init D.d_Slots_init ["self"] (sp_Slots_init K D) := by
  refine T.F_Slots_init.okX sc_Slots_init (fun vs H Q E h => sp1_len h) (fun cdv A outer s H vs Q E hr h => ⟨_, (pss_cons (ps_fld (pv 0) (pe_make T.mk_Bank (ok_Bank_init T) (hr.mono (by decide)) rfl T.g_Bank T.b_Bank_init .nil pX (pa_cons (pe_glob (v := .int 4) rfl T.k_LEAST_SIZE ⟨_, rfl⟩) pa_nil)) rfl)
    (pss_cons (ps_fld (pv 0) pe_non rfl)
    (pss_cons (ps_fld (pv 0) pe_int rfl)
    (pss_one (ps_fld (pv 0) pe_int rfl))))), ?_⟩)
  obtain ⟨x0, rfl, h⟩ := h
  rw [show L2.start n_Slots_init [x0] = [some x0] from rfl]
  try dsimp only [cxOf]
  obtain ⟨a, dx, B, L, rfl, w, k⟩ := h
  wtm_at "go"
  refine mk_bank (e := 2) rfl w (by decide) fun b B1 H1 hl hz s1 ib w => ?_
  wtm_at "go"
  have w := w.perm (List.perm_middle (l₁ := laC b :: b.ds.map lotC))
  refine r_sfld (w.get (List.mem_cons_self ..)) T.cl_Slots T.na_Slots_old (by simp) ?_
  have w := W.put0 w (.ins D.c_Slots dx (putF "old" (.ref b.bo) []))
  wtm_at "go"
  refine r_sfld (w.get (List.mem_cons_self ..)) T.cl_Slots T.na_Slots_young (plT 1 (plS (Nat.le_refl 0)) (by decide)) ?_
  have w := W.put0 w (.ins D.c_Slots dx (putF "young" .non (putF "old" (.ref b.bo) [])))
  wtm_at "go"
  refine r_sfld (w.get (List.mem_cons_self ..)) T.cl_Slots T.na_Slots_shifted (plT 2 (plS (plS (Nat.le_refl 0))) (by decide)) ?_
  have w := W.put0 w (.ins D.c_Slots dx (putF "shifted" (.int 0) (putF "young" .non (putF "old" (.ref b.bo) []))))
  wtm_at "go"
  refine r_sfld (w.get (List.mem_cons_self ..)) T.cl_Slots T.na_Slots_number (plT 3 (plS (plS (plS (Nat.le_refl 0)))) (by decide)) ?_
  have w := W.put0 w (.ins D.c_Slots dx (putF "number" (.int 0) (putF "shifted" (.int 0) (putF "young" .non (putF "old" (.ref b.bo) [])))))
  wtm_at "go"
  refine k ⟨b, none, 0⟩ B1 _ s1 rfl rfl hl hz ⟨ib, nofun, dx, ?_⟩
  show W B1 ((a, _) :: laC b :: ((b.ds ++ []).map lotC) ++ L) _
  rw [List.append_nil]
  exact w

def sp_Slots_home (K : PySem.W.Frag) (D : Ad) : Sp := Sp2 fun x y H Q _ => ∃ (al : Addr) (s : Sl) (m : Int) (kv : Kv) (k : Int) (B : Hp) (L : List Cell), x = .ref al ∧ y = .int k ∧ 0 ≤ k ∧ SlW D B H L al s m ∧ SlI s kv ∧ ∀ d l, s.all[s.hi k]? = some (d, l) → Q (.ref d) H
theorem ok_Slots_home {D : Ad} (T : Txt K mg D) : FnOk P w K mg base (L2.CX P w) 4 D.a_Slots_home D.d_Slots_home ["self", "key"] (sp_Slots_home K D) := by
  refine T.F_Slots_home.okX sc_Slots_home (fun vs H Q E h => sp2_len h) (fun cdv A outer s H vs Q E hr h => ⟨_, (pss_cons (ps_if (PW.pt (pw_and (pt_cmpR op_notNo (pe_fld (pv 0) rfl) pe_non (nomark _)) (pw_and1 (pt_cmpR op_lt (pe_call (ok_slot_of T) (hr.mono (by decide)) rfl T.g_slot_of T.F_slot_of.kp T.b_slot_of .nil pX (pa_cons (pv 1) (pa_cons (pe_fld (pe_fld (pv 0) rfl) rfl) pa_nil))) (pe_fld (pv 0) rfl) (nomark _)))))
      (pss_one (ps_ret (pe_meth (pe_fld (pv 0) rfl) T.cl_Bank T.me_Bank_lot_of (ok_Bank_lot_of T) (hr.mono (by decide)) T.b_Bank_lot_of .nil pX (pa_cons (pv 1) pa_nil))))
      pss_nil)
    (pss_one (ps_ret (pe_meth (pe_fld (pv 0) rfl) T.cl_Bank T.me_Bank_lot_of (ok_Bank_lot_of T) (hr.mono (by decide)) T.b_Bank_lot_of .nil pX (pa_cons (pv 1) pa_nil))))), ?_⟩)
  obtain ⟨x0, x1, rfl, h⟩ := h
  rw [show L2.start n_Slots_home [x0, x1] = [some x0, some x1] from rfl]
  try dsimp only [cxOf]
  obtain ⟨al, s, m, kv, k, B, L, rfl, rfl, h0, sw, si, q⟩ := h
  obtain ⟨dx, ho⟩ := sw.ob_
  unfold slO at ho
  obtain ⟨d, l, ed⟩ := si.at k
  have q1 := q d l ed
  clear q
  obtain ⟨e, e2, e8, he⟩ := si.ze
  have e16 : e ≤ 16 := by omega
  obtain ⟨dxo, hbo⟩ := sw.bo
  have hla := sw.la
  wtm_at "go"
  refine r_fld ho T.cl_Slots T.na_Slots_young rfl ?_
  cases ey : s.y with
  | none =>
    dsimp only [yV]
    wtm_at "go"
    refine r_fld ho T.cl_Slots T.na_Slots_old rfl ?_
    wtm_at "go"
    refine r_meth hbo rfl ?_
    wtm_at "go"
    refine ⟨_, _, rfl, s.o, k, d, l, rfl, rfl, h0, ⟨dxo, hbo⟩, hla, si.ze, ?_, q1⟩
    unfold Sl.all Sl.yd Sl.hi at ed
    rw [ey] at ed
    rwa [List.append_nil] at ed
  | some b =>
    obtain ⟨dxy, hby⟩ := sw.by_ ey
    have hly := sw.ly ey
    obtain ⟨hsz, hbe⟩ := si.ye b ey
    obtain ⟨n, rfl⟩ := Int.eq_ofNat_of_zero_le h0
    dsimp only [yV]
    wtm_at "go"
    refine r_fld ho T.cl_Slots T.na_Slots_old rfl ?_
    wtm_at "go"
    refine r_fld hbo T.cl_Bank T.na_Bank_size rfl ?_
    rw [he]
    wtm_at "go"
    refine r_fld ho T.cl_Slots T.na_Slots_shifted rfl ?_
    rw [← he]
    unfold Sl.all Sl.yd Sl.hi at ed
    rw [ey, Int.toNat_natCast] at ed
    dsimp only at ed
    wtm_at "go"
    wtm_at "br"
    · intro c
      have c : n % s.o.ds.length < s.s := by omega
      rw [if_pos c, List.getElem?_append_right (by omega), Nat.add_sub_cancel_left] at ed
      wtm_at "go"
      refine r_fld ho T.cl_Slots T.na_Slots_young (by rw [ey]; rfl) ?_
      wtm_at "go"
      refine r_meth hby rfl ?_
      wtm_at "go"
      exact ⟨_, _, rfl, b, n, d, l, rfl, rfl, h0, ⟨dxy, hby⟩, hly, hbe, by rw [Int.toNat_natCast]; exact ed, q1⟩
    · intro c
      have c : ¬ n % s.o.ds.length < s.s := by omega
      have hz := Nat.mod_lt n (show 0 < s.o.ds.length by have := (pow_sz si.ze).1; omega)
      rw [if_neg c, List.getElem?_append_left hz] at ed
      wtm_at "go"
      refine r_fld ho T.cl_Slots T.na_Slots_old rfl ?_
      wtm_at "go"
      refine r_meth hbo rfl ?_
      wtm_at "go"
      exact ⟨_, _, rfl, s.o, n, d, l, rfl, rfl, h0, ⟨dxo, hbo⟩, hla, si.ze, by rw [Int.toNat_natCast]; exact ed, q1⟩

section
variable {D : Ad} {B B' H H' : Hp} {L : List Cell} {al : Addr} {x : Sl} {m : Int}
theorem SlW.mv (h : SlW D B H L al x m) (s : Same B B') (w : ∀ dx, W B (slC D al dx x m ++ L) H → W B' (slC D al dx x m ++ L) H') : SlW D B' H' L al x m :=
  ⟨h.ob.mono s, fun b e => (h.yb b e).mono s, h.w.imp fun dx => w dx⟩
theorem SlW.at_ (h : SlW D B H L al x m) : ∃ A, W B A H ∧ ∀ B' H', Same B B' → W B' A H' → SlW D B' H' L al x m := by
  obtain ⟨dx, w⟩ := h.w
  exact ⟨_, w, fun B' H' s w' => ⟨h.ob.mono s, fun b e => (h.yb b e).mono s, dx, w'⟩⟩
end
def sp_Slots_sure (K : PySem.W.Frag) (D : Ad) : Sp := Sp2 fun x y H Q E => ∃ (al : Addr) (s : Sl) (m : Int) (kv : Kv) (k : Int) (B : Hp) (L : List Cell), x = .ref al ∧ y = .int k ∧ 0 ≤ k ∧ SlW D B H L al s m ∧ SlI s kv ∧
  ((k ∈ ksP kv ∧ ∀ d l, s.all[s.hi k]? = some (d, l) → Q (.ref d) H) ∨ (rz_Slots_sure ∧ k ∉ ksP kv ∧ ∀ d B' H', Same B B' → B' d = some (.xd [("key", .int k)]) → SlW D B' H' L al s m → E (.ref (cNK D)) (some d) H'))
theorem ok_Slots_sure {D : Ad} (T : Txt K mg D) : FnOk P w K mg base (L2.CX P w) 5 D.a_Slots_sure D.d_Slots_sure ["self", "key"] (sp_Slots_sure K D) := by
  refine T.F_Slots_sure.okX sc_Slots_sure (fun vs H Q E h => sp2_len h) (fun cdv A outer s H vs Q E hr h => ⟨_, (pss_cons (ps_set (i := 2) sc_Slots_sure.nd rfl (Or.inl rfl) (pe_meth (pv 0) T.cl_Slots T.me_Slots_home (ok_Slots_home T) (hr.mono (by decide)) T.b_Slots_home .nil pX (pa_cons (pv 1) pa_nil)))
    (pss_cons (ps_if (pt_cmp (pc_dnotin (hu_of hr) (pv 1) (pv 2)))
      (pss_one (ps_raiseO rfl (takes_of rfl rfl rfl rfl) T.xc_NoKey T.iC_NoKey T.tI_NoKey (ok_NoKey_init T) (hr.mono (by decide)) T.b_NoKey_init .nil passF rfl T.g_NoKey (pa_cons (pv 1) pa_nil)))
      pss_nil)
    (pss_one (ps_ret (pv 2))))), ?_⟩)
  obtain ⟨x0, x1, rfl, h⟩ := h
  rw [show L2.start n_Slots_sure [x0, x1] = [some x0, some x1, none] from rfl]
  try dsimp only [cxOf]
  obtain ⟨al, s, m, kv, k, B, L, rfl, rfl, h0, sw, si, hq⟩ := h
  obtain ⟨dx, ho⟩ := sw.ob_
  wtm_at "go"
  refine r_meth ho rfl ?_
  wtm_at "go"
  refine ⟨_, _, rfl, al, s, m, kv, k, B, L, rfl, rfl, h0, sw, si, fun d l ed => ?_⟩
  have hd := sw.lot ed
  obtain ⟨n1, m1, g1, _⟩ := si.home ed
  wtm_at "go"
  refine r_dni hd ?_
  rw [(dkP_ks l).isSome]
  rcases hq with ⟨hk, q⟩ | ⟨hz, hk, q⟩
  · rw [decide_eq_true (m1.mpr hk)]
    wtm_at "go"
    exact q d l ed
  · rw [decide_eq_false (fun z => hk (m1.mp z))]
    wtm_at "go"
    obtain ⟨A, w, back⟩ := sw.at_
    refine r_raiseX1 w fun d B' H' s i w => ?_
    exact q d B' H' s i (back B' H' s w)

def sp_Slots_has (K : PySem.W.Frag) (D : Ad) : Sp := Sp2 fun x y H Q _ => ∃ (al : Addr) (s : Sl) (m : Int) (kv : Kv) (k : Int) (B : Hp) (L : List Cell), x = .ref al ∧ y = .int k ∧ 0 ≤ k ∧ SlW D B H L al s m ∧ SlI s kv ∧ Q (.bl (decide (k ∈ ksP kv))) H
theorem ok_Slots_has {D : Ad} (T : Txt K mg D) : FnOk P w K mg base (L2.CX P w) 5 D.a_Slots_has D.d_Slots_has ["self", "key"] (sp_Slots_has K D) := by
  refine T.F_Slots_has.okX sc_Slots_has (fun vs H Q E h => sp2_len h) (fun cdv A outer s H vs Q E hr h => ⟨_, (pss_one (ps_ret (pe_cmp (pc_din (hu_of hr) (pv 1) (pe_meth (pv 0) T.cl_Slots T.me_Slots_home (ok_Slots_home T) (hr.mono (by decide)) T.b_Slots_home .nil pX (pa_cons (pv 1) pa_nil))) rfl))), ?_⟩)
  obtain ⟨x0, x1, rfl, h⟩ := h
  rw [show L2.start n_Slots_has [x0, x1] = [some x0, some x1] from rfl]
  try dsimp only [cxOf]
  obtain ⟨al, s, m, kv, k, B, L, rfl, rfl, h0, sw, si, q⟩ := h
  obtain ⟨dx, ho⟩ := sw.ob_
  wtm_at "go"
  refine r_meth ho rfl ?_
  wtm_at "go"
  refine ⟨_, _, rfl, al, s, m, kv, k, B, L, rfl, rfl, h0, sw, si, fun d l ed => ?_⟩
  have hd := sw.lot ed
  obtain ⟨n1, m1, g1, _⟩ := si.home ed
  refine r_din hd ?_
  rw [(dkP_ks l).isSome, decide_eq_decide.mpr m1]
  exact q

def sp_Slots_get (K : PySem.W.Frag) (D : Ad) : Sp := Sp2 fun x y H Q E => ∃ (al : Addr) (s : Sl) (m : Int) (kv : Kv) (k : Int) (B : Hp) (L : List Cell), x = .ref al ∧ y = .int k ∧ 0 ≤ k ∧ SlW D B H L al s m ∧ SlI s kv ∧
  ((∃ v, getP kv k = some v ∧ Q (.int v) H) ∨ (rz_Slots_sure ∧ k ∉ ksP kv ∧ ∀ d B' H', Same B B' → B' d = some (.xd [("key", .int k)]) → SlW D B' H' L al s m → E (.ref (cNK D)) (some d) H'))
theorem ok_Slots_get {D : Ad} (T : Txt K mg D) : FnOk P w K mg base (L2.CX P w) 6 D.a_Slots_get D.d_Slots_get ["self", "key"] (sp_Slots_get K D) := by
  refine T.F_Slots_get.okX sc_Slots_get (fun vs H Q E h => sp2_len h) (fun cdv A outer s H vs Q E hr h => ⟨_, (pss_one (ps_ret (pe_dget (hu_of hr) (pe_meth (pv 0) T.cl_Slots T.me_Slots_sure (ok_Slots_sure T) (hr.mono (by decide)) T.b_Slots_sure .nil pX (pa_cons (pv 1) pa_nil)) (pv 1) (fun _ _ => rfl)))), ?_⟩)
  obtain ⟨x0, x1, rfl, h⟩ := h
  rw [show L2.start n_Slots_get [x0, x1] = [some x0, some x1] from rfl]
  try dsimp only [cxOf]
  obtain ⟨al, s, m, kv, k, B, L, rfl, rfl, h0, sw, si, hq⟩ := h
  obtain ⟨dx, ho⟩ := sw.ob_
  wtm_at "go"
  refine r_meth ho rfl ?_
  wtm_at "go"
  refine ⟨_, _, rfl, al, s, m, kv, k, B, L, rfl, rfl, h0, sw, si, ?_⟩
  rcases hq with ⟨v, hv, q⟩ | ⟨hz, hk, q⟩
  · refine .inl ⟨?_, fun d l ed => ?_⟩
    · have := getP_isSome kv k
      rw [hv] at this
      exact of_decide_eq_true this.symm
    · have hd := sw.lot ed
      obtain ⟨n1, m1, g1, _⟩ := si.home ed
      wtm_at "go"
      refine r_dge hd (v := .int v) (by rw [dkP_get, g1, hv]; rfl) ?_
      exact q
  · exact .inr ⟨hz, hk, q⟩

def sp_Slots_many (K : PySem.W.Frag) (D : Ad) : Sp := Sp1 fun x H Q _ => ∃ (al dx : Addr) (s : Sl) (m : Int), x = .ref al ∧ H al = some (slO D dx s m) ∧ Q (.int m) H
theorem ok_Slots_many {D : Ad} (T : Txt K mg D) : FnOk P w K mg base (L2.CX P w) 1 D.a_Slots_many D.d_Slots_many ["self"] (sp_Slots_many K D) := by
  refine T.F_Slots_many.okX sc_Slots_many (fun vs H Q E h => sp1_len h) (fun cdv A outer s H vs Q E hr h => ⟨_, (pss_one (ps_ret (pe_fld (pv 0) rfl))), ?_⟩)
  obtain ⟨x0, rfl, h⟩ := h
  rw [show L2.start n_Slots_many [x0] = [some x0] from rfl]
  try dsimp only [cxOf]
  obtain ⟨al, dx, s, m, rfl, ho, q⟩ := h
  unfold slO at ho
  wtm_at "go"
  refine r_fld ho T.cl_Slots T.na_Slots_number rfl ?_
  exact q

def sp_Slots_moved (K : PySem.W.Frag) (D : Ad) : Sp := Sp1 fun x H Q _ => ∃ (al dx : Addr) (s : Sl) (m : Int), x = .ref al ∧ H al = some (slO D dx s m) ∧ Q (.int (s.s : Nat)) H
theorem ok_Slots_moved {D : Ad} (T : Txt K mg D) : FnOk P w K mg base (L2.CX P w) 1 D.a_Slots_moved D.d_Slots_moved ["self"] (sp_Slots_moved K D) := by
  refine T.F_Slots_moved.okX sc_Slots_moved (fun vs H Q E h => sp1_len h) (fun cdv A outer s H vs Q E hr h => ⟨_, (pss_one (ps_ret (pe_fld (pv 0) rfl))), ?_⟩)
  obtain ⟨x0, rfl, h⟩ := h
  rw [show L2.start n_Slots_moved [x0] = [some x0] from rfl]
  try dsimp only [cxOf]
  obtain ⟨al, dx, s, m, rfl, ho, q⟩ := h
  unfold slO at ho
  wtm_at "go"
  refine r_fld ho T.cl_Slots T.na_Slots_shifted rfl ?_
  exact q

def bksL (x : Sl) : List Bk := x.o :: x.y.toList
def sp_Slots_banks (K : PySem.W.Frag) (D : Ad) : Sp := Sp1 fun x H Q _ => ∃ (al dx : Addr) (s : Sl) (m : Int) (B : Hp) (L : List Cell), x = .ref al ∧ H al = some (slO D dx s m) ∧ W B L H ∧ ∀ p B' H', Same B B' → B' p = some (.lst ((bksL s).map fun b => V.ref b.bo)) → W B' L H' → Q (.ref p) H'
theorem ok_Slots_banks {D : Ad} (T : Txt K mg D) : FnOk P w K mg base (L2.CX P w) 1 D.a_Slots_banks D.d_Slots_banks ["self"] (sp_Slots_banks K D) := by
  refine T.F_Slots_banks.okX sc_Slots_banks (fun vs H Q E h => sp1_len h) (fun cdv A outer s H vs Q E hr h => ⟨_, (pss_cons (ps_if (pt_cmpR op_isNo (pe_fld (pv 0) rfl) pe_non (nomark _))
      (pss_one (ps_ret (pe_lst (pa_cons (pe_fld (pv 0) rfl) pa_nil))))
      pss_nil)
    (pss_one (ps_ret (pe_lst (pa_cons (pe_fld (pv 0) rfl) (pa_cons (pe_fld (pv 0) rfl) pa_nil)))))), ?_⟩)
  obtain ⟨x0, rfl, h⟩ := h
  rw [show L2.start n_Slots_banks [x0] = [some x0] from rfl]
  try dsimp only [cxOf]
  obtain ⟨al, dx, s, m, B, L, rfl, ho, w, q⟩ := h
  unfold slO at ho
  wtm_at "go"
  refine r_fld ho T.cl_Slots T.na_Slots_young rfl ?_
  cases ey : s.y with
  | none =>
    dsimp only [yV]
    wtm_at "go"
    refine r_fld ho T.cl_Slots T.na_Slots_old rfl ?_
    wtm_at "go"
    refine d_lst w (szl (by simp)) fun p B1 H1 hp s1 i1 w => ?_
    exact q p B1 H1 s1 (by rw [i1]; unfold bksL; rw [ey]; rfl) w
  | some b =>
    dsimp only [yV]
    wtm_at "go"
    refine r_fld ho T.cl_Slots T.na_Slots_old rfl ?_
    wtm_at "go"
    refine r_fld ho T.cl_Slots T.na_Slots_young (by rw [ey]; rfl) ?_
    wtm_at "go"
    refine d_lst w (szl (by simp)) fun p B1 H1 hp s1 i1 w => ?_
    exact q p B1 H1 s1 (by rw [i1]; unfold bksL; rw [ey]; rfl) w

section
variable {D : Ad} {B B' H H' : Hp} {L L' : List Cell} {al p : Addr} {x : Sl} {m : Int} {o o' : HO} {b : Bk} {kv : Kv}
theorem SlW.cell (h : SlW D B H ((p, o) :: L) al x m) : H p = some o := by
  obtain ⟨_, w⟩ := h.w
  exact w.get (List.mem_append_right _ (List.mem_cons_self ..))
theorem SlW.cellPut (h : SlW D B H ((p, o) :: L) al x m) (o' : HO) : SlW D B (upd H p o') ((p, o') :: L) al x m :=
  ⟨h.ob, h.yb, h.w.imp fun dx w => w.put o'⟩
theorem SlW.cellNew (h : SlW D B H L al x m) (hp : H p = none) (o : HO) : SlW D B (upd H p o) ((p, o) :: L) al x m :=
  ⟨h.ob, h.yb, h.w.imp fun dx w => (w.newL hp _).perm (List.perm_middle (l₁ := slC D al dx x m) (l₂ := L)).symm⟩
theorem SlW.cellOwn (h : SlW D B H L al x m) (s : Same H H') (hp : H p = none) (e : H' p = some o) : SlW D B H' ((p, o) :: L) al x m :=
  ⟨h.ob, h.yb, h.w.imp fun dx w => (w.own s hp e).perm (List.perm_middle (l₁ := slC D al dx x m) (l₂ := L)).symm⟩
theorem SlW.cellPerm (h : SlW D B H L al x m) (p : L.Perm L') : SlW D B H L' al x m := ⟨h.ob, h.yb, h.w.imp fun dx w => w.perm (p.append_left _)⟩
theorem SlW.get {p : Addr} {o : HO} (h : SlW D B H L al x m) (hm : (p, o) ∈ L) : H p = some o := by
  obtain ⟨_, w⟩ := h.w
  exact w.get (List.mem_append_right _ hm)
theorem SlW.at2 (h : SlW D B H L al x m) : ∃ A, W B A H ∧ ∀ B' H' X, Same B B' → W B' (X ++ A) H' → SlW D B' H' (X ++ L) al x m := by
  obtain ⟨dx, w⟩ := h.w
  refine ⟨_, w, fun B' H' X s w' => ⟨h.ob.mono s, fun b e => (h.yb b e).mono s, dx, w'.perm ?_⟩⟩
  rw [← List.append_assoc, ← List.append_assoc]
  exact List.perm_append_comm.append_right _
theorem SlW.cellDrop (h : SlW D B H ((p, o) :: L) al x m) : SlW D B H L al x m :=
  ⟨h.ob, h.yb, h.w.imp fun dx w => (w.perm (List.perm_middle (l₁ := slC D al dx x m) (l₂ := L))).drop1⟩
theorem SlW.cellGive (h : SlW D B H ((p, o) :: L) al x m) : ∃ B', Same B B' ∧ B' p = some o ∧ SlW D B' H L al x m := by
  obtain ⟨dx, w⟩ := h.w
  have w := w.perm (List.perm_middle (l₁ := slC D al dx x m) (l₂ := L))
  have s := same_new (o := o) (w.out _ (List.mem_cons_self ..))
  exact ⟨upd B p o, s, upd_same, h.ob.mono s, fun b e => (h.yb b e).mono s, dx, w.give⟩
end
def szsL (x : Sl) : List Int := (bksL x).map fun b => (b.ds.length : Int)
def sp_Slots_rows (K : PySem.W.Frag) (D : Ad) : Sp := Sp1 fun x H Q _ => ∃ (al : Addr) (s : Sl) (m : Int) (B : Hp) (L : List Cell), x = .ref al ∧ SlW D B H L al s m ∧ ∀ p B' H', Same B B' → SlW D B' H' ((p, .lst ((szsL s).map V.int)) :: L) al s m → Q (.ref p) H'
theorem ok_Slots_rows {D : Ad} (T : Txt K mg D) : FnOk P w K mg base (L2.CX P w) 2 D.a_Slots_rows D.d_Slots_rows ["self"] (sp_Slots_rows K D) := by
  refine T.F_Slots_rows.okX sc_Slots_rows (fun vs H Q E h => sp1_len h) (fun cdv A outer s H vs Q E hr h => ⟨_, (pss_one (ps_ret (pe_lc (own := [("bank", 1)]) (g := gName 1) rfl sc_Slots_rows.nd (pi_list (pe_meth0 (pv 0) T.cl_Slots T.me_Slots_banks (ok_Slots_banks T) (hr.mono (by decide)) T.b_Slots_banks .nil pX)) (blkOk_by (own := [("bank", 1)]) (N := n_Slots_rows) (sc := defScope s_Slots_rows) (by decide +kernel)) (fun _ _ _ _ _ => (pg_name (i := 1) sc_Slots_rows.nd rfl (Or.inl rfl))) (fun _ _ _ _ _ => pts_nil) (fun _ _ _ _ _ => (pe_fldK (K := K) (pv 1) rfl rfl))))), ?_⟩)
  obtain ⟨x0, rfl, h⟩ := h
  rw [show L2.start n_Slots_rows [x0] = [some x0, none] from rfl]
  try dsimp only [cxOf]
  obtain ⟨al, s, m, B, L, rfl, sw, q⟩ := h
  obtain ⟨dx, ho⟩ := sw.ob_
  obtain ⟨A, w, back⟩ := sw.at2
  wtm_at "go"
  refine r_meth ho rfl ?_
  wtm_at "go"
  refine ⟨_, rfl, al, dx, s, m, B, A, rfl, ho, w, fun p B1 H1 s1 i1 w => ?_⟩
  have sw := back B1 H1 [] s1 w
  wtm_at "go"
  refine r_il (SqL.of (w.rd i1)) ?_
  intro D1 hD1
  have hbl : (bksL s).length ≤ 2 := by unfold bksL; cases s.y <;> simp
  refine LC.listA (K := K) w hD1 (fun B' A acc H s w => SqL.of (w.rd (s _ _ i1))) (szlt (by rw [List.length_map]; omega)) (fun i B A acc => A = [] ∧ acc = ((bksL s).take i |>.map fun b => (b.ds.length : Int)).map V.int) ⟨rfl, rfl⟩ ?_ ?_
  · rintro i x B2 _ acc H2 Nx hi s2 w ⟨rfl, rfl⟩ hl1 hl2 hN
    rw [List.getElem?_map] at hi
    cases eb : (bksL s)[i]? with
    | none => rw [eb] at hi; cases hi
    | some b =>
      rw [eb] at hi
      cases hi
      have hbk : BkB D B2 b := by
        have hm := List.mem_of_getElem? eb
        unfold bksL at hm
        rcases List.mem_cons.mp hm with rfl | hm
        · exact sw.ob.mono s2
        · have : s.y = some b := by
            cases ey : s.y with
            | none => rw [ey] at hm; cases hm
            | some c =>
              rw [ey] at hm
              have : b = c := by simpa using hm
              rw [this]
          exact (sw.yb b this).mono s2
      obtain ⟨dxb, hbk⟩ := hbk
      wtm_at "go"
      refine ⟨rfl, ?_⟩
      wtm_at "go"
      refine r_fld (w.rd hbk) T.cl_Bank T.na_Bank_size rfl ?_
      refine r_acc w hl2 fun H3 w3 => ?_
      refine hN _ [] _ _ (same_refl _) w3 ⟨rfl, ?_⟩ (by simp at hl1 ⊢; omega)
      rw [List.take_add_one, eb]
      simp
  rintro B2 _ acc H3 s3 w ⟨rfl, rfl⟩ hl1
  rw [List.length_map, List.take_length] at w
  refine q D1 _ _ (same_trans s1 s3) ?_
  exact back _ _ [(D1, .lst ((szsL s).map V.int))] (same_trans s1 s3) w

local macro_rules | `(tactic| wtm_at "s0") => `(tactic| first | with_reducible refine g_items ?_ | with_reducible refine g_bm ?_ | with_reducible refine g_sub ?_ | with_reducible refine g_fldaug ?_)
def sp_Slots_move_next (K : PySem.W.Frag) (D : Ad) : Sp := Sp1 fun x H Q _ => ∃ (al : Addr) (s : Sl) (m : Int) (kv : Kv) (B : Hp) (L : List Cell), x = .ref al ∧ kv.length < 1000 ∧ SlW D B H L al s m ∧ SlI s kv ∧
  ∀ B' H' s', Same B B' → SlW D B' H' L al s' m → SlI s' kv → s'.st = mvS s.st → Q .non H'
theorem ok_Slots_move_next {D : Ad} (T : Txt K mg D) : FnOk P w K mg base (L2.CX P w) 4 D.a_Slots_move_next D.d_Slots_move_next ["self"] (sp_Slots_move_next K D) := by
  refine T.F_Slots_move_next.okX sc_Slots_move_next (fun vs H Q E h => sp1_len h) (fun cdv A outer s H vs Q E hr h => ⟨_, (pss_cons (ps_if (pt_cmpR op_isNo (pe_fld (pv 0) rfl) pe_non (nomark _))
      (pss_one ps_retN)
      pss_nil)
    (pss_cons (ps_lock (ps_for (passes_of rfl) rfl (pi_items (pe_ix ix_list (pe_fld (pe_fld (pv 0) rfl) rfl) (pe_fld (pv 0) rfl) (fun _ _ => rfl))) (pg_tup (by rfl) (pgs_cons (pg_name (i := 1) sc_Slots_move_next.nd rfl (Or.inl rfl)) (pgs_cons (pg_name (i := 2) sc_Slots_move_next.nd rfl (Or.inl rfl)) pgs_nil)))
      (pss_one (ps_expr (pe_bm PySem.F.plainAttrs_dict PySem.F.slot_dict_update PySem.F.type_dict_update mt_update (pe_meth (pe_fld (pv 0) rfl) T.cl_Bank T.me_Bank_lot_of (ok_Bank_lot_of T) (hr.mono (by decide)) T.b_Bank_lot_of .nil pX (pa_cons (pv 1) pa_nil)) (pa_cons (pe_disp (pps_cons (pv 1) (pv 2) pps_nil) (by rfl) (by rfl) (fun z => by cases z) (by decide)) pa_nil))))))
    (pss_cons (ps_asg pe_dnewK (pg_sub (pe_fld (pe_fld (pv 0) rfl) rfl) (pe_fld (pv 0) rfl) set_list))
    (pss_cons (ps_fldaug (pv 0) pe_int in_add)
    (pss_one (ps_if (pt_cmpR op_eq (pe_fld (pv 0) rfl) (pe_fld (pe_fld (pv 0) rfl) rfl) (nomark _))
      (pss_cons (ps_fld (pv 0) (pe_fld (pv 0) rfl) rfl)
      (pss_cons (ps_fld (pv 0) pe_non rfl)
      (pss_one (ps_fld (pv 0) pe_int rfl))))
      pss_nil)))))), ?_⟩)
  obtain ⟨x0, rfl, h⟩ := h
  rw [show L2.start n_Slots_move_next [x0] = [some x0, none, none] from rfl]
  try dsimp only [cxOf]
  obtain ⟨al, s, m, kv, B, L, rfl, hlen, sw, si, q⟩ := h
  obtain ⟨dx, ho⟩ := sw.ob_
  unfold slO at ho
  wtm_at "go"
  refine r_fld ho T.cl_Slots T.na_Slots_young rfl ?_
  cases ey : s.y with
  | none =>
    dsimp only [yV]
    wtm_at "go"
    exact q B H s (same_refl _) sw si (by unfold Sl.st; rw [ey]; rfl)
  | some b =>
    obtain ⟨hsz, hbe⟩ := si.ye b ey
    have hb4 := (pow_sz hbe).1
    obtain ⟨d, ps, es⟩ : ∃ d ps, s.o.ds[s.s]? = some (d, ps) := ⟨_, _, List.getElem?_eq_getElem hsz⟩
    have hall : s.all = s.o.ds ++ b.ds := by unfold Sl.all Sl.yd; rw [ey]
    have hpl : ps.length ≤ kv.length := si.kvl (i := s.s) (d := d) (by rw [hall, List.getElem?_append_left hsz]; exact es)
    obtain ⟨dx', w⟩ := sw.w
    obtain rfl : dx' = dx := by
      have := w.get (List.mem_append_left _ (List.mem_cons_self ..))
      unfold slO at this
      rw [ho] at this
      cases this
      rfl
    have w : W B ((al, slO D dx' s m) :: laC s.o :: laC b :: (s.o.ds.take s.s).map lotC ++ (d, .dK (dkP ps)) :: ((s.o.ds.drop (s.s + 1)).map lotC ++ (b.ds.map lotC ++ L))) H := by
      unfold slC at w
      rw [ey, hall, List.map_append] at w
      have e1 : s.o.ds.map lotC = (s.o.ds.take s.s).map lotC ++ (d, .dK (dkP ps)) :: (s.o.ds.drop (s.s + 1)).map lotC := by
        conv => lhs; rw [at_split es]
        rw [List.map_append, List.map_cons]
        rfl
      rw [e1] at w
      simpa [yC, List.append_assoc] using w
    have hd := w.get (List.mem_append_right _ (List.mem_cons_self ..))
    have sob := sw.ob
    have syb := sw.yb b ey
    dsimp only [yV]
    wtm_at "g0"
    refine g_lock hd trivial fun od => ?_
    have w := W.put w (.frz od (.dK (dkP ps)))
    have w : W B (((al, slO D dx' s m) :: laC s.o :: laC b :: (s.o.ds.take s.s).map lotC ++ (d, .frz od (.dK (dkP ps))) :: (s.o.ds.drop (s.s + 1)).map lotC) ++ (b.ds.map lotC ++ L)) (upd H d (.frz od (.dK (dkP ps)))) := by simpa [List.append_assoc] using w
    have hlo : ∀ {B' : Hp} {R : List Cell} {H' : Hp}, W B' (((al, slO D dx' s m) :: laC s.o :: laC b :: (s.o.ds.take s.s).map lotC ++ (d, .frz od (.dK (dkP ps))) :: (s.o.ds.drop (s.s + 1)).map lotC) ++ R) H' → H' al = some (slO D dx' s m) ∧ H' s.o.la = some (.lst (rfL s.o.ds)) ∧ H' b.la = some (.lst (rfL b.ds)) ∧ H' d = some (.frz od (.dK (dkP ps))) := fun w =>
      ⟨w.get (by simp), w.get (by simp [laC]), w.get (by simp [laC]), w.get (by simp)⟩
    obtain ⟨o1, o2, o3, o4⟩ := hlo w
    unfold slO at o1
    obtain ⟨dxo, hbo⟩ := sob
    obtain ⟨dxy, hby⟩ := syb
    have eix : atI (rfL s.o.ds) (s.s : Int) = some (.ref d) := by rw [atI_nat' (by omega) (by rw [rfL_len]; omega), Int.toNat_natCast]; exact rfL_at es
    wtm_at "go"
    refine r_fld o1 T.cl_Slots T.na_Slots_old rfl ?_
    wtm_at "go"
    refine r_fld (w.rd hbo) T.cl_Bank T.na_Bank_lots rfl ?_
    wtm_at "go"
    refine r_fld o1 T.cl_Slots T.na_Slots_shifted rfl ?_
    wtm_at "go"
    refine r_ixL (SqL.of o2) eix ?_
    refine r_itm o4 ?_
    refine FOR.items (fun i σ H' => ∃ (v1 v2 : Option V) (B' : Hp), σ = [some (.ref al), v1, v2] ∧ Same B B' ∧ W B' (((al, slO D dx' s m) :: laC s.o :: laC b :: (s.o.ds.take s.s).map lotC ++ (d, .frz od (.dK (dkP ps))) :: (s.o.ds.drop (s.s + 1)).map lotC) ++ ((mvL b.ds (ps.take i)).map lotC ++ L)) H') ⟨none, none, B, rfl, same_refl _, w⟩ (fun i σ H' _ ⟨_, _, _, _, _, w⟩ => (hlo w).2.2.2) ?_ ?_
    · rintro i k0 v0 σ H1 T1 hi ⟨v1, v2, B1, rfl, s1, w⟩ hT
      obtain ⟨p, hp, rfl, rfl⟩ := dkP_at hi
      have s1 := same_trans s1 (same_new (w.freeB hT) (o := .tup [.int p.1, .int p.2]))
      have w := w.newB hT (.tup [.int p.1, .int p.2])
      have iT : upd B1 T1 (.tup [.int p.1, .int p.2]) T1 = some (.tup [.int p.1, .int p.2]) := upd_same
      generalize upd B1 T1 (.tup [.int p.1, .int p.2]) = B2 at *
      dsimp only [kV]
      have hln : (mvL b.ds (ps.take i)).length = b.ds.length := mvL_len _ _
      have hpk : 0 ≤ p.1 := by
        have hm : p ∈ ps := List.mem_of_getElem? hp
        have : p ∈ kv := si.pm.mem_iff.mp (kvL_mem.mpr ⟨s.s, (d, ps), by rw [hall, List.getElem?_append_left hsz]; exact es, hm⟩)
        exact si.nn _ (List.mem_map.mpr ⟨p, this, rfl⟩)
      have hmod := Nat.mod_lt p.1.toNat (show 0 < (mvL b.ds (ps.take i)).length by omega)
      obtain ⟨d', l', ed'⟩ : ∃ d' l', (mvL b.ds (ps.take i))[p.1.toNat % (mvL b.ds (ps.take i)).length]? = some (d', l') := ⟨_, _, List.getElem?_eq_getElem hmod⟩
      obtain ⟨o1, o2, o3, o4⟩ := hlo w
      have hl1000 : l'.length < 2000 := by
        have h1 := (kvL_at ed').length_eq
        have h2 := mvL_kvl (ps.take i) b.ds
        have h3 := si.pm.length_eq
        rw [hall, kvL_app, List.length_append] at h3
        rw [List.length_append] at h1
        rw [List.length_take] at h2
        omega
      unfold slO at o1
      wtm_at "go"
      refine r_fld o1 T.cl_Slots T.na_Slots_young (by rw [ey]; rfl) ?_
      wtm_at "go"
      refine r_meth (w.rd (s1 _ _ hby)) rfl ?_
      wtm_at "go"
      refine ⟨_, _, rfl, { b with ds := mvL b.ds (ps.take i) }, p.1, d', l', rfl, rfl, hpk, ⟨dxy, by rw [show ({ b with ds := mvL b.ds (ps.take i) } : Bk).ds.length = b.ds.length from hln]; exact w.rd (s1 _ _ hby)⟩, by rw [show rfL ({ b with ds := mvL b.ds (ps.take i) } : Bk).ds = rfL b.ds from rfL_mvL _ _]; exact o3, by rw [show ({ b with ds := mvL b.ds (ps.take i) } : Bk).ds.length = b.ds.length from hln]; exact hbe, ed', ?_⟩
      have hd' := W.lotG w ed'
      refine r_bmD hd' ?_
      wtm_at "go"
      refine g_disp1 fun p2 hp2 => ?_
      wtm_at "go"
      refine r_disp1 upd_same ?_
      rw [upd_upd]
      have hne : p2 ≠ d' := fun z => by rw [z, hd'] at hp2; cases hp2
      have s1 := same_trans s1 (same_new (w.freeB hp2) (o := .dK [(Sum.inl p.1, .int p.2)]))
      have w := w.newB hp2 (.dK [(Sum.inl p.1, .int p.2)])
      wtm_at "go"
      refine r_upd1 hne (by rw [upd_ne (Ne.symm hne)]; exact hd') upd_same (szlt (by omega)) ?_
      have w := W.lot w ed' (putP l' p.1 p.2)
      rw [← mv1_at (by omega) ed', ← mvL_take hp] at w
      wtm_at "go"
      exact ⟨_, _, _, rfl, s1, w⟩
    · rintro σ H1 ⟨v1, v2, B1, rfl, s1, w⟩
      rw [dkP_len, List.take_length] at w
      refine ⟨(hlo w).2.2.2, ?_⟩
      have w : W B1 (((al, slO D dx' s m) :: laC s.o :: laC b :: (s.o.ds.take s.s).map lotC) ++ (d, .frz od (.dK (dkP ps))) :: ((s.o.ds.drop (s.s + 1)).map lotC ++ ((mvL b.ds ps).map lotC ++ L))) H1 := by simpa [List.append_assoc] using w
      have w := W.put w (.dK (dkP ps))
      obtain ⟨o1, o2, o3⟩ : upd H1 d (.dK (dkP ps)) al = some (slO D dx' s m) ∧ upd H1 d (.dK (dkP ps)) s.o.la = some (.lst (rfL s.o.ds)) ∧ upd H1 d (.dK (dkP ps)) b.la = some (.lst (rfL b.ds)) := ⟨w.get (by simp), w.get (by simp [laC]), w.get (by simp [laC])⟩
      generalize upd H1 d (.dK (dkP ps)) = H2 at *
      wtm_at "go"
      refine o_dnew w fun d2 H3 hd2 w => ?_
      have w := W.inst w
      obtain ⟨o1, o2, o3⟩ : H3 al = some (slO D dx' s m) ∧ H3 s.o.la = some (.lst (rfL s.o.ds)) ∧ H3 b.la = some (.lst (rfL b.ds)) := ⟨w.get (by simp), w.get (by simp [laC]), w.get (by simp [laC])⟩
      unfold slO at o1
      have hbo := s1 _ _ hbo
      have hby := s1 _ _ hby
      wtm_at "go"
      refine r_fld o1 T.cl_Slots T.na_Slots_old rfl ?_
      wtm_at "go"
      refine r_fld (w.rd hbo) T.cl_Bank T.na_Bank_lots rfl ?_
      wtm_at "go"
      refine r_fld o1 T.cl_Slots T.na_Slots_shifted rfl ?_
      refine r_setL o2 (by rw [rfL_len]; exact hsz) ?_
      have w := W.put1 w (.lst ((rfL s.o.ds).set s.s (.ref d2)))
      have o1 : upd H3 s.o.la (.lst ((rfL s.o.ds).set s.s (.ref d2))) al = some (slO D dx' s m) := w.get (by simp)
      have o3 : upd H3 s.o.la (.lst ((rfL s.o.ds).set s.s (.ref d2))) b.la = some (.lst (rfL b.ds)) := w.get (by simp [laC])
      generalize upd H3 s.o.la (.lst ((rfL s.o.ds).set s.s (.ref d2))) = H4 at *
      unfold slO at o1
      wtm_at "go"
      refine r_augA o1 T.cl_Slots T.na_Slots_shifted rfl (show (4 : Nat) < 1000 by decide) ?_
      have w : W B1 ((al, .ins D.c_Slots dx' [("old", .ref s.o.bo), ("young", yV s.y), ("shifted", .int ((s.s : Nat) + 1)), ("number", .int m)]) :: _) (upd H4 al (.ins D.c_Slots dx' (putF "shifted" (.int ((s.s : Nat) + 1)) [("old", .ref s.o.bo), ("young", yV s.y), ("shifted", .int (s.s : Nat)), ("number", .int m)]))) := W.put0 w (.ins D.c_Slots dx' [("old", .ref s.o.bo), ("young", yV s.y), ("shifted", .int ((s.s : Nat) + 1)), ("number", .int m)])
      have o1 : upd H4 al (.ins D.c_Slots dx' (putF "shifted" (.int ((s.s : Nat) + 1)) [("old", .ref s.o.bo), ("young", yV s.y), ("shifted", .int (s.s : Nat)), ("number", .int m)])) al = some (.ins D.c_Slots dx' [("old", .ref s.o.bo), ("young", yV s.y), ("shifted", .int ((s.s : Nat) + 1)), ("number", .int m)]) := upd_same
      generalize upd H4 al (.ins D.c_Slots dx' (putF "shifted" (.int ((s.s : Nat) + 1)) [("old", .ref s.o.bo), ("young", yV s.y), ("shifted", .int (s.s : Nat)), ("number", .int m)])) = H5 at *
      have hlc : laC b = (b.la, .lst (rfL (mvL b.ds ps))) := by rw [rfL_mvL]; rfl
      have hset : (s.o.ds.set s.s (d2, [])).map lotC = (s.o.ds.take s.s).map lotC ++ (d2, .dK []) :: (s.o.ds.drop (s.s + 1)).map lotC := by rw [set_split es, List.map_append, List.map_cons]; rfl
      have hrf : (rfL s.o.ds).set s.s (.ref d2) = rfL (s.o.ds.set s.s (d2, [])) := by unfold rfL; rw [List.map_set]
      have hmo := si.move (d2 := d2) ey es
      have hst := Sl.moved_st (x := s) (d2 := d2) (ps := ps) ey
      have hbk : BkB D B1 { b with ds := mvL b.ds ps } := ⟨dxy, by rw [show ({ b with ds := mvL b.ds ps } : Bk).ds.length = b.ds.length from mvL_len _ _]; exact hby⟩
      have w : W B1 ((al, .ins D.c_Slots dx' [("old", .ref s.o.bo), ("young", yV s.y), ("shifted", .int ((s.s : Nat) + 1)), ("number", .int m)]) :: (s.o.la, .lst ((rfL s.o.ds).set s.s (.ref d2))) :: laC b :: ((s.o.ds.set s.s (d2, [])).map lotC ++ ((mvL b.ds ps).map lotC ++ L))) H5 := by
        rw [hset]
        simpa [List.append_assoc] using w
      unfold Sl.moved at hmo hst
      wtm_at "go"
      refine r_fld o1 T.cl_Slots T.na_Slots_shifted rfl ?_
      wtm_at "go"
      refine r_fld o1 T.cl_Slots T.na_Slots_old rfl ?_
      wtm_at "go"
      refine r_fld (w.rd hbo) T.cl_Bank T.na_Bank_size rfl ?_
      wtm_at "go"
      wtm_at "br"
      · intro c
        have c : s.s + 1 = s.o.ds.length := by omega
        rw [if_pos c] at hmo hst
        have w := w.sl (L' := (al, .ins D.c_Slots dx' [("old", .ref s.o.bo), ("young", yV s.y), ("shifted", .int ((s.s : Nat) + 1)), ("number", .int m)]) :: laC b :: ((mvL b.ds ps).map lotC ++ L)) (List.Sublist.cons₂ _ (List.Sublist.cons _ (List.Sublist.cons₂ _ (List.sublist_append_right _ _))))
        wtm_at "go"
        refine r_fld o1 T.cl_Slots T.na_Slots_young (by rw [ey]; rfl) ?_
        wtm_at "go"
        refine r_sfld o1 T.cl_Slots T.na_Slots_old (show (4 : Nat) < 1000 by decide) ?_
        have w := W.put0 w (.ins D.c_Slots dx' [("old", .ref b.bo), ("young", yV s.y), ("shifted", .int ((s.s : Nat) + 1)), ("number", .int m)])
        have o1 := w.get (List.mem_cons_self ..)
        wtm_at "go"
        refine r_sfld o1 T.cl_Slots T.na_Slots_young (show (4 : Nat) < 1000 by decide) ?_
        have w := W.put0 w (.ins D.c_Slots dx' [("old", .ref b.bo), ("young", .non), ("shifted", .int ((s.s : Nat) + 1)), ("number", .int m)])
        have o1 := w.get (List.mem_cons_self ..)
        wtm_at "go"
        refine r_sfld o1 T.cl_Slots T.na_Slots_shifted (show (4 : Nat) < 1000 by decide) ?_
        have w := W.put0 w (.ins D.c_Slots dx' [("old", .ref b.bo), ("young", .non), ("shifted", .int 0), ("number", .int m)])
        refine q B1 _ _ s1 ⟨hbk, (fun b' e => by cases e), dx', ?_⟩ hmo hst
        show W B1 ((al, .ins D.c_Slots dx' [("old", .ref b.bo), ("young", .non), ("shifted", .int 0), ("number", .int m)]) :: (b.la, .lst (rfL (mvL b.ds ps))) :: ((mvL b.ds ps ++ []).map lotC) ++ L) _
        rw [List.append_nil, ← hlc]
        exact w
      · intro c
        have c : ¬ s.s + 1 = s.o.ds.length := by omega
        rw [if_neg c] at hmo hst
        refine q B1 _ _ s1 ⟨⟨dxo, by show B1 s.o.bo = some (.ins _ _ [("size", .int ((s.o.ds.set _ _).length : Nat)), _]); rw [List.length_set]; exact hbo⟩, fun b' e => by cases e; exact hbk, dx', ?_⟩ hmo hst
        show W B1 ((al, .ins D.c_Slots dx' [("old", .ref s.o.bo), ("young", .ref b.bo), ("shifted", .int ((s.s + 1 : Nat) : Int)), ("number", .int m)]) :: (s.o.la, .lst (rfL (s.o.ds.set s.s (d2, [])))) :: ((b.la, .lst (rfL (mvL b.ds ps))) :: ((s.o.ds.set s.s (d2, []) ++ mvL b.ds ps).map lotC)) ++ L) _
        rw [← hlc, ← hrf, List.map_append]
        rw [ey] at w
        simpa [List.append_assoc, yV] using w

def sp_Slots_begin_row (K : PySem.W.Frag) (D : Ad) : Sp := Sp1 fun x H Q _ => ∃ (al : Addr) (s : Sl) (m : Nat) (kv : Kv) (B : Hp) (L : List Cell), x = .ref al ∧ SlW D B H L al s m ∧ SlI s kv ∧
  ∀ B' H' s', Same B B' → SlW D B' H' L al s' m → SlI s' kv → s'.st = bgS m s.st → Q .non H'
theorem ok_Slots_begin_row {D : Ad} (T : Txt K mg D) : FnOk P w K mg base (L2.CX P w) 3 D.a_Slots_begin_row D.d_Slots_begin_row ["self"] (sp_Slots_begin_row K D) := by
  refine T.F_Slots_begin_row.okX sc_Slots_begin_row (fun vs H Q E h => sp1_len h) (fun cdv A outer s H vs Q E hr h => ⟨_, (pss_cons (ps_set (i := 1) sc_Slots_begin_row.nd rfl (Or.inl rfl) (pe_fld (pe_fld (pv 0) rfl) rfl))
    (pss_one (ps_if (PW.pt (pw_and (pt_cmpR op_isNo (pe_fld (pv 0) rfl) pe_non (nomark _)) (pw_and (pt_cmpR op_gt (pe_fld (pv 0) rfl) (pv 1) (nomark _)) (pw_and1 (pt_cmpR op_lt (pv 1) (pe_glob (v := .int 256) rfl T.k_MOST_SIZE ⟨_, rfl⟩) (nomark _))))))
      (pss_one (ps_fld (pv 0) (pe_make T.mk_Bank (ok_Bank_init T) (hr.mono (by decide)) rfl T.g_Bank T.b_Bank_init .nil pX (pa_cons (pe_op op_mul pe_int (pv 1)) pa_nil)) rfl))
      (pss_one (ps_if (PW.pt (pw_and (pt_cmpR op_isNo (pe_fld (pv 0) rfl) pe_non (nomark _)) (pw_and (pt_cmpR op_lt (pe_op op_mul pe_int (pe_fld (pv 0) rfl)) (pv 1) (nomark _)) (pw_and1 (pt_cmpR op_gt (pv 1) (pe_glob (v := .int 4) rfl T.k_LEAST_SIZE ⟨_, rfl⟩) (nomark _))))))
        (pss_one (ps_fld (pv 0) (pe_make T.mk_Bank (ok_Bank_init T) (hr.mono (by decide)) rfl T.g_Bank T.b_Bank_init .nil pX (pa_cons (pe_op op_fdiv (pv 1) pe_int) pa_nil)) rfl))
        pss_nil))))), ?_⟩)
  obtain ⟨x0, rfl, h⟩ := h
  rw [show L2.start n_Slots_begin_row [x0] = [some x0, none] from rfl]
  try dsimp only [cxOf]
  obtain ⟨al, s, m, kv, B, L, rfl, sw, si, q⟩ := h
  obtain ⟨dx, ho⟩ := sw.ob_
  unfold slO at ho
  obtain ⟨dxo, hbo⟩ := sw.bo
  wtm_at "go"
  refine r_fld ho T.cl_Slots T.na_Slots_old rfl ?_
  wtm_at "go"
  refine r_fld hbo T.cl_Bank T.na_Bank_size rfl ?_
  wtm_at "go"
  refine r_fld ho T.cl_Slots T.na_Slots_young rfl ?_
  obtain ⟨dx', w⟩ := sw.w
  obtain rfl : dx' = dx := by
    have := w.get (List.mem_append_left _ (List.mem_cons_self ..))
    unfold slO at this
    rw [ho] at this
    cases this
    rfl
  obtain ⟨e, e2, e8, he⟩ := si.ze
  cases ey : s.y with
  | some b =>
    dsimp only [yV]
    have same := q B H s (same_refl _) sw si (by unfold Sl.st; rw [ey]; rfl)
    wtm_at "go"
    refine r_fld ho T.cl_Slots T.na_Slots_young rfl ?_
    rw [ey]
    dsimp only [yV]
    wtm_at "go"
    exact same
  | none =>
    have fin : ∀ {e' : Nat} {P : V → Hp → Prop}, 2 ≤ e' → e' ≤ 8 → nrow s.o.ds.length m = some (2 ^ e') → (∀ H', Q .non H' → P .non H') → ∀ (b : Bk) (B1 H1 : Hp), b.ds.length = 2 ^ e' → (∀ z ∈ b.ds, z.2 = []) → Same B B1 → BkB D B1 b → W B1 (laC b :: (b.ds.map lotC ++ (slC D al dx' s m ++ L))) H1 → rStF K "young" (P .non) (.ref b.bo) (.ref al) H1 := by
      intro e' P h2 h8 hn hP b B1 H1 hl hz s1 ib w
      have hall : s.all = s.o.ds := by unfold Sl.all Sl.yd; rw [ey]; exact List.append_nil _
      have w : W B1 ((al, .ins D.c_Slots dx' [("old", .ref s.o.bo), ("young", .non), ("shifted", .int (s.s : Nat)), ("number", .int m)]) :: laC s.o :: laC b :: (s.o.ds.map lotC ++ (b.ds.map lotC ++ L))) H1 := by
        refine w.perm ?_
        unfold slC slO
        rw [ey, hall]
        simp only [yC, yV, List.nil_append, List.cons_append, List.append_assoc]
        generalize b.ds.map lotC = u1
        generalize s.o.ds.map lotC = u2
        generalize laC b = c1
        generalize laC s.o = c2
        generalize (al, HO.ins D.c_Slots dx' [("old", V.ref s.o.bo), ("young", V.non), ("shifted", V.int (s.s : Nat)), ("number", V.int m)]) = c3
        have p1 : (c1 :: (u1 ++ c3 :: c2 :: (u2 ++ L))).Perm (c1 :: c3 :: (u1 ++ c2 :: (u2 ++ L))) := List.perm_middle.cons _
        have p2 : (c1 :: c3 :: (u1 ++ c2 :: (u2 ++ L))).Perm (c1 :: c3 :: c2 :: (u1 ++ (u2 ++ L))) := (List.perm_middle.cons _).cons _
        have p3 : (u1 ++ (u2 ++ L)).Perm (u2 ++ (u1 ++ L)) := by
          rw [← List.append_assoc, ← List.append_assoc]
          exact List.perm_append_comm.append_right _
        have p4 : (c1 :: c3 :: c2 :: (u2 ++ (u1 ++ L))).Perm (c3 :: c2 :: c1 :: (u2 ++ (u1 ++ L))) := (List.Perm.swap _ _ _).trans ((List.Perm.swap _ _ _).cons _)
        exact p1.trans (p2.trans ((((p3.cons _).cons _).cons _).trans p4))
      refine r_sfld (w.get (List.mem_cons_self ..)) T.cl_Slots T.na_Slots_young (show (4 : Nat) < 1000 by decide) ?_
      have w := W.put0 w (.ins D.c_Slots dx' [("old", .ref s.o.bo), ("young", .ref b.bo), ("shifted", .int (s.s : Nat)), ("number", .int m)])
      refine hP _ (q B1 _ { s with y := some b } s1 ⟨sw.ob.mono s1, (fun b' e => by cases e; exact ib), dx', ?_⟩ (si.begin ey hz ⟨e', h2, h8, hl⟩) ?_)
      · show W B1 ((al, .ins D.c_Slots dx' [("old", .ref s.o.bo), ("young", .ref b.bo), ("shifted", .int (s.s : Nat)), ("number", .int m)]) :: laC s.o :: ([laC b] ++ (s.o.ds ++ b.ds).map lotC) ++ L) _
        rw [List.map_append]
        have w2 : W B1 ((al, .ins D.c_Slots dx' [("old", .ref s.o.bo), ("young", .ref b.bo), ("shifted", .int (s.s : Nat)), ("number", .int m)]) :: laC s.o :: ([laC b] ++ (s.o.ds.map lotC ++ b.ds.map lotC)) ++ L) (upd H1 al (.ins D.c_Slots dx' [("old", .ref s.o.bo), ("young", .ref b.bo), ("shifted", .int (s.s : Nat)), ("number", .int m)])) := by simpa [List.append_assoc] using w
        exact w2
      · show (s.o.ds.length, some b.ds.length, s.s) = bgS m s.st
        unfold Sl.st
        rw [ey, hl]
        show _ = (s.o.ds.length, nrow s.o.ds.length m, s.s)
        rw [hn]
    have same : nrow s.o.ds.length m = none → Q .non H := fun hn => q B H s (same_refl _) sw si (by
      unfold Sl.st
      rw [ey]
      show _ = (s.o.ds.length, nrow s.o.ds.length m, s.s)
      rw [hn]
      rfl)
    clear q
    have hz4 := (pow_sz si.ze).1
    rw [ey] at ho
    dsimp only [yV] at ho ⊢
    by_cases c1 : (s.o.ds.length : Int) < m
    · by_cases c2 : (s.o.ds.length : Int) < 256
      · have he8 : e + 1 ≤ 8 := by
          have : 2 ^ e < 2 ^ 8 := by rw [← he]; omega
          have := (Nat.pow_lt_pow_iff_right (a := 2) (by decide)).mp this
          omega
        wtm_at "go"
        refine r_fld ho T.cl_Slots T.na_Slots_number rfl ?_
        wtm_at "go"
        refine mk_bank (e := e + 1) (by rw [he, Nat.pow_succ]; congr 1; push_cast; omega) w he8 fun b B1 H1 hl hz s1 ib w => ?_
        wtm_at "go"
        exact fin (by omega) he8 (by unfold nrow; rw [if_pos (by omega), he, Nat.pow_succ]; congr 1; omega) (fun _ h => h) b B1 H1 hl hz s1 ib w
      · by_cases c3 : 4 * (m : Int) < s.o.ds.length
        · exact absurd c3 (by omega)
        · wtm_at "go"
          refine r_fld ho T.cl_Slots T.na_Slots_number rfl ?_
          wtm_at "go"
          refine r_fld ho T.cl_Slots T.na_Slots_young rfl ?_
          wtm_at "go"
          refine r_fld ho T.cl_Slots T.na_Slots_number rfl ?_
          wtm_at "go"
          exact same (by unfold nrow; rw [if_neg (by omega), if_neg (by omega)])
    · by_cases c3 : 4 * (m : Int) < s.o.ds.length
      · by_cases c4 : (4 : Int) < s.o.ds.length
        · obtain ⟨e', rfl⟩ : ∃ e', e = e' + 1 := ⟨e - 1, by omega⟩
          have hz2 : s.o.ds.length / 2 = 2 ^ e' := by rw [he, Nat.pow_succ]; omega
          have he2 : 2 ≤ e' := by
            have : 2 ^ 2 < 2 ^ (e' + 1) := by rw [← he]; omega
            have := (Nat.pow_lt_pow_iff_right (a := 2) (by decide)).mp this
            omega
          wtm_at "go"
          refine r_fld ho T.cl_Slots T.na_Slots_number rfl ?_
          wtm_at "go"
          refine r_fld ho T.cl_Slots T.na_Slots_young rfl ?_
          wtm_at "go"
          refine r_fld ho T.cl_Slots T.na_Slots_number rfl ?_
          wtm_at "go"
          refine mk_bank (e := e') (by rw [← hz2]; congr 1) w (by omega) fun b B1 H1 hl hz s1 ib w => ?_
          wtm_at "go"
          exact fin he2 (by omega) (by unfold nrow; rw [if_neg (by omega), if_pos (by omega), hz2]) (fun _ h => h) b B1 H1 hl hz s1 ib w
        · wtm_at "go"
          refine r_fld ho T.cl_Slots T.na_Slots_number rfl ?_
          wtm_at "go"
          refine r_fld ho T.cl_Slots T.na_Slots_young rfl ?_
          wtm_at "go"
          refine r_fld ho T.cl_Slots T.na_Slots_number rfl ?_
          wtm_at "go"
          exact same (by unfold nrow; rw [if_neg (by omega), if_neg (by omega)])
      · wtm_at "go"
        refine r_fld ho T.cl_Slots T.na_Slots_number rfl ?_
        wtm_at "go"
        refine r_fld ho T.cl_Slots T.na_Slots_young rfl ?_
        wtm_at "go"
        refine r_fld ho T.cl_Slots T.na_Slots_number rfl ?_
        wtm_at "go"
        exact same (by unfold nrow; rw [if_neg (by omega), if_neg (by omega)])

theorem SlW.num {D : Ad} {B H : Hp} {L : List Cell} {al dx : Addr} {x : Sl} {m : Int} (h : SlW D B H L al x m) (ho : H al = some (slO D dx x m)) (m' : Int) : SlW D B (upd H al (slO D dx x m')) L al x m' := by
  obtain ⟨dx', w⟩ := h.w
  obtain rfl : dx' = dx := by
    have := w.get (List.mem_append_left _ (List.mem_cons_self ..))
    unfold slO at this ho
    rw [ho] at this
    cases this
    rfl
  exact ⟨h.ob, h.yb, dx', W.put0 w (slO D dx' x m')⟩
theorem putP_len (kv : Kv) (k v : Int) : (putP kv k v).length = if k ∈ ksP kv then kv.length else kv.length + 1 := by
  by_cases c : k ∈ ksP kv
  · rw [if_pos c, putP_old c, List.length_map]
  · rw [if_neg c, putP_new c, List.length_append, List.length_singleton]
def sp_Slots_put (K : PySem.W.Frag) (D : Ad) : Sp := Sp3 fun x y z H Q _ => ∃ (al : Addr) (s : Sl) (kv : Kv) (k v : Int) (B : Hp) (L : List Cell), x = .ref al ∧ y = .int k ∧ z = .int v ∧ 0 ≤ k ∧ kv.length < 1000 ∧ SlW D B H L al s (kv.length : Nat) ∧ SlI s kv ∧
  ∀ B' H' s', Same B B' → SlW D B' H' L al s' ((putP kv k v).length : Nat) → SlI s' (putP kv k v) → s'.st = turnS (putP kv k v).length s.st → Q .non H'
theorem ok_Slots_put {D : Ad} (T : Txt K mg D) : FnOk P w K mg base (L2.CX P w) 5 D.a_Slots_put D.d_Slots_put ["self", "key", "value"] (sp_Slots_put K D) := by
  refine T.F_Slots_put.okX sc_Slots_put (fun vs H Q E h => sp3_len h) (fun cdv A outer s H vs Q E hr h => ⟨_, (pss_cons (ps_expr (pe_meth0 (pv 0) T.cl_Slots T.me_Slots_move_next (ok_Slots_move_next T) (hr.mono (by decide)) T.b_Slots_move_next .nil pX))
    (pss_cons (ps_set (i := 3) sc_Slots_put.nd rfl (Or.inl rfl) (pe_meth (pv 0) T.cl_Slots T.me_Slots_home (ok_Slots_home T) (hr.mono (by decide)) T.b_Slots_home .nil pX (pa_cons (pv 1) pa_nil)))
    (pss_cons (ps_if (pt_cmp (pc_dnotin (hu_of hr) (pv 1) (pv 3)))
      (pss_one (ps_fldaug (pv 0) pe_int in_add))
      pss_nil)
    (pss_cons (ps_dput (hu_of hr) (pv 3) (pv 1) (pv 2) rfl)
    (pss_one (ps_expr (pe_meth0 (pv 0) T.cl_Slots T.me_Slots_begin_row (ok_Slots_begin_row T) (hr.mono (by decide)) T.b_Slots_begin_row .nil pX))))))), ?_⟩)
  obtain ⟨x0, x1, x2, rfl, h⟩ := h
  rw [show L2.start n_Slots_put [x0, x1, x2] = [some x0, some x1, some x2, none] from rfl]
  try dsimp only [cxOf]
  obtain ⟨al, s, kv, k, v, B, L, rfl, rfl, rfl, h0, hlen, sw, si, q⟩ := h
  obtain ⟨dx, ho⟩ := sw.ob_
  wtm_at "go"
  refine r_meth ho rfl ?_
  wtm_at "go"
  refine ⟨_, rfl, al, s, _, kv, B, L, rfl, hlen, sw, si, fun B1 H1 s1 e1 sw si est => ?_⟩
  obtain ⟨dx, ho⟩ := sw.ob_
  wtm_at "go"
  refine r_meth ho rfl ?_
  wtm_at "go"
  refine ⟨_, _, rfl, al, s1, _, kv, k, B1, L, rfl, rfl, h0, sw, si, fun d l ed => ?_⟩
  obtain ⟨n1, m1, g1, n2⟩ := si.home ed
  have hd := sw.lot ed
  have hll := si.kvl ed
  have hpl := putP_len kv k v
  wtm_at "g0"
  refine g_ifJ (fun σ H' => σ = [some (.ref al), some (.int k), some (.int v), some (.ref d)] ∧ SlW D B1 H' L al s1 ((putP kv k v).length : Nat)) ?_ ?_
  · rintro σ H' ⟨rfl, sw⟩
    have hd := sw.lot ed
    wtm_at "go"
    refine r_dpu hd (szlt (by rw [dkP_len]; omega)) ?_
    rw [dkP_put]
    have sw := sw.put ed (putP l k v)
    have si := si.put (v := v) h0 ed
    obtain ⟨dx, ho⟩ := sw.ob_
    wtm_at "go"
    refine r_meth ho rfl ?_
    wtm_at "go"
    refine ⟨_, rfl, al, _, _, _, B1, L, rfl, sw, si, fun B2 H2 s2 e2 sw si est2 => ?_⟩
    wtm_at "go"
    refine q B2 H2 s2 (same_trans e1 e2) sw si ?_
    rw [est2, Sl.set_st, est]
    rfl
  · intro N hN
    wtm_at "go"
    refine r_dni hd ?_
    rw [(dkP_ks l).isSome, decide_eq_decide.mpr m1]
    by_cases c : k ∈ ksP kv
    · rw [if_pos c] at hpl
      wtm_at "go"
      exact hN _ _ ⟨rfl, by rw [hpl]; exact sw⟩
    · rw [if_neg c] at hpl
      wtm_at "go"
      have ho2 := ho
      unfold slO at ho2
      refine r_augA ho2 T.cl_Slots T.na_Slots_number rfl (show (4 : Nat) < 1000 by decide) ?_
      have sw := sw.num ho ((putP kv k v).length : Nat)
      refine hN _ _ ⟨rfl, ?_⟩
      rw [hpl] at sw ⊢
      exact sw

def sp_Slots_drop (K : PySem.W.Frag) (D : Ad) : Sp := Sp2 fun x y H Q E => ∃ (al : Addr) (s : Sl) (kv : Kv) (k : Int) (B : Hp) (L : List Cell), x = .ref al ∧ y = .int k ∧ 0 ≤ k ∧ kv.length < 1000 ∧ SlW D B H L al s (kv.length : Nat) ∧ SlI s kv ∧
  ((k ∈ ksP kv ∧ ∀ B' H' s', Same B B' → SlW D B' H' L al s' ((delP kv k).length : Nat) → SlI s' (delP kv k) → s'.st = turnS (delP kv k).length s.st → Q .non H') ∨
  (rz_Slots_sure ∧ k ∉ ksP kv ∧ ∀ d B' H', Same B B' → B' d = some (.xd [("key", .int k)]) → SlW D B' H' L al s (kv.length : Nat) → E (.ref (cNK D)) (some d) H'))
theorem ok_Slots_drop {D : Ad} (T : Txt K mg D) : FnOk P w K mg base (L2.CX P w) 6 D.a_Slots_drop D.d_Slots_drop ["self", "key"] (sp_Slots_drop K D) := by
  refine T.F_Slots_drop.okX sc_Slots_drop (fun vs H Q E h => sp2_len h) (fun cdv A outer s H vs Q E hr h => ⟨_, (pss_cons (ps_expr (pe_meth (pv 0) T.cl_Slots T.me_Slots_sure (ok_Slots_sure T) (hr.mono (by decide)) T.b_Slots_sure .nil pX (pa_cons (pv 1) pa_nil)))
    (pss_cons (ps_expr (pe_meth0 (pv 0) T.cl_Slots T.me_Slots_move_next (ok_Slots_move_next T) (hr.mono (by decide)) T.b_Slots_move_next .nil pX))
    (pss_cons (ps_expr (pe_dpop1 (pe_meth (pv 0) T.cl_Slots T.me_Slots_home (ok_Slots_home T) (hr.mono (by decide)) T.b_Slots_home .nil pX (pa_cons (pv 1) pa_nil)) (pv 1) ⟨rfl, by rfl, rfl, rfl⟩))
    (pss_cons (ps_fldaug (pv 0) pe_int in_sub)
    (pss_one (ps_expr (pe_meth0 (pv 0) T.cl_Slots T.me_Slots_begin_row (ok_Slots_begin_row T) (hr.mono (by decide)) T.b_Slots_begin_row .nil pX))))))), ?_⟩)
  obtain ⟨x0, x1, rfl, h⟩ := h
  rw [show L2.start n_Slots_drop [x0, x1] = [some x0, some x1] from rfl]
  try dsimp only [cxOf]
  obtain ⟨al, s, kv, k, B, L, rfl, rfl, h0, hlen, sw, si, hq⟩ := h
  obtain ⟨dx, ho⟩ := sw.ob_
  wtm_at "go"
  refine r_meth ho rfl ?_
  wtm_at "go"
  refine ⟨_, _, rfl, al, s, _, kv, k, B, L, rfl, rfl, h0, sw, si, ?_⟩
  rcases hq with ⟨hk, q⟩ | ⟨hz, hk, q⟩
  rotate_left
  · exact .inr ⟨hz, hk, fun d B' H' s1 i sw => q d B' H' s1 i sw⟩
  refine .inl ⟨hk, fun d0 l0 ed0 => ?_⟩
  wtm_at "go"
  refine r_meth ho rfl ?_
  wtm_at "go"
  refine ⟨_, rfl, al, s, _, kv, B, L, rfl, hlen, sw, si, fun B1 H1 s1 e1 sw si est => ?_⟩
  obtain ⟨dx, ho⟩ := sw.ob_
  wtm_at "go"
  refine g_dpop1 ?_
  wtm_at "go"
  refine r_meth ho rfl ?_
  wtm_at "go"
  refine ⟨_, _, rfl, al, s1, _, kv, k, B1, L, rfl, rfl, h0, sw, si, fun d l ed => ?_⟩
  obtain ⟨n1, m1, g1, n2⟩ := si.home ed
  have hd := sw.lot ed
  obtain ⟨v, hv⟩ := getP_ex hk
  refine r_dpop1 (isD_of hd) ?_
  wtm_at "go"
  refine r_dp1 hd (v := .int v) (by rw [dkP_get, g1, hv]; rfl) ?_
  rw [dkP_del]
  have nd := si.nd
  have sw := sw.put ed (delP l k)
  have si := si.del ed
  obtain ⟨dx, ho⟩ := sw.ob_
  have ho2 := ho
  unfold slO at ho2
  have hdl := del_len nd hk
  wtm_at "go"
  refine r_augS ho2 T.cl_Slots T.na_Slots_number rfl (show (4 : Nat) < 1000 by decide) ?_
  have sw := sw.num ho ((delP kv k).length : Nat)
  have hnum : ((kv.length : Nat) : Int) - 1 = ((delP kv k).length : Nat) := by omega
  rw [hnum]
  obtain ⟨dx, ho⟩ := sw.ob_
  wtm_at "go"
  refine r_meth ho rfl ?_
  wtm_at "go"
  refine ⟨_, rfl, al, _, _, _, B1, L, rfl, sw, si, fun B2 H2 s2 e2 sw si est2 => ?_⟩
  wtm_at "go"
  refine q B2 H2 s2 (same_trans e1 e2) sw si ?_
  rw [est2, Sl.set_st, est]
  rfl

theorem SlI_new {x : Sl} (hy : x.y = none) (hs : x.s = 0) (hl : x.o.ds.length = 4) (he : ∀ z ∈ x.o.ds, z.2 = []) : SlI x [] := by
  have hall : x.all = x.o.ds := by unfold Sl.all Sl.yd; rw [hy]; exact List.append_nil _
  refine ⟨⟨2, by decide, by decide, hl⟩, fun _ => hs, (fun b e => by rw [hy] at e; cases e), fun i z hi p hp => ?_, ?_, .nil, nofun⟩
  · rw [hall] at hi
    rw [he z (List.mem_of_getElem? hi)] at hp
    cases hp
  · rw [hall]
    have : kvL x.o.ds = [] := List.eq_nil_iff_forall_not_mem.mpr fun p hp => by
      obtain ⟨i, z, hi, hz⟩ := kvL_mem.mp hp
      rw [he z (List.mem_of_getElem? hi)] at hz
      cases hz
    rw [this]
theorem mk_slots {D : Ad} {B H : Hp} {L : List Cell} {Q : VK} {E : XK} (w : W B L H) (q : ∀ (al : Addr) (x : Sl) (B' H' : Hp), Same B B' → x.st = (4, none, 0) → SlI x [] → SlW D B' H' L al x 0 → Q (.ref al) H') : rMk D.c_Slots (sp_Slots_init K D) [] E Q [] H := by
  intro x dx hx hdx hne
  have w1 := w.newB hdx (.own x)
  have w2 := w1.newL (p := x) (by rw [upd_ne (Ne.symm hne)]; exact hx) (.ins D.c_Slots dx [])
  exact ⟨_, rfl, x, dx, _, L, rfl, w2, fun s B' H' s1 hy hs hl he sw => ⟨rfl, q x s B' H' (same_trans (same_new (w.freeB hdx)) s1) (by unfold Sl.st; rw [hy, hs, hl]; rfl) (SlI_new hy hs hl he) sw⟩⟩

theorem turn4 {m : Nat} (h : m ≤ 3) : turnS m (4, none, 0) = (4, none, 0) := by
  have : m = 0 ∨ m = 1 ∨ m = 2 ∨ m = 3 := by omega
  rcases this with rfl | rfl | rfl | rfl <;> decide
theorem szs4 {s : Sl} (h : s.st = (4, none, 0)) : szsL s = [4] ∧ s.s = 0 := by
  unfold Sl.st at h
  injection h with h1 h2
  injection h2 with h2 h3
  have h2 : s.y = none := by
    cases e : s.y with
    | none => rfl
    | some b => rw [e] at h2; cases h2
  refine ⟨?_, h3⟩
  unfold szsL bksL
  rw [h2]
  simp [h1]
theorem r_neB2 {b : Bool} {H : Hp} {Q : VK} (q : Q (.bl false) H) : rNe (.bl b) (.bl b) H Q := ⟨rfl, by rw [decide_eq_true rfl]; exact q⟩
def fi (i : Nat) : Nat := [0, 1, 2, 2, 3, 3].getD i 0
theorem fi_step {kv : Kv} {k0 k1 k2 v : Int} {i : Nat} {j : Int} (h01 : k0 ≠ k1) (h02 : k0 ≠ k2) (h12 : k1 ≠ k2) (hk : ksP kv = [k0, k1, k2].take (fi i)) (hj : ([0, 1, 0, 2, 1] : List Int)[i]? = some j) :
    ∃ key, key ∈ [k0, k1, k2] ∧ atI ([k0, k1, k2].map V.int) j = some (.int key) ∧ ksP (putP kv key v) = [k0, k1, k2].take (fi (i + 1)) ∧ 0 ≤ j := by
  have hi : i = 0 ∨ i = 1 ∨ i = 2 ∨ i = 3 ∨ i = 4 := by
    have := (List.getElem?_eq_some_iff.mp hj).1
    simp only [List.length_cons, List.length_nil] at this
    omega
  have old : ∀ {k : Int} (_ : k ∈ ksP kv), ksP (putP kv k v) = ksP kv := fun h => ksP_put_old h
  have new : ∀ {k : Int} (_ : k ∉ ksP kv), ksP (putP kv k v) = ksP kv ++ [k] := fun h => ksP_put_new h
  rcases hi with rfl | rfl | rfl | rfl | rfl
  · cases hj
    refine ⟨k0, by simp, by rfl, ?_, by decide⟩
    rw [new (by rw [hk]; simp [fi]), hk]; rfl
  · cases hj
    refine ⟨k1, by simp, by rfl, ?_, by decide⟩
    rw [new (by rw [hk]; simp [fi]; exact fun e => h01 e.symm), hk]; rfl
  · cases hj
    refine ⟨k0, by simp, by rfl, ?_, by decide⟩
    rw [old (by rw [hk]; simp [fi]), hk]; rfl
  · cases hj
    refine ⟨k2, by simp, by rfl, ?_, by decide⟩
    rw [new (by rw [hk]; simp [fi]; exact ⟨fun e => h02 e.symm, fun e => h12 e.symm⟩), hk]; rfl
  · cases hj
    refine ⟨k1, by simp, by rfl, ?_, by decide⟩
    rw [old (by rw [hk]; simp [fi]), hk]; rfl
def sp__law_whole (_ : PySem.W.Frag) (_ : Ad) : Sp := Sp1 fun x H Q _ => ∃ n : Int, x = .int n ∧ Q (.bl true) H
theorem okC__law_whole {D : Ad} (T : Txt K mg D) : L2H.FnC P w K mg base (L2.CX P w) 1 D.a__law_whole D.d__law_whole ["_law_found"] (sp__law_whole K D) := by
  refine L2H.Fun.okC T.F__law_whole sc__law_whole (fun vs H Q E h => sp1_len h) (fun cdv A outer s H vs Q E pin hr h => ⟨_, (pss_one (ps_ret (pe_and (pe_callB call_isi (by rfl) T.n_isinstance bt_isinstance (pa_cons (pv 0) (pa_cons (pe_bltn (v := .ty "int") (by rfl) T.n_int bt_int rfl) pa_nil))) (pe_one (pe_not (pe_callB call_isi (by rfl) T.n_isinstance bt_isinstance (pa_cons (pv 0) (pa_cons (pe_bltn (v := .ty "bool") (by rfl) T.n_bool bt_bool rfl) pa_nil)))))))), ?_⟩)
  obtain ⟨x0, rfl, h⟩ := h
  rw [show L2.start n__law_whole [x0] = [some x0] from rfl]
  try dsimp only [L2H.cxH, cxOf]
  obtain ⟨n, rfl, k⟩ := h
  wtm_at "go"
  exact k
theorem ok__law_whole {D : Ad} (T : Txt K mg D) : FnOk P w K mg base (L2.CX P w) 1 D.a__law_whole D.d__law_whole ["_law_found"] (sp__law_whole K D) := by
  refine T.F__law_whole.okX sc__law_whole (fun vs H Q E h => sp1_len h) (fun cdv A outer s H vs Q E hr h => ⟨_, (pss_one (ps_ret (pe_and (pe_callB call_isi (by rfl) T.n_isinstance bt_isinstance (pa_cons (pv 0) (pa_cons (pe_bltn (v := .ty "int") (by rfl) T.n_int bt_int rfl) pa_nil))) (pe_one (pe_not (pe_callB call_isi (by rfl) T.n_isinstance bt_isinstance (pa_cons (pv 0) (pa_cons (pe_bltn (v := .ty "bool") (by rfl) T.n_bool bt_bool rfl) pa_nil)))))))), ?_⟩)
  obtain ⟨x0, rfl, h⟩ := h
  rw [show L2.start n__law_whole [x0] = [some x0] from rfl]
  try dsimp only [cxOf]
  obtain ⟨n, rfl, k⟩ := h
  wtm_at "go"
  exact k

theorem c_whole {D : Ad} {H : Hp} {Q : VK} {E : XK} {n : Int} (q : Q (.bl true) H) : sp__law_whole K D ([.int n] ++ []) H Q E := ⟨_, rfl, n, rfl, q⟩
local macro_rules | `(tactic| wtm_at "s0") => `(tactic| with_reducible refine c_whole ?_)
def sp__law_value (K : PySem.W.Frag) (_ : Ad) : Sp := Sp2 fun x y H Q _ => ∃ (a : Addr) (ns : List Int) (i : Nat), x = .ref a ∧ y = .int i ∧ SqL K H a (ns.map V.int) ∧ ∀ v, Q (.int v) H
theorem ok__law_value {D : Ad} (T : Txt K mg D) : FnOk P w K mg base (L2.CX P w) 2 D.a__law_value D.d__law_value ["_law_script", "_law_k"] (sp__law_value K D) := by
  refine T.F__law_value.okX sc__law_value (fun vs H Q E h => sp2_len h) (fun cdv A outer s H vs Q E hr h => ⟨_, (pss_cons (ps_set (i := 2) sc__law_value.nd rfl (Or.inl rfl) (pe_call (ok__law_cell_at T) (hr.mono (by decide)) rfl T.g__law_cell_at T.F__law_cell_at.kp T.b__law_cell_at .nil pX (pa_cons (pv 0) (pa_cons (pv 1) pa_nil))))
    (pss_cons (ps_if (pt_cmpR op_eq (pe_op op_mod (pv 2) pe_int) pe_int (nomark _))
      (pss_one (ps_ret (pe_op op_sub (pe_op op_mod (pe_op op_fdiv (pv 2) pe_int) pe_int) pe_int)))
      pss_nil)
    (pss_one (ps_ret (pe_op op_sub (pe_op op_mod (pv 2) (pe_op op_add (pe_op op_mul pe_int (pe_op op_pow pe_int pe_int)) pe_int)) (pe_op op_pow pe_int pe_int)))))), ?_⟩)
  obtain ⟨x0, x1, rfl, h⟩ := h
  rw [show L2.start n__law_value [x0, x1] = [some x0, some x1, none] from rfl]
  try dsimp only [cxOf]
  obtain ⟨a, ns, i, rfl, rfl, hS, k⟩ := h
  wtm_at "go"
  refine c_cell (i := i) hS ?_
  generalize ns.getD i 0 = c
  wtm_at "g0"
  wtm_at "go"
  wtm_at "br"
  · intro _
    wtm_at "go"
    exact k _
  · intro _
    wtm_at "go"
    exact k _

def sp__law_keys (K : PySem.W.Frag) (_ : Ad) : Sp := Sp1 fun x H Q _ => ∃ (a : Addr) (ns : List Int) (B : Hp) (L : List Cell), x = .ref a ∧ SqL K B a (ns.map V.int) ∧ W B L H ∧
  ∀ (p : Addr) (k0 k1 k2 : Int) (B' H' : Hp), Same B B' → B' p = some (.lst ([k0, k1, k2].map V.int)) → 0 ≤ k0 → k0 < k1 → k1 < k2 → W B' L H' → Q (.ref p) H'
theorem ok__law_keys {D : Ad} (T : Txt K mg D) : FnOk P w K mg base (L2.CX P w) 2 D.a__law_keys D.d__law_keys ["_law_script"] (sp__law_keys K D) := by
  refine T.F__law_keys.okX sc__law_keys (fun vs H Q E h => sp1_len h) (fun cdv A outer s H vs Q E hr h => ⟨_, (pss_cons (ps_set (i := 1) sc__law_keys.nd rfl (Or.inl rfl) (pe_call (ok__law_cell_at T) (hr.mono (by decide)) rfl T.g__law_cell_at T.F__law_cell_at.kp T.b__law_cell_at .nil pX (pa_cons (pv 0) (pa_cons pe_int pa_nil))))
    (pss_cons (ps_set (i := 2) sc__law_keys.nd rfl (Or.inl rfl) (pe_op op_mod (pe_op op_fdiv (pv 1) pe_int) (pe_ix ix_list (pe_lst (pa_cons pe_int (pa_cons pe_int (pa_cons (pe_op op_pow pe_int pe_int) pa_nil)))) (pe_op op_mod (pv 1) pe_int) (fun _ _ => rfl))))
    (pss_cons (ps_set (i := 3) sc__law_keys.nd rfl (Or.inl rfl) (pe_ix ix_list (pe_lst (pa_cons pe_int (pa_cons pe_int (pa_cons pe_int (pa_cons pe_int pa_nil))))) (pe_op op_mod (pe_call (ok__law_cell_at T) (hr.mono (by decide)) rfl T.g__law_cell_at T.F__law_cell_at.kp T.b__law_cell_at .nil pX (pa_cons (pv 0) (pa_cons pe_int pa_nil))) pe_int) (fun _ _ => rfl)))
    (pss_one (ps_ret (pe_lst (pa_cons (pv 2) (pa_cons (pe_op op_add (pv 2) (pv 3)) (pa_cons (pe_op op_add (pe_op op_add (pv 2) (pe_op op_mul pe_int (pv 3))) (pe_op op_mod (pe_op op_fdiv (pe_call (ok__law_cell_at T) (hr.mono (by decide)) rfl T.g__law_cell_at T.F__law_cell_at.kp T.b__law_cell_at .nil pX (pa_cons (pv 0) (pa_cons pe_int pa_nil))) pe_int) pe_int)) pa_nil))))))))), ?_⟩)
  obtain ⟨x0, rfl, h⟩ := h
  rw [show L2.start n__law_keys [x0] = [some x0, none, none, none] from rfl]
  try dsimp only [cxOf]
  obtain ⟨a, ns, B, L, rfl, hS, w, k⟩ := h
  wtm_at "go"
  generalize ns.getD 0 0 = c0
  refine d_lst w (szl (by simp)) fun p1 B1 H1 hp1 s1 i1 w => ?_
  have hS := Z.Same.sq s1 hS
  wtm_at "go"
  obtain ⟨md, hmd, e⟩ := atI_ex (ns := [10, 70000, 10 ^ (39 : Int).toNat]) (i := c0 % 3) (by omega) (by simp only [List.length_cons, List.length_nil]; omega)
  have hmd : 0 < md := by
    simp only [List.mem_cons, List.not_mem_nil, or_false] at hmd
    rcases hmd with rfl | rfl | rfl <;> decide
  refine r_ixL (SqL.of (w.rd i1)) e ?_
  wtm_at "go"
  have g0 := Int.emod_nonneg (c0 / 3) (Int.ne_of_gt hmd)
  generalize c0 / 3 % md = k0 at *
  refine d_lst w (szl (by simp)) fun p2 B2 H2 hp2 s2 i2 w => ?_
  have hS := Z.Same.sq s2 hS
  wtm_at "go"
  obtain ⟨sp, hsp, e⟩ := atI_ex (ns := [1, 65536, 65536, 4]) (i := ns.getD 1 0 % 4) (by omega) (by simp only [List.length_cons, List.length_nil]; omega)
  have hsp : 0 < sp := by
    simp only [List.mem_cons, List.not_mem_nil, or_false] at hsp
    rcases hsp with rfl | rfl | rfl | rfl <;> decide
  refine r_ixL (SqL.of (w.rd i2)) e ?_
  wtm_at "go"
  refine d_lst w (szl (by simp)) fun p3 B3 H3 hp3 s3 i3 w => ?_
  exact k p3 k0 (k0 + sp) (k0 + 2 * sp + ns.getD 1 0 / 4 % 2) B3 _ (same_trans s1 (same_trans s2 s3)) i3 g0 (by omega) (by omega) w

def sp__law_refused (K : PySem.W.Frag) (D : Ad) : Sp := Sp3 fun x y z H Q _ => ∃ (al : Addr) (s : Sl) (kv : Kv) (key way : Int) (B : Hp) (L : List Cell), x = .ref al ∧ y = .int key ∧ z = .int way ∧ (way = 0 ∨ way = 1) ∧ 0 ≤ key ∧ kv.length < 1000 ∧ key ∉ ksP kv ∧ SlW D B H L al s (kv.length : Nat) ∧ SlI s kv ∧
  ∀ B' H', Same B B' → SlW D B' H' L al s (kv.length : Nat) → Q (.bl true) H'
theorem ok__law_refused {D : Ad} (T : Txt K mg D) : FnOk P w K mg base (L2.CX P w) 7 D.a__law_refused D.d__law_refused ["_law_told", "_law_key", "_law_way"] (sp__law_refused K D) := by
  refine T.F__law_refused.okX sc__law_refused (fun vs H Q E h => sp3_len h) (fun cdv A outer s H vs Q E hr h => ⟨_, (pss_cons (ps_tryAs (i := 3) rfl rfl sc__law_refused.nd rfl rfl ⟨rfl, by decide, .inl T.g_WalkError⟩ (takes_of rfl rfl rfl rfl) (fun WW pn xe tk po =>
        (pss_one (ps_if (pt_cmpR op_eq (pv 2) pe_int (nomark _))
          (pss_one (ps_expr (pe_methW (pv 0) T.cl_Slots T.me_Slots_get (ok_Slots_get T) (hr.mono (by decide)) T.b_Slots_get .nil (fun σ => passAt tk σ) (pa_cons (pv 1) pa_nil))))
          (pss_one (ps_expr (pe_methW (pv 0) T.cl_Slots T.me_Slots_drop (ok_Slots_drop T) (hr.mono (by decide)) T.b_Slots_drop .nil (fun σ => passAt tk σ) (pa_cons (pv 1) pa_nil)))))))
        (fun a oe cls d pn hz hf =>
        (pss_cons (ps_if (PW.pt (pw_or (pt_not (pt_val (pe_callB (call_isX hz hf) (by rfl) T.n_isinstance bt_isinstance (pa_cons (pv 3) (pa_cons (pe_glob (v := .ref D.c_NoKey) rfl T.g_NoKey rfl) pa_nil))))) (pw_or (pt_val (pe_callB (call_isX hz hf) (by rfl) T.n_isinstance bt_isinstance (pa_cons (pv 3) (pa_cons (pe_glob (v := .ref D.c_Twice) rfl T.g_Twice rfl) pa_nil)))) (pw_or1 (pt_not (pt_val (pe_callB (call_isX hz hf) (by rfl) T.n_isinstance bt_isinstance (pa_cons (pv 3) (pa_cons (pe_bltn (v := .ty "ValueError") (by rfl) T.n_ValueError bt_ValueError rfl) pa_nil)))))))))
          (pss_one (ps_ret pe_bl))
          pss_nil)
        (pss_one (ps_ret (pe_and (L2H.pe_callC (sp := sp__law_whole K D) (lev := 1) (okC__law_whole T) (L2H.roomC hr (by decide)) (by exact ⟨_, List.mem_cons_self⟩) rfl T.g__law_whole T.F__law_whole.kp T.b__law_whole .nil passF (pa_cons (pe_xfA hz hf (pv 3)) pa_nil)) (pe_one (pe_cmpR op_eq (pe_xfA hz hf (pv 3)) (pv 1) (nomark _)))))))))
    (pss_one (ps_ret pe_bl))), ?_⟩)
  obtain ⟨x0, x1, x2, rfl, h⟩ := h
  rw [show L2.start n__law_refused [x0, x1, x2] = [some x0, some x1, some x2, none] from rfl]
  try dsimp only [cxOf]
  obtain ⟨al, s, kv, key, way, B, L, rfl, rfl, rfl, hway, h0, hlen, hn, sw, si, k⟩ := h
  obtain ⟨dx, ho⟩ := sw.ob_
  have fin : True := trivial
  wtm_at "go"
  rcases hway with rfl | rfl
  · wtm_at "go"
    refine r_meth ho rfl ?_
    wtm_at "go"
    refine ⟨_, _, rfl, al, s, _, kv, key, B, L, rfl, rfl, h0, sw, si, .inr ⟨trivial, hn, fun d B2 H2 s2 i2 sw => r_caught (T.xc_WalkError.exm T.sb_NoKey_WalkError) fun ea hea => ?_⟩⟩
    obtain ⟨A, w, back⟩ := sw.at_
    wtm_at "go"
    refine r_isXC T.xc_NoKey T.xc_NoKey T.sb_NoKey_NoKey (w.rd i2) ?_
    wtm_at "go"
    refine r_isXC T.xc_NoKey T.xc_Twice T.sb_NoKey_Twice (w.rd i2) ?_
    wtm_at "go"
    refine r_isXV T.xc_NoKey T.sv_NoKey (w.rd i2) ?_
    wtm_at "go"
    refine r_xf T.xc_NoKey T.no_NoKey_key (w.rd i2) rfl ?_
    wtm_at "go"
    refine r_xf T.xc_NoKey T.no_NoKey_key (w.rd i2) rfl ?_
    wtm_at "go"
    show Q _ _
    rw [decide_eq_true rfl]
    exact k _ _ s2 sw
  · wtm_at "go"
    refine r_meth ho rfl ?_
    wtm_at "go"
    refine ⟨_, _, rfl, al, s, kv, key, B, L, rfl, rfl, h0, hlen, sw, si, .inr ⟨trivial, hn, fun d B2 H2 s2 i2 sw => r_caught (T.xc_WalkError.exm T.sb_NoKey_WalkError) fun ea hea => ?_⟩⟩
    obtain ⟨A, w, back⟩ := sw.at_
    wtm_at "go"
    refine r_isXC T.xc_NoKey T.xc_NoKey T.sb_NoKey_NoKey (w.rd i2) ?_
    wtm_at "go"
    refine r_isXC T.xc_NoKey T.xc_Twice T.sb_NoKey_Twice (w.rd i2) ?_
    wtm_at "go"
    refine r_isXV T.xc_NoKey T.sv_NoKey (w.rd i2) ?_
    wtm_at "go"
    refine r_xf T.xc_NoKey T.no_NoKey_key (w.rd i2) rfl ?_
    wtm_at "go"
    refine r_xf T.xc_NoKey T.no_NoKey_key (w.rd i2) rfl ?_
    wtm_at "go"
    show Q _ _
    rw [decide_eq_true rfl]
    exact k _ _ s2 sw

/-- the law's own table stands ahead of the rest, as the Slots' -/
def Sd1 (D : Ad) (B H : Hp) (L : List Cell) (al d kp : Addr) (s : Sl) (kv : Kv) (ks : List Int) : Prop :=
  SlW D B H ((d, .dK (dkP kv)) :: L) al s (kv.length : Nat) ∧ SlI s kv ∧ s.st = (4, none, 0) ∧ B kp = some (.lst (ks.map V.int)) ∧ kv.length ≤ 3 ∧ (∀ k ∈ ks, 0 ≤ k) ∧ (ksP kv).Nodup
theorem SlW.own {D : Ad} {B H : Hp} {L : List Cell} {al p : Addr} {x : Sl} {m : Int} {o : HO} (h : SlW D B H ((p, o) :: L) al x m) : H p = some o := by
  obtain ⟨_, w⟩ := h.w
  exact w.get (List.mem_append_right _ (List.mem_cons_self ..))
theorem SlW.ownPut {D : Ad} {B H : Hp} {L : List Cell} {al p : Addr} {x : Sl} {m : Int} {o : HO} (h : SlW D B H ((p, o) :: L) al x m) (o' : HO) : SlW D B (upd H p o') ((p, o') :: L) al x m :=
  ⟨h.ob, h.yb, h.w.imp fun dx w => w.put o'⟩
def sp__law_stands (K : PySem.W.Frag) (D : Ad) : Sp := Sp3 fun x y z H Q _ => ∃ (al d kp : Addr) (s : Sl) (kv : Kv) (ks : List Int) (B : Hp) (L : List Cell), x = .ref al ∧ y = .ref d ∧ z = .ref kp ∧ Sd1 D B H L al d kp s kv ks ∧
  ∀ B' H', Same B B' → Sd1 D B' H' L al d kp s kv ks → Q (.bl true) H'
theorem ok__law_stands {D : Ad} (T : Txt K mg D) : FnOk P w K mg base (L2.CX P w) 8 D.a__law_stands D.d__law_stands ["_law_told", "_law_kept", "_law_keys_here"] (sp__law_stands K D) := by
  refine T.F__law_stands.okX sc__law_stands (fun vs H Q E h => sp3_len h) (fun cdv A outer s H vs Q E hr h => ⟨_, (pss_cons (ps_if (PW.pt (pw_or (pt_not (pt_val (pe_call (ok__law_whole T) (hr.mono (by decide)) rfl T.g__law_whole T.F__law_whole.kp T.b__law_whole .nil pX (pa_cons (pe_meth0 (pv 0) T.cl_Slots T.me_Slots_many (ok_Slots_many T) (hr.mono (by decide)) T.b_Slots_many .nil pX) pa_nil)))) (pw_or (pt_cmpR op_ne (pe_meth0 (pv 0) T.cl_Slots T.me_Slots_many (ok_Slots_many T) (hr.mono (by decide)) T.b_Slots_many .nil pX) (pe_callB call_lenDi (by rfl) T.n_len bt_len (pa_cons (pv 1) pa_nil)) (nomark _)) (pw_or (pt_cmpR (op_neD hr.units) (pe_meth0 (pv 0) T.cl_Slots T.me_Slots_rows (ok_Slots_rows T) (hr.mono (by decide)) T.b_Slots_rows .nil pX) (pe_lst (pa_cons pe_int pa_nil)) (nomark _)) (pw_or1 (pt_cmpR op_ne (pe_meth0 (pv 0) T.cl_Slots T.me_Slots_moved (ok_Slots_moved T) (hr.mono (by decide)) T.b_Slots_moved .nil pX) pe_int (nomark _)))))))
      (pss_one (ps_ret pe_bl))
      pss_nil)
    (pss_cons (ps_for (passes_of rfl) rfl (pi_list (pv 2)) (pg_name (i := 3) sc__law_stands.nd rfl (Or.inl rfl))
      (pss_cons (ps_if (PW.pt (pw_or (pt_cmpR op_ne (pe_meth (pv 0) T.cl_Slots T.me_Slots_has (ok_Slots_has T) (hr.mono (by decide)) T.b_Slots_has .nil pX (pa_cons (pv 3) pa_nil)) (pe_cmp (pc_din (hu_of hr) (pv 3) (pv 1)) rfl) (nomark _)) (pw_or1 (pt_not (pt_val (pe_callB call_isi (by rfl) T.n_isinstance bt_isinstance (pa_cons (pe_meth (pv 0) T.cl_Slots T.me_Slots_has (ok_Slots_has T) (hr.mono (by decide)) T.b_Slots_has .nil pX (pa_cons (pv 3) pa_nil)) (pa_cons (pe_bltn (v := .ty "bool") (by rfl) T.n_bool bt_bool rfl) pa_nil))))))))
        (pss_one (ps_ret pe_bl))
        pss_nil)
      (pss_cons (ps_if (PW.pt (pw_and (pt_cmp (pc_din (hu_of hr) (pv 3) (pv 1))) (pw_and1 (PW.pt (pw_or (pt_not (pt_val (pe_call (ok__law_whole T) (hr.mono (by decide)) rfl T.g__law_whole T.F__law_whole.kp T.b__law_whole .nil pX (pa_cons (pe_meth (pv 0) T.cl_Slots T.me_Slots_get (ok_Slots_get T) (hr.mono (by decide)) T.b_Slots_get .nil pX (pa_cons (pv 3) pa_nil)) pa_nil)))) (pw_or1 (pt_cmpR op_ne (pe_meth (pv 0) T.cl_Slots T.me_Slots_get (ok_Slots_get T) (hr.mono (by decide)) T.b_Slots_get .nil pX (pa_cons (pv 3) pa_nil)) (pe_dget (hu_of hr) (pv 1) (pv 3) (fun _ _ => rfl)) (nomark _))))))))
        (pss_one (ps_ret pe_bl))
        pss_nil)
      (pss_one (ps_if (PW.pt (pw_and (pt_cmp (pc_dnotin (hu_of hr) (pv 3) (pv 1))) (pw_and1 (pt_not (PW.pt (pw_and (pt_val (pe_call (ok__law_refused T) (hr.mono (by decide)) rfl T.g__law_refused T.F__law_refused.kp T.b__law_refused .nil pX (pa_cons (pv 0) (pa_cons (pv 3) (pa_cons pe_int pa_nil))))) (pw_and1 (pt_val (pe_call (ok__law_refused T) (hr.mono (by decide)) rfl T.g__law_refused T.F__law_refused.kp T.b__law_refused .nil pX (pa_cons (pv 0) (pa_cons (pv 3) (pa_cons pe_int pa_nil))))))))))))
        (pss_one (ps_ret pe_bl))
        pss_nil)))))
    (pss_one (ps_ret pe_bl)))), ?_⟩)
  obtain ⟨x0, x1, x2, rfl, h⟩ := h
  rw [show L2.start n__law_stands [x0, x1, x2] = [some x0, some x1, some x2, none] from rfl]
  try dsimp only [cxOf]
  obtain ⟨al, d, kp, s, kv, ks, B, L, rfl, rfl, rfl, ⟨sw, si, hst, hkp, hl3, hk0, hnd⟩, k⟩ := h
  obtain ⟨hsz, hs0⟩ := szs4 hst
  obtain ⟨dx, ho⟩ := sw.ob_
  wtm_at "go"
  refine r_meth ho rfl ?_
  wtm_at "go"
  refine ⟨_, rfl, al, dx, s, _, rfl, ho, ?_⟩
  wtm_at "go"
  refine r_meth ho rfl ?_
  wtm_at "go"
  refine ⟨_, rfl, al, dx, s, _, rfl, ho, ?_⟩
  wtm_at "go"
  refine r_lenD sw.own ?_
  rw [dkP_len]
  wtm_at "go"
  refine r_meth ho rfl ?_
  wtm_at "go"
  refine ⟨_, rfl, al, s, _, B, _, rfl, sw, fun p1 B1 H1 s1 sw => ?_⟩
  obtain ⟨B1', s1', i1, sw⟩ := sw.cellGive
  have s1 := same_trans s1 s1'
  clear s1'
  obtain ⟨A, w, back⟩ := sw.at_
  wtm_at "go"
  refine d_lst w (szl (by simp)) fun p2 B2 H2 hp2 s2 i2 w => ?_
  rw [hsz] at i1
  refine r_neLI (ns := [4]) (ms := [4]) (SqL.of (w.rd (s2 _ _ i1))) (SqL.of (w.rd i2)) ?_
  rw [decide_eq_true rfl]
  have sw := back _ _ s2 w
  clear back w
  obtain ⟨dx, ho⟩ := sw.ob_
  wtm_at "go"
  refine r_meth ho rfl ?_
  wtm_at "go"
  refine ⟨_, rfl, al, dx, s, _, rfl, ho, ?_⟩
  rw [hs0]
  wtm_at "go"
  have hkp := s2 _ _ (s1 _ _ hkp)
  obtain ⟨A, w, back⟩ := sw.at_
  refine r_il (SqL.of (w.rd hkp)) ?_
  clear back w
  refine FOR.list (K := K) (xs := ks.map V.int) (fun i σ H' => ∃ (v3 : Option V) (B' : Hp), σ = [some (.ref al), some (.ref d), some (.ref kp), v3] ∧ Same B2 B' ∧ SlW D B' H' ((d, .dK (dkP kv)) :: L) al s (kv.length : Nat)) ⟨none, B2, rfl, same_refl _, sw⟩
    (fun i σ H' _ ⟨_, _, _, s3, sw⟩ => by obtain ⟨A, w, _⟩ := sw.at_; exact SqL.of (w.rd (s3 _ _ hkp))) ?_ ?_
  · rintro i x σ H' hi ⟨v3, B3, rfl, s3, sw⟩
    obtain ⟨key, rfl, hkey, _⟩ := getV hi
    have h0 : 0 ≤ key := hk0 key (List.mem_of_getElem? hkey)
    obtain ⟨dx, ho⟩ := sw.ob_
    have hd := sw.own
    have hsm := (dkP_ks kv).isSome (n := key)
    wtm_at "go"
    refine r_meth ho rfl ?_
    wtm_at "go"
    refine ⟨_, _, rfl, al, s, _, kv, key, B3, _, rfl, rfl, h0, sw, si, ?_⟩
    wtm_at "go"
    refine r_din hd ?_
    rw [hsm]
    refine r_neB2 ?_
    wtm_at "go"
    refine r_meth ho rfl ?_
    wtm_at "go"
    refine ⟨_, _, rfl, al, s, _, kv, key, B3, _, rfl, rfl, h0, sw, si, ?_⟩
    wtm_at "go"
    refine r_din hd ?_
    rw [hsm]
    by_cases c : key ∈ ksP kv
    · obtain ⟨v, hv⟩ := getP_ex c
      rw [decide_eq_true c] at hsm ⊢
      wtm_at "go"
      refine r_meth ho rfl ?_
      wtm_at "go"
      refine ⟨_, _, rfl, al, s, _, kv, key, B3, _, rfl, rfl, h0, sw, si, .inl ⟨v, hv, ?_⟩⟩
      wtm_at "go"
      refine r_meth ho rfl ?_
      wtm_at "go"
      refine ⟨_, _, rfl, al, s, _, kv, key, B3, _, rfl, rfl, h0, sw, si, .inl ⟨v, hv, ?_⟩⟩
      wtm_at "go"
      refine r_dge hd (v := .int v) (by rw [dkP_get, hv]; rfl) ?_
      wtm_at "go"
      refine r_dni hd ?_
      rw [hsm]
      wtm_at "go"
      exact ⟨_, B3, rfl, s3, sw⟩
    · rw [decide_eq_false c] at hsm ⊢
      wtm_at "go"
      refine r_dni hd ?_
      rw [hsm]
      wtm_at "go"
      refine ⟨_, _, _, rfl, al, s, kv, key, 0, B3, _, rfl, rfl, rfl, .inl rfl, h0, by omega, c, sw, si, fun B4 H4 s4 sw => ?_⟩
      wtm_at "go"
      refine ⟨_, _, _, rfl, al, s, kv, key, 1, B4, _, rfl, rfl, rfl, .inr rfl, h0, by omega, c, sw, si, fun B5 H5 s5 sw => ?_⟩
      wtm_at "go"
      exact ⟨_, B5, rfl, same_trans s3 (same_trans s4 s5), sw⟩
  · rintro σ H' ⟨v3, B3, rfl, s3, sw⟩
    wtm_at "go"
    exact k B3 _ (same_trans s1 (same_trans s2 s3)) ⟨sw, si, hst, s3 _ _ hkp, hl3, hk0, hnd⟩

theorem ok_law {D : Ad} (T : Txt K mg D) : FnOk P w K mg base (L2.CX P w) 9 D.a_law D.d_law ["_law_script"] (sp_law K D) := by
  refine T.F_law.okX sc_law (fun vs H Q E h => sp1_len h) (fun cdv A outer s H vs Q E hr h => ⟨_, (pss_cons (ps_set (i := 1) sc_law.nd rfl (Or.inl rfl) (pe_make0 T.mk_Slots (ok_Slots_init T) (hr.mono (by decide)) rfl T.g_Slots T.b_Slots_init .nil pX))
    (pss_cons (ps_set (i := 2) sc_law.nd rfl (Or.inl rfl) (pe_call (ok__law_keys T) (hr.mono (by decide)) rfl T.g__law_keys T.F__law_keys.kp T.b__law_keys .nil pX (pa_cons (pv 0) pa_nil)))
    (pss_cons (ps_set (i := 3) sc_law.nd rfl (Or.inl rfl) pe_dnewK)
    (pss_cons (ps_if (pt_not (pt_val (pe_call (ok__law_stands T) (hr.mono (by decide)) rfl T.g__law_stands T.F__law_stands.kp T.b__law_stands .nil pX (pa_cons (pv 1) (pa_cons (pv 3) (pa_cons (pv 2) pa_nil))))))
      (pss_one (ps_ret pe_bl))
      pss_nil)
    (pss_cons (ps_for (passes_of rfl) rfl (pi_list (pe_lst (pa_cons pe_int (pa_cons pe_int (pa_cons pe_int (pa_cons pe_int (pa_cons pe_int pa_nil))))))) (pg_name (i := 4) sc_law.nd rfl (Or.inl rfl))
      (pss_cons (ps_set (i := 5) sc_law.nd rfl (Or.inl rfl) (pe_call (ok__law_value T) (hr.mono (by decide)) rfl T.g__law_value T.F__law_value.kp T.b__law_value .nil pX (pa_cons (pv 0) (pa_cons (pe_op op_add (pe_op op_add pe_int (pv 4)) (pe_callB call_lenDi (by rfl) T.n_len bt_len (pa_cons (pv 3) pa_nil))) pa_nil))))
      (pss_cons (ps_if (pt_cmpR op_notNo (pe_meth (pv 1) T.cl_Slots T.me_Slots_put (ok_Slots_put T) (hr.mono (by decide)) T.b_Slots_put .nil pX (pa_cons (pe_ix ix_list (pv 2) (pv 4) (fun _ _ => rfl)) (pa_cons (pv 5) pa_nil))) pe_non (nomark _))
        (pss_one (ps_ret pe_bl))
        pss_nil)
      (pss_cons (ps_dput (hu_of hr) (pv 3) (pe_ix ix_list (pv 2) (pv 4) (fun _ _ => rfl)) (pv 5) rfl)
      (pss_one (ps_if (pt_not (pt_val (pe_call (ok__law_stands T) (hr.mono (by decide)) rfl T.g__law_stands T.F__law_stands.kp T.b__law_stands .nil pX (pa_cons (pv 1) (pa_cons (pv 3) (pa_cons (pv 2) pa_nil))))))
        (pss_one (ps_ret pe_bl))
        pss_nil))))))
    (pss_cons (ps_set (i := 6) sc_law.nd rfl (Or.inl rfl) (pe_ix ix_list (pv 2) (pe_op op_mod (pe_call (ok__law_cell_at T) (hr.mono (by decide)) rfl T.g__law_cell_at T.F__law_cell_at.kp T.b__law_cell_at .nil pX (pa_cons (pv 0) (pa_cons pe_int pa_nil))) pe_int) (fun _ _ => rfl)))
    (pss_cons (ps_if (pt_cmpR op_notNo (pe_meth (pv 1) T.cl_Slots T.me_Slots_drop (ok_Slots_drop T) (hr.mono (by decide)) T.b_Slots_drop .nil pX (pa_cons (pv 6) pa_nil)) pe_non (nomark _))
      (pss_one (ps_ret pe_bl))
      pss_nil)
    (pss_cons (ps_expr (pe_dpop1 (pv 3) (pv 6) ⟨rfl, by rfl, rfl, rfl⟩))
    (pss_one (ps_ret (pe_call (ok__law_stands T) (hr.mono (by decide)) rfl T.g__law_stands T.F__law_stands.kp T.b__law_stands .nil pX (pa_cons (pv 1) (pa_cons (pv 3) (pa_cons (pv 2) pa_nil)))))))))))))), ?_⟩)
  obtain ⟨x0, rfl, h⟩ := h
  rw [show L2.start n_law [x0] = [some x0, none, none, none, none, none, none] from rfl]
  try dsimp only [cxOf]
  obtain ⟨a, ns, rfl, hS, hlen, k⟩ := h
  obtain ⟨B0, hS, w⟩ := W.law hS
  wtm_at "go"
  refine mk_slots w fun al s0 B1 H1 s1 st0 si sw => ?_
  have hS := Z.Same.sq s1 hS
  obtain ⟨A, w, back⟩ := sw.at_
  wtm_at "go"
  refine ⟨_, rfl, a, ns, B1, A, rfl, hS, w, fun kp k0 k1 k2 B2 H2 s2 i2 g0 g1 g2 w => ?_⟩
  have hS := Z.Same.sq s2 hS
  have sw := back _ _ s2 w
  clear back w
  wtm_at "go"
  intro d hd0
  have sw : SlW D B2 (upd H2 d (.dK (dkP []))) [(d, .dK (dkP []))] al s0 (([] : Kv).length : Nat) := ⟨sw.ob, sw.yb, sw.w.imp fun dx w => (w.newL hd0 _).perm (List.perm_middle (l₁ := slC D al dx s0 _) (l₂ := [])).symm⟩
  have hpos : ∀ k ∈ [k0, k1, k2], 0 ≤ k := by
    intro k hk
    simp only [List.mem_cons, List.not_mem_nil, or_false] at hk
    omega
  wtm_at "go"
  refine ⟨_, _, _, rfl, al, d, kp, s0, [], [k0, k1, k2], B2, [], rfl, rfl, rfl, ⟨sw, si, st0, i2, by simp, hpos, by simp [ksP]⟩, fun B3 H3 s3 sd => ?_⟩
  have hS := Z.Same.sq s3 hS
  obtain ⟨A, w, back⟩ := sd.1.at_
  wtm_at "go"
  refine d_lst w (szl (by simp)) fun p4 B4 H4 hp4 s4 i4 w => ?_
  have hS := Z.Same.sq s4 hS
  have sd : Sd1 D B4 H4 [] al d kp s0 [] [k0, k1, k2] := ⟨back _ _ s4 w, sd.2.1, sd.2.2.1, s4 _ _ sd.2.2.2.1, sd.2.2.2.2⟩
  have i4 : B4 p4 = some (.lst (([0, 1, 0, 2, 1] : List Int).map V.int)) := i4
  refine r_il (SqL.of (w.rd i4)) ?_
  clear back w
  refine FOR.list (K := K) (xs := ([0, 1, 0, 2, 1] : List Int).map V.int) (fun i σ H' => ∃ (v4 v5 : Option V) (B' : Hp) (s : Sl) (kv : Kv), σ = [some (.ref a), some (.ref al), some (.ref kp), some (.ref d), v4, v5, none] ∧ Same B4 B' ∧ ksP kv = [k0, k1, k2].take (fi i) ∧ Sd1 D B' H' [] al d kp s kv [k0, k1, k2]) ⟨none, none, B4, s0, [], rfl, same_refl _, rfl, sd⟩
    (fun i σ H' _ ⟨_, _, _, _, _, _, s5, _, sd⟩ => by obtain ⟨A, w, _⟩ := sd.1.at_; exact SqL.of (w.rd (s5 _ _ i4))) ?_ ?_
  · rintro i x σ H' hi ⟨v4, v5, B5, s, kv, rfl, s5, hk, ⟨sw, si, hst, hkp, hl3, hk0, hnd⟩⟩
    obtain ⟨j, rfl, hj, _⟩ := getV hi
    have hS := Z.Same.sq s5 hS
    have h01 : k0 ≠ k1 := by omega
    have h02 : k0 ≠ k2 := by omega
    have h12 : k1 ≠ k2 := by omega
    obtain ⟨_, _, _, _, hj0⟩ := fi_step (v := 0) h01 h02 h12 hk hj
    obtain ⟨jn, rfl⟩ := Int.eq_ofNat_of_zero_le hj0
    obtain ⟨A, w, back⟩ := sw.at_
    wtm_at "go"
    refine r_lenD sw.own ?_
    rw [dkP_len]
    wtm_at "go"
    refine ⟨_, _, rfl, a, ns, 2 + jn + kv.length, rfl, by push_cast; rfl, w.sq hS, fun v => ?_⟩
    obtain ⟨key, hkm, hat, hks, _⟩ := fi_step (v := v) h01 h02 h12 hk hj
    have hlen2 : (putP kv key v).length ≤ 3 := by
      rw [← ksP_len, hks, List.length_take]
      exact Nat.min_le_right ..
    obtain ⟨dx, ho⟩ := sw.ob_
    wtm_at "go"
    refine r_meth ho rfl ?_
    wtm_at "go"
    refine r_ixL (SqL.of (w.rd hkp)) hat ?_
    wtm_at "go"
    refine ⟨_, _, _, rfl, al, s, kv, key, v, B5, _, rfl, rfl, rfl, hk0 _ hkm, by omega, sw, si, fun B6 H6 s6' e6 sw si est => ?_⟩
    have hkp := e6 _ _ hkp
    wtm_at "go"
    obtain ⟨A, w, back⟩ := sw.at_
    refine r_ixL (SqL.of (w.rd hkp)) hat ?_
    clear back w
    refine r_dpu sw.own (szlt (by rw [dkP_len]; omega)) ?_
    rw [dkP_put]
    have sw := sw.ownPut (.dK (dkP (putP kv key v)))
    rw [hst, turn4 hlen2] at est
    wtm_at "go"
    refine ⟨_, _, _, rfl, al, d, kp, s6', _, [k0, k1, k2], B6, [], rfl, rfl, rfl, ⟨sw, si, est, hkp, hlen2, hk0, nd_put hnd⟩, fun B7 H7 s7 sd => ?_⟩
    wtm_at "go"
    exact ⟨_, _, B7, s6', _, rfl, same_trans s5 (same_trans e6 s7), hks, sd⟩
  · rintro σ H' ⟨v4, v5, B5, s, kv, rfl, s5, hk, ⟨sw, si, hst, hkp, hl3, hk0, hnd⟩⟩
    have hk : ksP kv = [k0, k1, k2] := hk
    have hS := Z.Same.sq s5 hS
    obtain ⟨A, w, back⟩ := sw.at_
    wtm_at "go"
    generalize ns.getD 9 0 = c9
    obtain ⟨gone, hg, e⟩ := atI_ex (ns := [k0, k1, k2]) (i := c9 % 3) (by omega) (by simp only [List.length_cons, List.length_nil]; omega)
    refine r_ixL (SqL.of (w.rd hkp)) e ?_
    clear back w
    have hm : gone ∈ ksP kv := by rw [hk]; exact hg
    obtain ⟨dx, ho⟩ := sw.ob_
    wtm_at "go"
    refine r_meth ho rfl ?_
    wtm_at "go"
    refine ⟨_, _, rfl, al, s, kv, gone, B5, _, rfl, rfl, hk0 _ hg, by omega, sw, si, .inl ⟨hm, fun B6 H6 s6' e6 sw si est => ?_⟩⟩
    have hkp := e6 _ _ hkp
    obtain ⟨v, hv⟩ := getP_ex hm
    wtm_at "go"
    refine g_dpop1 ?_
    wtm_at "go"
    refine r_dpop1 (isD_of sw.own) ?_
    wtm_at "go"
    refine r_dp1 sw.own (v := .int v) (by rw [dkP_get, hv]; rfl) ?_
    rw [dkP_del]
    have sw := sw.ownPut (.dK (dkP (delP kv gone)))
    have hdl := del_len hnd hm
    rw [hst, turn4 (by omega)] at est
    wtm_at "go"
    refine ⟨_, _, _, rfl, al, d, kp, s6', _, [k0, k1, k2], B6, [], rfl, rfl, rfl, ⟨sw, si, est, hkp, by omega, hk0, nd_del hnd⟩, fun B7 H7 s7 sd => ?_⟩
    with_reducible exact k _


end
theorem all_mk {l : PySem.W.OpenLaw} {w : World} {K : PySem.W.Frag} {h : Heap} {mg : Str → Option Value} {fa f1 f2 f3 f4 f5 f6 f7 f8 f9 f10 f11 f12 f13 f14 f15 f16 f17 f18 f19 f20 f21 f22 f23 f24 f25 C_WalkError C_NoKey C_Twice C_Bank C_Slots : Addr} (X : K.In h) (G : h.Ns mainGlobals mg) (hfa : mg "law" = some (.ref fa))
    {nm_WalkError q_WalkError : Str} {N_WalkError : Addr} {bs_WalkError : List Value} {sn_WalkError : List Str} {su_WalkError : List Value} {ab_WalkError : Bool} {co_WalkError : Option Bool} {dd_WalkError : Option Addr} {m0_WalkError m1_WalkError m2_WalkError m3_WalkError m5_WalkError : Option Value}
    {nm_NoKey q_NoKey : Str} {N_NoKey : Addr} {bs_NoKey : List Value} {sn_NoKey : List Str} {su_NoKey : List Value} {ab_NoKey : Bool} {co_NoKey : Option Bool} {dd_NoKey : Option Addr} {m0_NoKey m1_NoKey m2_NoKey m3_NoKey m5_NoKey : Option Value}
    {nm_Twice q_Twice : Str} {N_Twice : Addr} {bs_Twice : List Value} {sn_Twice : List Str} {su_Twice : List Value} {ab_Twice : Bool} {co_Twice : Option Bool} {dd_Twice : Option Addr} {m0_Twice m1_Twice m2_Twice m3_Twice m5_Twice : Option Value}
    {od1 an1 od2 an2 od3 an3 od4 an4 od5 an5 od6 an6 od7 an7 od8 an8 od9 an9 od10 an10 od11 an11 od12 an12 od13 an13 od14 an14 od15 an15 od16 an16 od17 an17 od18 an18 od19 an19 od20 an20 od21 an21 od22 an22 od23 an23 od24 an24 od25 an25 : Option Addr} {sl1 sl2 sl3 sl4 sl5 sl6 sl7 sl8 sl9 sl10 sl11 sl12 sl13 sl14 sl15 sl16 sl17 sl18 sl19 sl20 sl21 sl22 sl23 sl24 sl25 : Array (Option Value)} {oc1 kV1 dc1 pm1 cd1 ct1 oc2 kV2 dc2 pm2 cd2 ct2 oc3 kV3 dc3 pm3 cd3 ct3 oc4 kV4 dc4 pm4 cd4 ct4 oc5 kV5 dc5 pm5 cd5 ct5 oc6 kV6 dc6 pm6 cd6 ct6 oc7 kV7 dc7 pm7 cd7 ct7 oc8 kV8 dc8 pm8 cd8 ct8 oc9 kV9 dc9 pm9 cd9 ct9 oc10 kV10 dc10 pm10 cd10 ct10 oc11 kV11 dc11 pm11 cd11 ct11 oc12 kV12 dc12 pm12 cd12 ct12 oc13 kV13 dc13 pm13 cd13 ct13 oc14 kV14 dc14 pm14 cd14 ct14 oc15 kV15 dc15 pm15 cd15 ct15 oc16 kV16 dc16 pm16 cd16 ct16 oc17 kV17 dc17 pm17 cd17 ct17 oc18 kV18 dc18 pm18 cd18 ct18 oc19 kV19 dc19 pm19 cd19 ct19 oc20 kV20 dc20 pm20 cd20 ct20 oc21 kV21 dc21 pm21 cd21 ct21 oc22 kV22 dc22 pm22 cd22 ct22 oc23 kV23 dc23 pm23 cd23 ct23 oc24 kV24 dc24 pm24 cd24 ct24 oc25 kV25 dc25 pm25 cd25 ct25 : Value} {tk_PLACES tk_LEAST_SIZE tk_MOST_SIZE : Tok}
    (a1 : PySem.W.findIn K (.ref C_Bank) "__init__" = some (some (.ref f1)))
    (i1 : PySem.W.isFn K (.ref f1) = true)
    (l1 : K.lookup f1 = some ⟨oc1, od1, .func (PySem.W.fnOf "__init__" "Bank.__init__" (defArgs s_Bank_init) (defBody s_Bank_init) (defScope s_Bank_init) .none kV1 dc1 pm1 an1 cd1 ct1), sl1⟩)
    (c1 : PySem.W.codeIn K cd1 "Bank.__init__" = true)
    (k1 : PySem.W.keepIn K (.ref f1) = true)
    (a2 : PySem.W.findIn K (.ref C_Slots) "__init__" = some (some (.ref f2)))
    (i2 : PySem.W.isFn K (.ref f2) = true)
    (l2 : K.lookup f2 = some ⟨oc2, od2, .func (PySem.W.fnOf "__init__" "Slots.__init__" (defArgs s_Slots_init) (defBody s_Slots_init) (defScope s_Slots_init) .none kV2 dc2 pm2 an2 cd2 ct2), sl2⟩)
    (c2 : PySem.W.codeIn K cd2 "Slots.__init__" = true)
    (k2 : PySem.W.keepIn K (.ref f2) = true)
    (a3 : PySem.W.findIn K (.ref C_Slots) "begin_row" = some (some (.ref f3)))
    (i3 : PySem.W.isFn K (.ref f3) = true)
    (l3 : K.lookup f3 = some ⟨oc3, od3, .func (PySem.W.fnOf "begin_row" "Slots.begin_row" (defArgs s_Slots_begin_row) (defBody s_Slots_begin_row) (defScope s_Slots_begin_row) .none kV3 dc3 pm3 an3 cd3 ct3), sl3⟩)
    (c3 : PySem.W.codeIn K cd3 "Slots.begin_row" = true)
    (k3 : PySem.W.keepIn K (.ref f3) = true)
    (a4 : PySem.W.nsIn K mainGlobals "mark_of" = some (some (.ref f4)))
    (l4 : K.lookup f4 = some ⟨oc4, od4, .func (PySem.W.fnOf "mark_of" "mark_of" (defArgs s_mark_of) (defBody s_mark_of) (defScope s_mark_of) .none kV4 dc4 pm4 an4 cd4 ct4), sl4⟩)
    (c4 : PySem.W.codeIn K cd4 "mark_of" = true)
    (k4 : PySem.W.keepIn K (.ref f4) = true)
    (a5 : PySem.W.nsIn K mainGlobals "slot_of" = some (some (.ref f5)))
    (l5 : K.lookup f5 = some ⟨oc5, od5, .func (PySem.W.fnOf "slot_of" "slot_of" (defArgs s_slot_of) (defBody s_slot_of) (defScope s_slot_of) .none kV5 dc5 pm5 an5 cd5 ct5), sl5⟩)
    (c5 : PySem.W.codeIn K cd5 "slot_of" = true)
    (k5 : PySem.W.keepIn K (.ref f5) = true)
    (a6 : PySem.W.findIn K (.ref C_Bank) "lot_of" = some (some (.ref f6)))
    (i6 : PySem.W.isFn K (.ref f6) = true)
    (l6 : K.lookup f6 = some ⟨oc6, od6, .func (PySem.W.fnOf "lot_of" "Bank.lot_of" (defArgs s_Bank_lot_of) (defBody s_Bank_lot_of) (defScope s_Bank_lot_of) .none kV6 dc6 pm6 an6 cd6 ct6), sl6⟩)
    (c6 : PySem.W.codeIn K cd6 "Bank.lot_of" = true)
    (k6 : PySem.W.keepIn K (.ref f6) = true)
    (a7 : PySem.W.findIn K (.ref C_Slots) "home" = some (some (.ref f7)))
    (i7 : PySem.W.isFn K (.ref f7) = true)
    (l7 : K.lookup f7 = some ⟨oc7, od7, .func (PySem.W.fnOf "home" "Slots.home" (defArgs s_Slots_home) (defBody s_Slots_home) (defScope s_Slots_home) .none kV7 dc7 pm7 an7 cd7 ct7), sl7⟩)
    (c7 : PySem.W.codeIn K cd7 "Slots.home" = true)
    (k7 : PySem.W.keepIn K (.ref f7) = true)
    (a8 : PySem.W.findIn K (.ref C_Slots) "move_next" = some (some (.ref f8)))
    (i8 : PySem.W.isFn K (.ref f8) = true)
    (l8 : K.lookup f8 = some ⟨oc8, od8, .func (PySem.W.fnOf "move_next" "Slots.move_next" (defArgs s_Slots_move_next) (defBody s_Slots_move_next) (defScope s_Slots_move_next) .none kV8 dc8 pm8 an8 cd8 ct8), sl8⟩)
    (c8 : PySem.W.codeIn K cd8 "Slots.move_next" = true)
    (k8 : PySem.W.keepIn K (.ref f8) = true)
    (a9 : PySem.W.findIn K (.ref C_NoKey) "__init__" = some (some (.ref f9)))
    (i9 : PySem.W.isFn K (.ref f9) = true)
    (l9 : K.lookup f9 = some ⟨oc9, od9, .func (PySem.W.fnOf "__init__" "NoKey.__init__" (defArgs s_NoKey_init) (defBody s_NoKey_init) (defScope s_NoKey_init) .none kV9 dc9 pm9 an9 cd9 ct9), sl9⟩)
    (c9 : PySem.W.codeIn K cd9 "NoKey.__init__" = true)
    (k9 : PySem.W.keepIn K (.ref f9) = true)
    (a10 : PySem.W.findIn K (.ref C_Slots) "sure" = some (some (.ref f10)))
    (i10 : PySem.W.isFn K (.ref f10) = true)
    (l10 : K.lookup f10 = some ⟨oc10, od10, .func (PySem.W.fnOf "sure" "Slots.sure" (defArgs s_Slots_sure) (defBody s_Slots_sure) (defScope s_Slots_sure) .none kV10 dc10 pm10 an10 cd10 ct10), sl10⟩)
    (c10 : PySem.W.codeIn K cd10 "Slots.sure" = true)
    (k10 : PySem.W.keepIn K (.ref f10) = true)
    (a11 : PySem.W.findIn K (.ref C_Slots) "drop" = some (some (.ref f11)))
    (i11 : PySem.W.isFn K (.ref f11) = true)
    (l11 : K.lookup f11 = some ⟨oc11, od11, .func (PySem.W.fnOf "drop" "Slots.drop" (defArgs s_Slots_drop) (defBody s_Slots_drop) (defScope s_Slots_drop) .none kV11 dc11 pm11 an11 cd11 ct11), sl11⟩)
    (c11 : PySem.W.codeIn K cd11 "Slots.drop" = true)
    (k11 : PySem.W.keepIn K (.ref f11) = true)
    (a12 : PySem.W.findIn K (.ref C_Slots) "put" = some (some (.ref f12)))
    (i12 : PySem.W.isFn K (.ref f12) = true)
    (l12 : K.lookup f12 = some ⟨oc12, od12, .func (PySem.W.fnOf "put" "Slots.put" (defArgs s_Slots_put) (defBody s_Slots_put) (defScope s_Slots_put) .none kV12 dc12 pm12 an12 cd12 ct12), sl12⟩)
    (c12 : PySem.W.codeIn K cd12 "Slots.put" = true)
    (k12 : PySem.W.keepIn K (.ref f12) = true)
    (a13 : PySem.W.nsIn K mainGlobals "_law_cell_at" = some (some (.ref f13)))
    (l13 : K.lookup f13 = some ⟨oc13, od13, .func (PySem.W.fnOf "_law_cell_at" "_law_cell_at" (defArgs s__law_cell_at) (defBody s__law_cell_at) (defScope s__law_cell_at) .none kV13 dc13 pm13 an13 cd13 ct13), sl13⟩)
    (c13 : PySem.W.codeIn K cd13 "_law_cell_at" = true)
    (k13 : PySem.W.keepIn K (.ref f13) = true)
    (a14 : PySem.W.nsIn K mainGlobals "_law_keys" = some (some (.ref f14)))
    (l14 : K.lookup f14 = some ⟨oc14, od14, .func (PySem.W.fnOf "_law_keys" "_law_keys" (defArgs s__law_keys) (defBody s__law_keys) (defScope s__law_keys) .none kV14 dc14 pm14 an14 cd14 ct14), sl14⟩)
    (c14 : PySem.W.codeIn K cd14 "_law_keys" = true)
    (k14 : PySem.W.keepIn K (.ref f14) = true)
    (a15 : PySem.W.findIn K (.ref C_Slots) "get" = some (some (.ref f15)))
    (i15 : PySem.W.isFn K (.ref f15) = true)
    (l15 : K.lookup f15 = some ⟨oc15, od15, .func (PySem.W.fnOf "get" "Slots.get" (defArgs s_Slots_get) (defBody s_Slots_get) (defScope s_Slots_get) .none kV15 dc15 pm15 an15 cd15 ct15), sl15⟩)
    (c15 : PySem.W.codeIn K cd15 "Slots.get" = true)
    (k15 : PySem.W.keepIn K (.ref f15) = true)
    (a16 : PySem.W.findIn K (.ref C_Slots) "has" = some (some (.ref f16)))
    (i16 : PySem.W.isFn K (.ref f16) = true)
    (l16 : K.lookup f16 = some ⟨oc16, od16, .func (PySem.W.fnOf "has" "Slots.has" (defArgs s_Slots_has) (defBody s_Slots_has) (defScope s_Slots_has) .none kV16 dc16 pm16 an16 cd16 ct16), sl16⟩)
    (c16 : PySem.W.codeIn K cd16 "Slots.has" = true)
    (k16 : PySem.W.keepIn K (.ref f16) = true)
    (a17 : PySem.W.findIn K (.ref C_Slots) "many" = some (some (.ref f17)))
    (i17 : PySem.W.isFn K (.ref f17) = true)
    (l17 : K.lookup f17 = some ⟨oc17, od17, .func (PySem.W.fnOf "many" "Slots.many" (defArgs s_Slots_many) (defBody s_Slots_many) (defScope s_Slots_many) .none kV17 dc17 pm17 an17 cd17 ct17), sl17⟩)
    (c17 : PySem.W.codeIn K cd17 "Slots.many" = true)
    (k17 : PySem.W.keepIn K (.ref f17) = true)
    (a18 : PySem.W.findIn K (.ref C_Slots) "moved" = some (some (.ref f18)))
    (i18 : PySem.W.isFn K (.ref f18) = true)
    (l18 : K.lookup f18 = some ⟨oc18, od18, .func (PySem.W.fnOf "moved" "Slots.moved" (defArgs s_Slots_moved) (defBody s_Slots_moved) (defScope s_Slots_moved) .none kV18 dc18 pm18 an18 cd18 ct18), sl18⟩)
    (c18 : PySem.W.codeIn K cd18 "Slots.moved" = true)
    (k18 : PySem.W.keepIn K (.ref f18) = true)
    (a19 : PySem.W.findIn K (.ref C_Slots) "banks" = some (some (.ref f19)))
    (i19 : PySem.W.isFn K (.ref f19) = true)
    (l19 : K.lookup f19 = some ⟨oc19, od19, .func (PySem.W.fnOf "banks" "Slots.banks" (defArgs s_Slots_banks) (defBody s_Slots_banks) (defScope s_Slots_banks) .none kV19 dc19 pm19 an19 cd19 ct19), sl19⟩)
    (c19 : PySem.W.codeIn K cd19 "Slots.banks" = true)
    (k19 : PySem.W.keepIn K (.ref f19) = true)
    (a20 : PySem.W.findIn K (.ref C_Slots) "rows" = some (some (.ref f20)))
    (i20 : PySem.W.isFn K (.ref f20) = true)
    (l20 : K.lookup f20 = some ⟨oc20, od20, .func (PySem.W.fnOf "rows" "Slots.rows" (defArgs s_Slots_rows) (defBody s_Slots_rows) (defScope s_Slots_rows) .none kV20 dc20 pm20 an20 cd20 ct20), sl20⟩)
    (c20 : PySem.W.codeIn K cd20 "Slots.rows" = true)
    (k20 : PySem.W.keepIn K (.ref f20) = true)
    (a21 : PySem.W.nsIn K mainGlobals "_law_whole" = some (some (.ref f21)))
    (l21 : K.lookup f21 = some ⟨oc21, od21, .func (PySem.W.fnOf "_law_whole" "_law_whole" (defArgs s__law_whole) (defBody s__law_whole) (defScope s__law_whole) .none kV21 dc21 pm21 an21 cd21 ct21), sl21⟩)
    (c21 : PySem.W.codeIn K cd21 "_law_whole" = true)
    (k21 : PySem.W.keepIn K (.ref f21) = true)
    (a22 : PySem.W.nsIn K mainGlobals "_law_refused" = some (some (.ref f22)))
    (l22 : K.lookup f22 = some ⟨oc22, od22, .func (PySem.W.fnOf "_law_refused" "_law_refused" (defArgs s__law_refused) (defBody s__law_refused) (defScope s__law_refused) .none kV22 dc22 pm22 an22 cd22 ct22), sl22⟩)
    (c22 : PySem.W.codeIn K cd22 "_law_refused" = true)
    (k22 : PySem.W.keepIn K (.ref f22) = true)
    (a23 : PySem.W.nsIn K mainGlobals "_law_stands" = some (some (.ref f23)))
    (l23 : K.lookup f23 = some ⟨oc23, od23, .func (PySem.W.fnOf "_law_stands" "_law_stands" (defArgs s__law_stands) (defBody s__law_stands) (defScope s__law_stands) .none kV23 dc23 pm23 an23 cd23 ct23), sl23⟩)
    (c23 : PySem.W.codeIn K cd23 "_law_stands" = true)
    (k23 : PySem.W.keepIn K (.ref f23) = true)
    (a24 : PySem.W.nsIn K mainGlobals "_law_value" = some (some (.ref f24)))
    (l24 : K.lookup f24 = some ⟨oc24, od24, .func (PySem.W.fnOf "_law_value" "_law_value" (defArgs s__law_value) (defBody s__law_value) (defScope s__law_value) .none kV24 dc24 pm24 an24 cd24 ct24), sl24⟩)
    (c24 : PySem.W.codeIn K cd24 "_law_value" = true)
    (k24 : PySem.W.keepIn K (.ref f24) = true)
    (a25 : PySem.W.nsIn K mainGlobals "law" = some (some (.ref f25)))
    (l25 : K.lookup f25 = some ⟨oc25, od25, .func (PySem.W.fnOf "law" "law" (defArgs s_law) (defBody s_law) (defScope s_law) .none kV25 dc25 pm25 an25 cd25 ct25), sl25⟩)
    (c25 : PySem.W.codeIn K cd25 "law" = true)
    (k25 : PySem.W.keepIn K (.ref f25) = true)
    (aC_WalkError : PySem.W.nsIn K mainGlobals "WalkError" = some (some (.ref C_WalkError)))
    (xL_WalkError : K.lookup C_WalkError = some (excClassObj nm_WalkError q_WalkError C_WalkError N_WalkError bs_WalkError [.type "ValueError", .type "Exception", .type "BaseException", .type "object"] true sn_WalkError su_WalkError ab_WalkError co_WalkError dd_WalkError m0_WalkError m1_WalkError m2_WalkError m3_WalkError m5_WalkError "ValueError.__new__"))
    (xa_WalkError : PySem.W.findIn K (.ref C_WalkError) "__setattr__" = some (some (.builtin "object.__setattr__")))
    (xe_WalkError : PySem.W.subIn K (.ref C_WalkError) (.type "BaseException") = some true)
    (xt_WalkError : PySem.W.typeIn K (.ref C_WalkError) = some (.type "type"))
    (xk_WalkError : PySem.W.keepIn K (.ref C_WalkError) = true)
    (xg_WalkError : PySem.W.findIn K (.ref C_WalkError) "__getattribute__" = some (some (.builtin "BaseException.__getattribute__")))
    (xn_WalkError : PySem.W.findIn K (.ref C_WalkError) "__getattr__" = some none)
    (xd_WalkError : PySem.W.hasDictIn K C_WalkError = true)
    (xc_WalkError : PySem.W.findIn K (.ref C_WalkError) "__class__" = some (some (.builtin "object.__class__")))
    (xs_WalkError : PySem.W.specialIn K (.builtin "object.__class__") "__get__" = some (some (.builtin "getset_descriptor.__get__")))
    (xj_WalkError : PySem.W.takesIn K (.builtin "object.__class__") = some true)
    (xm_WalkError : PySem.W.mroIn K C_WalkError (.type "object") = some true)
    (xl_WalkError : PySem.W.subIn K (.ref C_WalkError) (.ref C_WalkError) = some true)
    (aC_NoKey : PySem.W.nsIn K mainGlobals "NoKey" = some (some (.ref C_NoKey)))
    (xL_NoKey : K.lookup C_NoKey = some (excClassObj nm_NoKey q_NoKey C_NoKey N_NoKey bs_NoKey [.ref C_WalkError, .type "ValueError", .type "Exception", .type "BaseException", .type "object"] true sn_NoKey su_NoKey ab_NoKey co_NoKey dd_NoKey m0_NoKey m1_NoKey m2_NoKey m3_NoKey m5_NoKey "ValueError.__new__"))
    (xa_NoKey : PySem.W.findIn K (.ref C_NoKey) "__setattr__" = some (some (.builtin "object.__setattr__")))
    (xe_NoKey : PySem.W.subIn K (.ref C_NoKey) (.type "BaseException") = some true)
    (xt_NoKey : PySem.W.typeIn K (.ref C_NoKey) = some (.type "type"))
    (xk_NoKey : PySem.W.keepIn K (.ref C_NoKey) = true)
    (xg_NoKey : PySem.W.findIn K (.ref C_NoKey) "__getattribute__" = some (some (.builtin "BaseException.__getattribute__")))
    (xn_NoKey : PySem.W.findIn K (.ref C_NoKey) "__getattr__" = some none)
    (xd_NoKey : PySem.W.hasDictIn K C_NoKey = true)
    (xc_NoKey : PySem.W.findIn K (.ref C_NoKey) "__class__" = some (some (.builtin "object.__class__")))
    (xs_NoKey : PySem.W.specialIn K (.builtin "object.__class__") "__get__" = some (some (.builtin "getset_descriptor.__get__")))
    (xj_NoKey : PySem.W.takesIn K (.builtin "object.__class__") = some true)
    (xm_NoKey : PySem.W.mroIn K C_NoKey (.type "object") = some true)
    (xl_NoKey : PySem.W.subIn K (.ref C_NoKey) (.ref C_NoKey) = some true)
    (sv_NoKey : PySem.W.subIn K (.ref C_NoKey) (.type "ValueError") = some true)
    (tI_NoKey : PySem.W.typeIn K (.ref f9) = some (.type "function"))
    (no_NoKey_key : PySem.W.findIn K (.ref C_NoKey) "key" = some none)
    (sb_NoKey_WalkError : PySem.W.subIn K (.ref C_NoKey) (.ref C_WalkError) = some true)
    (sb_NoKey_Twice : PySem.W.subIn K (.ref C_NoKey) (.ref C_Twice) = some false)
    (sb_NoKey_NoKey : PySem.W.subIn K (.ref C_NoKey) (.ref C_NoKey) = some true)
    (aC_Twice : PySem.W.nsIn K mainGlobals "Twice" = some (some (.ref C_Twice)))
    (xL_Twice : K.lookup C_Twice = some (excClassObj nm_Twice q_Twice C_Twice N_Twice bs_Twice [.ref C_WalkError, .type "ValueError", .type "Exception", .type "BaseException", .type "object"] true sn_Twice su_Twice ab_Twice co_Twice dd_Twice m0_Twice m1_Twice m2_Twice m3_Twice m5_Twice "ValueError.__new__"))
    (xa_Twice : PySem.W.findIn K (.ref C_Twice) "__setattr__" = some (some (.builtin "object.__setattr__")))
    (xe_Twice : PySem.W.subIn K (.ref C_Twice) (.type "BaseException") = some true)
    (xt_Twice : PySem.W.typeIn K (.ref C_Twice) = some (.type "type"))
    (xk_Twice : PySem.W.keepIn K (.ref C_Twice) = true)
    (xg_Twice : PySem.W.findIn K (.ref C_Twice) "__getattribute__" = some (some (.builtin "BaseException.__getattribute__")))
    (xn_Twice : PySem.W.findIn K (.ref C_Twice) "__getattr__" = some none)
    (xd_Twice : PySem.W.hasDictIn K C_Twice = true)
    (xc_Twice : PySem.W.findIn K (.ref C_Twice) "__class__" = some (some (.builtin "object.__class__")))
    (xs_Twice : PySem.W.specialIn K (.builtin "object.__class__") "__get__" = some (some (.builtin "getset_descriptor.__get__")))
    (xj_Twice : PySem.W.takesIn K (.builtin "object.__class__") = some true)
    (xm_Twice : PySem.W.mroIn K C_Twice (.type "object") = some true)
    (xl_Twice : PySem.W.subIn K (.ref C_Twice) (.ref C_Twice) = some true)
    (aC_Bank : PySem.W.nsIn K mainGlobals "Bank" = some (some (.ref C_Bank)))
    (pg_Bank : PySem.W.plainGet K C_Bank Str.empty = true)
    (hd_Bank : PySem.W.hasDictIn K C_Bank = true)
    (po_Bank : PySem.W.plainOver K C_Bank = true)
    (sa_Bank : PySem.W.findIn K (.ref C_Bank) "__setattr__" = some (some (.builtin "object.__setattr__")))
    (mk_Bank : PySem.W.makesIn K C_Bank = true)
    (kc_Bank : PySem.W.keepIn K (.ref C_Bank) = true)
    (na_Bank_lots : PySem.W.findIn K (.ref C_Bank) "lots" = some none)
    (na_Bank_size : PySem.W.findIn K (.ref C_Bank) "size" = some none)
    (aC_Slots : PySem.W.nsIn K mainGlobals "Slots" = some (some (.ref C_Slots)))
    (pg_Slots : PySem.W.plainGet K C_Slots Str.empty = true)
    (hd_Slots : PySem.W.hasDictIn K C_Slots = true)
    (po_Slots : PySem.W.plainOver K C_Slots = true)
    (sa_Slots : PySem.W.findIn K (.ref C_Slots) "__setattr__" = some (some (.builtin "object.__setattr__")))
    (mk_Slots : PySem.W.makesIn K C_Slots = true)
    (kc_Slots : PySem.W.keepIn K (.ref C_Slots) = true)
    (na_Slots_old : PySem.W.findIn K (.ref C_Slots) "old" = some none)
    (na_Slots_young : PySem.W.findIn K (.ref C_Slots) "young" = some none)
    (na_Slots_shifted : PySem.W.findIn K (.ref C_Slots) "shifted" = some none)
    (na_Slots_number : PySem.W.findIn K (.ref C_Slots) "number" = some none)
    (cg_WalkError : PySem.W.readsIn K C_WalkError (.type "type") = true)
    (ca_WalkError : PySem.W.specialIn K (.ref C_WalkError) "__getattribute__" = some (some (.builtin "type.__getattribute__")))
    (cv_WalkError : PySem.W.findCls K (.ref C_WalkError) (.type "type") "__init__" = some (.val (.builtin "ValueError.__init__")))
    (kk_PLACES : PySem.W.nsIn K mainGlobals "PLACES" = some (some (.int 65536 tk_PLACES)))
    (kk_LEAST_SIZE : PySem.W.nsIn K mainGlobals "LEAST_SIZE" = some (some (.int 4 tk_LEAST_SIZE)))
    (kk_MOST_SIZE : PySem.W.nsIn K mainGlobals "MOST_SIZE" = some (some (.int 256 tk_MOST_SIZE)))
    (z_ValueError : PySem.W.nsIn K mainGlobals "ValueError" = some none)
    (z_bool : PySem.W.nsIn K mainGlobals "bool" = some none)
    (z_int : PySem.W.nsIn K mainGlobals "int" = some none)
    (z_isinstance : PySem.W.nsIn K mainGlobals "isinstance" = some none)
    (z_len : PySem.W.nsIn K mainGlobals "len" = some none)
    (z_range : PySem.W.nsIn K mainGlobals "range" = some none) :
    ∃ fd : FuncData, (∀ (s : Shared) (v : Value), BindsTo s fd ⟨[v], []⟩ [("_law_script", v)]) ∧ ∃ D : Ad, ∀ base : Heap, K.In base → base.Ns mainGlobals mg → FnOk l.prog w K mg base (L2.CX l.prog w) 9 fa fd ["_law_script"] (sp_law K D) := by
  have e := hfa.symm.trans (PySem.W.mg_of X G a25)
  cases e
  have F1 := fun_mk (st := s_Bank_init) l1 c1 k1
  have b1 := F1.binds (ps := ["self", "size"]) fun _ _ _ _ _ _ us hl => match us, hl with | [_, _], _ => rfl
  have F2 := fun_mk (st := s_Slots_init) l2 c2 k2
  have b2 := F2.binds (ps := ["self"]) fun _ _ _ _ _ _ us hl => match us, hl with | [_], _ => rfl
  have F3 := fun_mk (st := s_Slots_begin_row) l3 c3 k3
  have b3 := F3.binds (ps := ["self"]) fun _ _ _ _ _ _ us hl => match us, hl with | [_], _ => rfl
  have F4 := fun_mk (st := s_mark_of) l4 c4 k4
  have b4 := F4.binds (ps := ["key"]) fun _ _ _ _ _ _ us hl => match us, hl with | [_], _ => rfl
  have F5 := fun_mk (st := s_slot_of) l5 c5 k5
  have b5 := F5.binds (ps := ["key", "size"]) fun _ _ _ _ _ _ us hl => match us, hl with | [_, _], _ => rfl
  have F6 := fun_mk (st := s_Bank_lot_of) l6 c6 k6
  have b6 := F6.binds (ps := ["self", "key"]) fun _ _ _ _ _ _ us hl => match us, hl with | [_, _], _ => rfl
  have F7 := fun_mk (st := s_Slots_home) l7 c7 k7
  have b7 := F7.binds (ps := ["self", "key"]) fun _ _ _ _ _ _ us hl => match us, hl with | [_, _], _ => rfl
  have F8 := fun_mk (st := s_Slots_move_next) l8 c8 k8
  have b8 := F8.binds (ps := ["self"]) fun _ _ _ _ _ _ us hl => match us, hl with | [_], _ => rfl
  have F9 := fun_mk (st := s_NoKey_init) l9 c9 k9
  have b9 := F9.binds (ps := ["self", "key"]) fun _ _ _ _ _ _ us hl => match us, hl with | [_, _], _ => rfl
  have F10 := fun_mk (st := s_Slots_sure) l10 c10 k10
  have b10 := F10.binds (ps := ["self", "key"]) fun _ _ _ _ _ _ us hl => match us, hl with | [_, _], _ => rfl
  have F11 := fun_mk (st := s_Slots_drop) l11 c11 k11
  have b11 := F11.binds (ps := ["self", "key"]) fun _ _ _ _ _ _ us hl => match us, hl with | [_, _], _ => rfl
  have F12 := fun_mk (st := s_Slots_put) l12 c12 k12
  have b12 := F12.binds (ps := ["self", "key", "value"]) fun _ _ _ _ _ _ us hl => match us, hl with | [_, _, _], _ => rfl
  have F13 := fun_mk (st := s__law_cell_at) l13 c13 k13
  have b13 := F13.binds (ps := ["_law_script", "_law_k"]) fun _ _ _ _ _ _ us hl => match us, hl with | [_, _], _ => rfl
  have F14 := fun_mk (st := s__law_keys) l14 c14 k14
  have b14 := F14.binds (ps := ["_law_script"]) fun _ _ _ _ _ _ us hl => match us, hl with | [_], _ => rfl
  have F15 := fun_mk (st := s_Slots_get) l15 c15 k15
  have b15 := F15.binds (ps := ["self", "key"]) fun _ _ _ _ _ _ us hl => match us, hl with | [_, _], _ => rfl
  have F16 := fun_mk (st := s_Slots_has) l16 c16 k16
  have b16 := F16.binds (ps := ["self", "key"]) fun _ _ _ _ _ _ us hl => match us, hl with | [_, _], _ => rfl
  have F17 := fun_mk (st := s_Slots_many) l17 c17 k17
  have b17 := F17.binds (ps := ["self"]) fun _ _ _ _ _ _ us hl => match us, hl with | [_], _ => rfl
  have F18 := fun_mk (st := s_Slots_moved) l18 c18 k18
  have b18 := F18.binds (ps := ["self"]) fun _ _ _ _ _ _ us hl => match us, hl with | [_], _ => rfl
  have F19 := fun_mk (st := s_Slots_banks) l19 c19 k19
  have b19 := F19.binds (ps := ["self"]) fun _ _ _ _ _ _ us hl => match us, hl with | [_], _ => rfl
  have F20 := fun_mk (st := s_Slots_rows) l20 c20 k20
  have b20 := F20.binds (ps := ["self"]) fun _ _ _ _ _ _ us hl => match us, hl with | [_], _ => rfl
  have F21 := fun_mk (st := s__law_whole) l21 c21 k21
  have b21 := F21.binds (ps := ["_law_found"]) fun _ _ _ _ _ _ us hl => match us, hl with | [_], _ => rfl
  have F22 := fun_mk (st := s__law_refused) l22 c22 k22
  have b22 := F22.binds (ps := ["_law_told", "_law_key", "_law_way"]) fun _ _ _ _ _ _ us hl => match us, hl with | [_, _, _], _ => rfl
  have F23 := fun_mk (st := s__law_stands) l23 c23 k23
  have b23 := F23.binds (ps := ["_law_told", "_law_kept", "_law_keys_here"]) fun _ _ _ _ _ _ us hl => match us, hl with | [_, _, _], _ => rfl
  have F24 := fun_mk (st := s__law_value) l24 c24 k24
  have b24 := F24.binds (ps := ["_law_script", "_law_k"]) fun _ _ _ _ _ _ us hl => match us, hl with | [_, _], _ => rfl
  have F25 := fun_mk (st := s_law) l25 c25 k25
  have b25 := F25.binds (ps := ["_law_script"]) fun _ _ _ _ _ _ us hl => match us, hl with | [_], _ => rfl
  have T : Txt K mg { a_Bank_init := f1, d_Bank_init := _, a_Slots_init := f2, d_Slots_init := _, a_Slots_begin_row := f3, d_Slots_begin_row := _, a_mark_of := f4, d_mark_of := _, a_slot_of := f5, d_slot_of := _, a_Bank_lot_of := f6, d_Bank_lot_of := _, a_Slots_home := f7, d_Slots_home := _, a_Slots_move_next := f8, d_Slots_move_next := _, a_NoKey_init := f9, d_NoKey_init := _, a_Slots_sure := f10, d_Slots_sure := _, a_Slots_drop := f11, d_Slots_drop := _, a_Slots_put := f12, d_Slots_put := _, a__law_cell_at := f13, d__law_cell_at := _, a__law_keys := f14, d__law_keys := _, a_Slots_get := f15, d_Slots_get := _, a_Slots_has := f16, d_Slots_has := _, a_Slots_many := f17, d_Slots_many := _, a_Slots_moved := f18, d_Slots_moved := _, a_Slots_banks := f19, d_Slots_banks := _, a_Slots_rows := f20, d_Slots_rows := _, a__law_whole := f21, d__law_whole := _, a__law_refused := f22, d__law_refused := _, a__law_stands := f23, d__law_stands := _, a__law_value := f24, d__law_value := _, a_law := fa, d_law := _, c_WalkError := C_WalkError, c_NoKey := C_NoKey, c_Twice := C_Twice, c_Bank := C_Bank, c_Slots := C_Slots, t_PLACES := tk_PLACES, t_LEAST_SIZE := tk_LEAST_SIZE, t_MOST_SIZE := tk_MOST_SIZE } := { F_Bank_init := F1, b_Bank_init := b1, F_Slots_init := F2, b_Slots_init := b2, F_Slots_begin_row := F3, b_Slots_begin_row := b3, F_mark_of := F4, b_mark_of := b4, g_mark_of := PySem.W.mg_of X G a4, F_slot_of := F5, b_slot_of := b5, g_slot_of := PySem.W.mg_of X G a5, F_Bank_lot_of := F6, b_Bank_lot_of := b6, F_Slots_home := F7, b_Slots_home := b7, F_Slots_move_next := F8, b_Slots_move_next := b8, F_NoKey_init := F9, b_NoKey_init := b9, F_Slots_sure := F10, b_Slots_sure := b10, F_Slots_drop := F11, b_Slots_drop := b11, F_Slots_put := F12, b_Slots_put := b12, F__law_cell_at := F13, b__law_cell_at := b13, g__law_cell_at := PySem.W.mg_of X G a13, F__law_keys := F14, b__law_keys := b14, g__law_keys := PySem.W.mg_of X G a14, F_Slots_get := F15, b_Slots_get := b15, F_Slots_has := F16, b_Slots_has := b16, F_Slots_many := F17, b_Slots_many := b17, F_Slots_moved := F18, b_Slots_moved := b18, F_Slots_banks := F19, b_Slots_banks := b19, F_Slots_rows := F20, b_Slots_rows := b20, F__law_whole := F21, b__law_whole := b21, g__law_whole := PySem.W.mg_of X G a21, F__law_refused := F22, b__law_refused := b22, g__law_refused := PySem.W.mg_of X G a22, F__law_stands := F23, b__law_stands := b23, g__law_stands := PySem.W.mg_of X G a23, F__law_value := F24, b__law_value := b24, g__law_value := PySem.W.mg_of X G a24, F_law := F25, b_law := b25, g_law := PySem.W.mg_of X G a25, g_WalkError := PySem.W.mg_of X G aC_WalkError, xc_WalkError := ⟨⟨⟨_, _, _, _, _, _, _, _, _, _, _, _, _, _, _, xL_WalkError, rfl⟩, xa_WalkError, xe_WalkError, xt_WalkError, xk_WalkError⟩, ⟨xg_WalkError, xn_WalkError, xe_WalkError, xd_WalkError, xc_WalkError, xs_WalkError, xj_WalkError, xm_WalkError⟩, xl_WalkError⟩, g_NoKey := PySem.W.mg_of X G aC_NoKey, xc_NoKey := ⟨⟨⟨_, _, _, _, _, _, _, _, _, _, _, _, _, _, _, xL_NoKey, rfl⟩, xa_NoKey, xe_NoKey, xt_NoKey, xk_NoKey⟩, ⟨xg_NoKey, xn_NoKey, xe_NoKey, xd_NoKey, xc_NoKey, xs_NoKey, xj_NoKey, xm_NoKey⟩, xl_NoKey⟩, sv_NoKey := sv_NoKey, iC_NoKey := a9, tI_NoKey := tI_NoKey, no_NoKey_key := no_NoKey_key, sb_NoKey_WalkError := sb_NoKey_WalkError, sb_NoKey_Twice := sb_NoKey_Twice, sb_NoKey_NoKey := sb_NoKey_NoKey, g_Twice := PySem.W.mg_of X G aC_Twice, xc_Twice := ⟨⟨⟨_, _, _, _, _, _, _, _, _, _, _, _, _, _, _, xL_Twice, rfl⟩, xa_Twice, xe_Twice, xt_Twice, xk_Twice⟩, ⟨xg_Twice, xn_Twice, xe_Twice, xd_Twice, xc_Twice, xs_Twice, xj_Twice, xm_Twice⟩, xl_Twice⟩, g_Bank := PySem.W.mg_of X G aC_Bank, cl_Bank := ⟨pg_Bank, hd_Bank, po_Bank, sa_Bank⟩, mk_Bank := ⟨mk_Bank, a1, i1, kc_Bank⟩, me_Bank_lot_of := ⟨a6, i6, k6⟩, na_Bank_lots := na_Bank_lots, na_Bank_size := na_Bank_size, g_Slots := PySem.W.mg_of X G aC_Slots, cl_Slots := ⟨pg_Slots, hd_Slots, po_Slots, sa_Slots⟩, mk_Slots := ⟨mk_Slots, a2, i2, kc_Slots⟩, me_Slots_banks := ⟨a19, i19, k19⟩, me_Slots_home := ⟨a7, i7, k7⟩, me_Slots_move_next := ⟨a8, i8, k8⟩, me_Slots_begin_row := ⟨a3, i3, k3⟩, me_Slots_put := ⟨a12, i12, k12⟩, me_Slots_sure := ⟨a10, i10, k10⟩, me_Slots_drop := ⟨a11, i11, k11⟩, me_Slots_get := ⟨a15, i15, k15⟩, me_Slots_has := ⟨a16, i16, k16⟩, me_Slots_many := ⟨a17, i17, k17⟩, me_Slots_rows := ⟨a20, i20, k20⟩, me_Slots_moved := ⟨a18, i18, k18⟩, na_Slots_old := na_Slots_old, na_Slots_young := na_Slots_young, na_Slots_shifted := na_Slots_shifted, na_Slots_number := na_Slots_number, cr_WalkError := ⟨cg_WalkError, ca_WalkError⟩, ve_WalkError := cv_WalkError, k_PLACES := PySem.W.mg_of X G kk_PLACES, k_LEAST_SIZE := PySem.W.mg_of X G kk_LEAST_SIZE, k_MOST_SIZE := PySem.W.mg_of X G kk_MOST_SIZE, n_ValueError := PySem.W.mg_none_of X G z_ValueError, n_bool := PySem.W.mg_none_of X G z_bool, n_int := PySem.W.mg_none_of X G z_int, n_isinstance := PySem.W.mg_none_of X G z_isinstance, n_len := PySem.W.mg_none_of X G z_len, n_range := PySem.W.mg_none_of X G z_range }
  exact ⟨_, fun s v => .of_eq rfl, _, fun base _ _ => ok_law T⟩
theorem walk {l : PySem.W.OpenLaw} {q : Program} {loose : List Str} {XP : (Str → Option Value) → Heap → Prop} {YP : World → Heap → Prop} {d : DefRec} {K : Params → PySem.W.Frag} (hn : l.most = some 63) (hdf : d.params.defaults = [])
    (hY : ∀ (w : World) (h : Heap), YP w h → (K w.params).In h)
    (F : ∀ (w : World) (mg : Str → Option Value) (fa : Addr) (h : Heap), (K w.params).In h → h.Ns mainGlobals mg → mg d.name = some (.ref fa) →
      ∃ fd : FuncData, (∀ (s : Shared) (u : Value), BindsTo s fd ⟨[u], []⟩ [("_law_script", u)]) ∧ ∃ D : Ad, ∀ base : Heap, (K w.params).In base → base.Ns mainGlobals mg → FnOk l.prog w (K w.params) mg base (L2.CX l.prog w) 9 fa fd ["_law_script"] (sp_law (K w.params) D)) :
    PySem.W.WalkO q loose XP YP l.row.toRowW d [] (fun f vs => PySem.call f vs) :=
  L2.walk_of (n := 63) (k := 9) (x := "_law_script") (CX := fun w => L2.CX l.prog w) (sp := fun w => spEnd (K w.params)) hn (by decide) hdf ⟨rfl, by decide, by decide⟩ hY
    (fun w mg fa h a b c => by
      obtain ⟨fd, h1, D, h2⟩ := F w mg fa h a b c
      exact ⟨fd, h1, fun base x y => (h2 base x y).imp fun vs H Q E z => sp_law_end z⟩)
    (fun _ H a ns hl hO hS => ⟨.ref a, rfl, a, ns, rfl, hS, hl, fun _ => rfl⟩) fun _ _ _ _ _ z => cx_false z
end Toy
open PySem PySem.W PyProof.Rows
set_option maxRecDepth 100000 in
set_option maxHeartbeats 0 in
theorem PySem.Challenge.cw_staywalk_k11_one_key_kept_holds : PySem.Challenge.rw_staywalk_k11_one_key_kept.Holds := by
  w_on; o_law; k_head; (case hw => w_witness2)
  k_fill
  refine Toy.walk (l := PySem.Challenge.rw_staywalk_k11_one_key_kept) rfl rfl (fun w h Y => PySem.W.kIn_of Y) ?F
  case F =>
    intro w mg fa h KX G hmg
    refine' Toy.all_mk KX G hmg ?a1 ?i1 ?l1 ?c1 ?k1 ?a2 ?i2 ?l2 ?c2 ?k2 ?a3 ?i3 ?l3 ?c3 ?k3 ?a4 ?l4 ?c4 ?k4 ?a5 ?l5 ?c5 ?k5 ?a6 ?i6 ?l6 ?c6 ?k6 ?a7 ?i7 ?l7 ?c7 ?k7 ?a8 ?i8 ?l8 ?c8 ?k8 ?a9 ?i9 ?l9 ?c9 ?k9 ?a10 ?i10 ?l10 ?c10 ?k10 ?a11 ?i11 ?l11 ?c11 ?k11 ?a12 ?i12 ?l12 ?c12 ?k12 ?a13 ?l13 ?c13 ?k13 ?a14 ?l14 ?c14 ?k14 ?a15 ?i15 ?l15 ?c15 ?k15 ?a16 ?i16 ?l16 ?c16 ?k16 ?a17 ?i17 ?l17 ?c17 ?k17 ?a18 ?i18 ?l18 ?c18 ?k18 ?a19 ?i19 ?l19 ?c19 ?k19 ?a20 ?i20 ?l20 ?c20 ?k20 ?a21 ?l21 ?c21 ?k21 ?a22 ?l22 ?c22 ?k22 ?a23 ?l23 ?c23 ?k23 ?a24 ?l24 ?c24 ?k24 ?a25 ?l25 ?c25 ?k25 ?aC_WalkError ?xL_WalkError ?xa_WalkError ?xe_WalkError ?xt_WalkError ?xk_WalkError ?xg_WalkError ?xn_WalkError ?xd_WalkError ?xc_WalkError ?xs_WalkError ?xj_WalkError ?xm_WalkError ?xl_WalkError ?aC_NoKey ?xL_NoKey ?xa_NoKey ?xe_NoKey ?xt_NoKey ?xk_NoKey ?xg_NoKey ?xn_NoKey ?xd_NoKey ?xc_NoKey ?xs_NoKey ?xj_NoKey ?xm_NoKey ?xl_NoKey ?sv_NoKey ?tI_NoKey ?no_NoKey_key ?sb_NoKey_WalkError ?sb_NoKey_Twice ?sb_NoKey_NoKey ?aC_Twice ?xL_Twice ?xa_Twice ?xe_Twice ?xt_Twice ?xk_Twice ?xg_Twice ?xn_Twice ?xd_Twice ?xc_Twice ?xs_Twice ?xj_Twice ?xm_Twice ?xl_Twice ?aC_Bank ?pg_Bank ?hd_Bank ?po_Bank ?sa_Bank ?mk_Bank ?kc_Bank ?na_Bank_lots ?na_Bank_size ?aC_Slots ?pg_Slots ?hd_Slots ?po_Slots ?sa_Slots ?mk_Slots ?kc_Slots ?na_Slots_old ?na_Slots_young ?na_Slots_shifted ?na_Slots_number ?cg_WalkError ?ca_WalkError ?cv_WalkError ?kk_PLACES ?kk_LEAST_SIZE ?kk_MOST_SIZE ?z_ValueError ?z_bool ?z_int ?z_isinstance ?z_len ?z_range
    (case aC_WalkError => k_is)
    (case aC_NoKey => k_is)
    (case aC_Twice => k_is)
    (case aC_Bank => k_is)
    (case aC_Slots => k_is)
    (case a1 => k_is)
    (case i1 => k_is)
    (case l1 => k_is)
    (case c1 => k_is)
    (case k1 => k_is)
    (case a2 => k_is)
    (case i2 => k_is)
    (case l2 => k_is)
    (case c2 => k_is)
    (case k2 => k_is)
    (case a3 => k_is)
    (case i3 => k_is)
    (case l3 => k_is)
    (case c3 => k_is)
    (case k3 => k_is)
    (case a4 => k_is)
    (case l4 => k_is)
    (case c4 => k_is)
    (case k4 => k_is)
    (case a5 => k_is)
    (case l5 => k_is)
    (case c5 => k_is)
    (case k5 => k_is)
    (case a6 => k_is)
    (case i6 => k_is)
    (case l6 => k_is)
    (case c6 => k_is)
    (case k6 => k_is)
    (case a7 => k_is)
    (case i7 => k_is)
    (case l7 => k_is)
    (case c7 => k_is)
    (case k7 => k_is)
    (case a8 => k_is)
    (case i8 => k_is)
    (case l8 => k_is)
    (case c8 => k_is)
    (case k8 => k_is)
    (case a9 => k_is)
    (case i9 => k_is)
    (case l9 => k_is)
    (case c9 => k_is)
    (case k9 => k_is)
    (case a10 => k_is)
    (case i10 => k_is)
    (case l10 => k_is)
    (case c10 => k_is)
    (case k10 => k_is)
    (case a11 => k_is)
    (case i11 => k_is)
    (case l11 => k_is)
    (case c11 => k_is)
    (case k11 => k_is)
    (case a12 => k_is)
    (case i12 => k_is)
    (case l12 => k_is)
    (case c12 => k_is)
    (case k12 => k_is)
    (case a13 => k_is)
    (case l13 => k_is)
    (case c13 => k_is)
    (case k13 => k_is)
    (case a14 => k_is)
    (case l14 => k_is)
    (case c14 => k_is)
    (case k14 => k_is)
    (case a15 => k_is)
    (case i15 => k_is)
    (case l15 => k_is)
    (case c15 => k_is)
    (case k15 => k_is)
    (case a16 => k_is)
    (case i16 => k_is)
    (case l16 => k_is)
    (case c16 => k_is)
    (case k16 => k_is)
    (case a17 => k_is)
    (case i17 => k_is)
    (case l17 => k_is)
    (case c17 => k_is)
    (case k17 => k_is)
    (case a18 => k_is)
    (case i18 => k_is)
    (case l18 => k_is)
    (case c18 => k_is)
    (case k18 => k_is)
    (case a19 => k_is)
    (case i19 => k_is)
    (case l19 => k_is)
    (case c19 => k_is)
    (case k19 => k_is)
    (case a20 => k_is)
    (case i20 => k_is)
    (case l20 => k_is)
    (case c20 => k_is)
    (case k20 => k_is)
    (case a21 => k_is)
    (case l21 => k_is)
    (case c21 => k_is)
    (case k21 => k_is)
    (case a22 => k_is)
    (case l22 => k_is)
    (case c22 => k_is)
    (case k22 => k_is)
    (case a23 => k_is)
    (case l23 => k_is)
    (case c23 => k_is)
    (case k23 => k_is)
    (case a24 => k_is)
    (case l24 => k_is)
    (case c24 => k_is)
    (case k24 => k_is)
    (case a25 => k_is)
    (case l25 => k_is)
    (case c25 => k_is)
    (case k25 => k_is)
    (case xL_WalkError => k_is)
    (case xa_WalkError => k_is)
    (case xe_WalkError => k_is)
    (case xt_WalkError => k_is)
    (case xk_WalkError => k_is)
    (case xg_WalkError => k_is)
    (case xn_WalkError => k_is)
    (case xd_WalkError => k_is)
    (case xc_WalkError => k_is)
    (case xs_WalkError => k_is)
    (case xj_WalkError => k_is)
    (case xm_WalkError => k_is)
    (case xl_WalkError => k_is)
    (case xL_NoKey => k_is)
    (case xa_NoKey => k_is)
    (case xe_NoKey => k_is)
    (case xt_NoKey => k_is)
    (case xk_NoKey => k_is)
    (case xg_NoKey => k_is)
    (case xn_NoKey => k_is)
    (case xd_NoKey => k_is)
    (case xc_NoKey => k_is)
    (case xs_NoKey => k_is)
    (case xj_NoKey => k_is)
    (case xm_NoKey => k_is)
    (case xl_NoKey => k_is)
    (case sv_NoKey => k_is)
    (case tI_NoKey => k_is)
    (case no_NoKey_key => k_is)
    (case sb_NoKey_WalkError => k_is)
    (case sb_NoKey_Twice => k_is)
    (case sb_NoKey_NoKey => k_is)
    (case xL_Twice => k_is)
    (case xa_Twice => k_is)
    (case xe_Twice => k_is)
    (case xt_Twice => k_is)
    (case xk_Twice => k_is)
    (case xg_Twice => k_is)
    (case xn_Twice => k_is)
    (case xd_Twice => k_is)
    (case xc_Twice => k_is)
    (case xs_Twice => k_is)
    (case xj_Twice => k_is)
    (case xm_Twice => k_is)
    (case xl_Twice => k_is)
    (case pg_Bank => k_is)
    (case hd_Bank => k_is)
    (case po_Bank => k_is)
    (case sa_Bank => k_is)
    (case mk_Bank => k_is)
    (case kc_Bank => k_is)
    (case na_Bank_lots => k_is)
    (case na_Bank_size => k_is)
    (case pg_Slots => k_is)
    (case hd_Slots => k_is)
    (case po_Slots => k_is)
    (case sa_Slots => k_is)
    (case mk_Slots => k_is)
    (case kc_Slots => k_is)
    (case na_Slots_old => k_is)
    (case na_Slots_young => k_is)
    (case na_Slots_shifted => k_is)
    (case na_Slots_number => k_is)
    (case cg_WalkError => k_is)
    (case ca_WalkError => k_is)
    (case cv_WalkError => k_is)
    (case kk_PLACES => k_is)
    (case kk_LEAST_SIZE => k_is)
    (case kk_MOST_SIZE => k_is)
    (case z_ValueError => k_is)
    (case z_bool => k_is)
    (case z_int => k_is)
    (case z_isinstance => k_is)
    (case z_len => k_is)
    (case z_range => k_is)
