-- Written by this session's program (wip/bin/hp.py) over the kit's print: a function's Lean form, and a proof that the call does what it says.
import Derived.Test.YtmfbkbbgokjhnaaFx0
import Derived.Test.YtmfbkbbgokjhnaaSq
import Derived.Test.YtmfbkbbgokjhnaaFx19
import Derived.Test.YtmfbkbbgokjhnaaFx6
namespace Go.Proofs.Ytmfbkbbgokjhnaa.F
open Go.RowKit Go.Proofs.YtmfbkbbgokjhnaaW.PrintWords Go.Proofs.YtmfbkbbgokjhnaaW.PrintLast Go.Proofs.YtmfbkbbgokjhnaaW.PrintMore
attribute [local go_sem] max2_int min2_int max_two min_two max_three min_three max_four min_four   -- for this text's walks alone
set_option linter.unusedVariables false
set_option linter.unusedSimpArgs false

/-! ### impl_FirstWrong: function 29 -/
def impl_FirstWrong.l0 : Nat → List (S45) → List (S45) → Int → Int → Option (Int × Int)
 | 0, _, _, _, _ => none
 | k + 1, x2, x28, x29, x30 => if x30 < x29 then (if 0 ≤ x30 then (if x30 < (x28.length : Int) then (if x30 ≥ (x2.length : Int) then (some (x30, 0)) else (if x30 < (x2.length : Int) then ((impl_sameDecision.f k ((rd_T45 x28 x30).f0) ((rd_T45 x28 x30).f1) ((rd_T45 x2 x30).f0) ((rd_T45 x2 x30).f1)).bind fun t224 => (if t224 = true then (impl_FirstWrong.l0 k x2 x28 x29 (wrap64 (x30 + 1))) else (some (x30, 0)))) else (none))) else (none)) else (none)) else (some (0, 4))
def impl_FirstWrong.f (k : Nat) (l0 : List (S94)) (l1 : List (S43)) (l2 : List (S45)) : Option (Int × Int) := (impl_DecideLog.f k l0 l1).bind fun bt217 => (if bt217.2 = 0 then (if (l2.length : Int) > (l1.length : Int) then (some (0, 2)) else (impl_FirstWrong.l0 k l2 bt217.1 (bt217.1.length : Int) 0)) else (some (0, bt217.2)))
theorem impl_FirstWrong.mono_l : ∀ k, (∀ y0 y1 y2 y3, LeO (impl_FirstWrong.l0 k y0 y1 y2 y3) (impl_FirstWrong.l0 (k + 1) y0 y1 y2 y3))
 | 0 => fun _ _ _ _ r h => by simp [impl_FirstWrong.l0] at h
 | k + 1 => by
  have ih0 := impl_FirstWrong.mono_l k
  · intro y0 y1 y2 y3
    unfold impl_FirstWrong.l0
    repeat' first
    | (with_reducible exact ih0 _ _ _ _)
    | (with_reducible exact impl_DecideLog.mono _ _ _)
    | (with_reducible exact impl_sameDecision.mono _ _ _ _ _)
    | (with_reducible exact LeO.refl _)
    | (with_reducible exact LeO.none _)
    | (with_reducible refine LeO.ite ?_ ?_)
    | (with_reducible refine LeO.bind ?_ (fun _ => ?_))
    | exact ih0 _ _ _ _
    | exact impl_DecideLog.mono _ _ _
    | exact impl_sameDecision.mono _ _ _ _ _
    | exact LeO.none _
    | refine LeO.ite ?_ ?_
    | refine LeO.bind ?_ (fun _ => ?_)
theorem impl_FirstWrong.mono : ∀ a0 a1 a2 k, LeO (impl_FirstWrong.f k a0 a1 a2) (impl_FirstWrong.f (k + 1) a0 a1 a2) := by
 intro a0 a1 a2 k
 have ih0 := impl_FirstWrong.mono_l k
 unfold impl_FirstWrong.f
 repeat' first
  | (with_reducible exact ih0 _ _ _ _)
  | (with_reducible exact impl_DecideLog.mono _ _ _)
  | (with_reducible exact impl_sameDecision.mono _ _ _ _ _)
  | (with_reducible exact LeO.refl _)
  | (with_reducible exact LeO.none _)
  | (with_reducible refine LeO.ite ?_ ?_)
  | (with_reducible refine LeO.bind ?_ (fun _ => ?_))
  | exact ih0 _ _ _ _
  | exact impl_DecideLog.mono _ _ _
  | exact impl_sameDecision.mono _ _ _ _ _
  | exact LeO.none _
  | refine LeO.ite ?_ ?_
  | refine LeO.bind ?_ (fun _ => ?_)
def impl_FirstWrong.T9 : Bool × List (List Nat × List Nat) := (true, [([], []), ([], []), ([1], [1]), ([0, 2], [0, 2]), ([3], [3]), ([4], [4]), ([4], [4]), ([4], [4]), ([6, 7, 4], [4, 6, 7]), ([8, 4], [4, 8]), ([5, 9, 4, 4], [4, 5, 9]), ([10, 4], [4, 10]), ([4, 11], [4, 11])])
def impl_FirstWrong.B9 : List Nat := [0, 0, 2, 7, 15, 31, 31, 31, 223, 479, 1023, 2047, 4095]
theorem impl_FirstWrong.tab9 : rtab .any (opsOf Try.f29 9) = impl_FirstWrong.T9 := by kernel_rfl
theorem impl_FirstWrong.bits9 : waitsOk impl_FirstWrong.T9.2 impl_FirstWrong.B9 = true := by kernel_rfl
set_option maxHeartbeats 8000000 in
set_option maxRecDepth 100000 in
theorem impl_FirstWrong.calls (k : Nat) (A0 : Option Addr) (c0 : Nat) (l0 : List (S94)) (A1 : Option Addr) (c1 : Nat) (l1 : List (S43)) (A2 : Option Addr) (c2 : Nat) (l2 : List (S45)) (r1 : Int) (r2 : Int) (w : World) (hr0 : Kd.C k94 w A0 l0.length l0) (hc0 : l0.length ≤ c0) (hr1 : Kd.C k43 w A1 l1.length l1) (hc1 : l1.length ≤ c1) (hr2 : Kd.C k45 w A2 l2.length l2) (hc2 : l2.length ≤ c2) (h : impl_FirstWrong.f k l0 l1 l2 = some (r1, r2)) :
 Calls Try.prog 29 #[.slice A0 l0.length c0, .slice A1 l1.length c1, .slice A2 l2.length c2] w fun e w' => e = .returned (.tuple #[.int .i64 r1, .int .i64 r2]) ∧ Below w.heap.size w w' := by
 have hu45 := Try.underlying45
 have HR0 := Aside0.mk hr0
 have HC0 := Aside0.mk hc0
 clear hr0 hc0
 have HR1 := Aside0.mk hr1
 have HC1 := Aside0.mk hc1
 clear hr1 hc1
 have HR2 := Aside0.mk hr2
 have HC2 := Aside0.mk hc2
 clear hr2 hc2
 have HB := Aside0.mk (Below.refl w.heap.size w)
 have H : ((impl_DecideLog.f k l0 l1).bind fun bt217 => (if bt217.2 = 0 then (if (l2.length : Int) > (l1.length : Int) then (some (0, 2)) else (impl_FirstWrong.l0 k l2 bt217.1 (bt217.1.length : Int) 0)) else (some (0, bt217.2)))) = some (r1, r2) := h
 clear h
 replace H := Option.bind_eq_some_iff.mp H
 obtain ⟨⟨t217, t218⟩, A40, H⟩ := H
 replace H : (if t218 = 0 then (if (l2.length : Int) > (l1.length : Int) then (some (0, 2)) else (impl_FirstWrong.l0 k l2 t217 (t217.length : Int) 0)) else (some (0, t218))) = some (r1, r2) := H
 have A4 := Aside0.mk A40
 clear A40
 by_cases c5 : t218 = 0
 · rw [if_pos c5] at H
   have c5b0 : (t218 == 0) = true := beq_iff_eq.mpr c5
   have c5b1 : (t218 != 0) = false := bne_eq_false_iff_eq.mpr c5
   clear c5
   by_cases c6 : (l2.length : Int) > (l1.length : Int)
   · rw [if_pos c6] at H
     have c6b0 : decide ((l1.length : Int) < (l2.length : Int)) = true := decide_eq_true c6
     have c6b1 : decide (l1.length < l2.length) = true := decide_eq_true (Int.ofNat_lt.mp c6)
     clear c6
     simp only [Option.some.injEq, Prod.mk.injEq] at H
     obtain ⟨rfl, rfl⟩ := H
     go_enter Try.func29, Try.ntmps29
     go_wp2_with (first | ((with_reducible refine gate_callee (f := 32) rfl ?_); refine goesL_ (some 15) rfl rfl Try.func32 (by kernel_rfl) rfl #[.slice A0 l0.length c0, .slice A1 l1.length c1] rfl (by (try simp only [List.map_toArray, List.map_cons, List.map_nil]); first | done | rfl | (simp only [List.length_drop, List.length_take]; rfl)) ?_; (with_reducible refine (impl_DecideLog.calls k _ _ l0 _ _ l1 t217 t218 _ ?side1 ?side2 ?side3 ?side4 A4.out).mono ?_); (case side1 => repeat (first | exact HR0.out | (with_reducible refine Kd.C_alloc ?_ _) | (with_reducible refine Kd.C_drewN ?_ _) | (with_reducible refine Kd.C_drew ?_))); (case side2 => exact HC0.out); (case side3 => repeat (first | exact HR1.out | (with_reducible refine Kd.C_alloc ?_ _) | (with_reducible refine Kd.C_drewN ?_ _) | (with_reducible refine Kd.C_drew ?_))); (case side4 => exact HC1.out); rintro e w7 ⟨v219, rfl, ho0, hb⟩; refine ⟨_, rfl, ?_⟩; have n0_ := Aside0.mk (Kd.S_lower ho0 (bz_)); have n1_ := Aside0.mk (bs_ hb); clear HB; have HO220 := n0_; have HB := n1_; clear n0_ n1_; (try clear hb); (try clear hb2); (try clear hk); (try clear hi); (try clear ho0)))
     go_ret2
     exact ⟨by first | rfl | (simp [errW_none, errW_some] <;> rfl) | (simp [*, errW_none, errW_some] <;> rfl), bb_⟩
   · rw [if_neg c6] at H
     have c6b0 : decide ((l1.length : Int) < (l2.length : Int)) = false := decide_eq_false c6
     have c6b1 : decide (l1.length < l2.length) = false := decide_eq_false (fun h => c6 (Int.ofNat_lt.mpr h))
     clear c6
     have H' := Aside0.mk H
     clear H
     go_enter Try.func29, Try.ntmps29
     go_wp2_with (first | ((with_reducible refine gate_callee (f := 32) rfl ?_); refine goesL_ (some 15) rfl rfl Try.func32 (by kernel_rfl) rfl #[.slice A0 l0.length c0, .slice A1 l1.length c1] rfl (by (try simp only [List.map_toArray, List.map_cons, List.map_nil]); first | done | rfl | (simp only [List.length_drop, List.length_take]; rfl)) ?_; (with_reducible refine (impl_DecideLog.calls k _ _ l0 _ _ l1 t217 t218 _ ?side1 ?side2 ?side3 ?side4 A4.out).mono ?_); (case side1 => repeat (first | exact HR0.out | (with_reducible refine Kd.C_alloc ?_ _) | (with_reducible refine Kd.C_drewN ?_ _) | (with_reducible refine Kd.C_drew ?_))); (case side2 => exact HC0.out); (case side3 => repeat (first | exact HR1.out | (with_reducible refine Kd.C_alloc ?_ _) | (with_reducible refine Kd.C_drewN ?_ _) | (with_reducible refine Kd.C_drew ?_))); (case side4 => exact HC1.out); rintro e w8 ⟨v219, rfl, ho0, hb⟩; refine ⟨_, rfl, ?_⟩; have n0_ := Aside0.mk (Kd.S_lower ho0 (bz_)); have n1_ := Aside0.mk (bs_ hb); clear HB; have HO220 := n0_; have HB := n1_; clear n0_ n1_; (try clear hb); (try clear hb2); (try clear hk); (try clear hi); (try clear ho0); obtain ⟨Ao9, co9, eo9⟩ := Kd.S_slice HO220.out; subst eo9))
     go_loopg [30] k (fun kq v30 w' => ∃ (x30_1 : Int), v30 = .int .i64 x30_1 ∧ Aside0 (impl_FirstWrong.l0 kq l2 t217 (t217.length : Int) x30_1 = some (r1, r2)) ∧ Aside0 (kq ≤ k) ∧ Aside0 (Kd.S k45 45 w' w.heap.size (fun _ => True) (.slice Ao9 t217.length co9) t217) ∧ Aside0 (Below w.heap.size w w'))
     case atStart => exact ⟨(0), (by first | rfl | (simp; done) | (simp [*]; done)), H', ⟨Nat.le_refl _⟩, ⟨by (with_reducible repeat (first | apply Kd.S_alloc | apply Kd.S_drewN | apply Kd.S_drew)); exact HO220.out⟩, ⟨bb_⟩⟩
     case round =>
      clear H'
      try clear c1
      try clear c2
      try clear p2
      try clear c3
      try clear c5
      try clear c5b0
      try clear c5b1
      try clear c6
      try clear c6b0
      try clear c6b1
      obtain ⟨x30_1, rfl, HA, HK1, HO_28, HB⟩ := hrel
      cases gk with
      | zero => exact absurd HA.out (by simp [impl_FirstWrong.l0])
      | succ k1 =>
       have H := HA.out
       clear HA
       simp only [impl_FirstWrong.l0] at H
       by_cases c10 : x30_1 < (t217.length : Int)
       · rw [if_pos c10] at H
         have c10b0 : decide (x30_1 < (t217.length : Int)) = true := decide_eq_true c10
         clear c10
         by_cases c11 : 0 ≤ x30_1
         · rw [if_pos c11] at H
           have c11b0 : decide (0 ≤ x30_1) = true := decide_eq_true c11
           clear c11
           by_cases c12 : x30_1 < (t217.length : Int)
           · rw [if_pos c12] at H
             have c12b0 : decide (x30_1 < (t217.length : Int)) = true := decide_eq_true c12
             clear c12
             by_cases c13 : x30_1 ≥ (l2.length : Int)
             · rw [if_pos c13] at H
               have c13b0 : decide ((l2.length : Int) ≤ x30_1) = true := decide_eq_true c13
               clear c13
               simp only [Option.some.injEq, Prod.mk.injEq] at H
               obtain ⟨rfl, rfl⟩ := H
               have p221 : 0 ≤ (x30_1 : Int) := of_decide_eq_true (by first | (with_reducible assumption) | assumption)
               have q221 : x30_1 < (t217.length : Int) := of_decide_eq_true (by first | (with_reducible assumption) | assumption)
               obtain ⟨ad221, A221_1, c221_1, e221, hx221_0, hx221_1, hl221_1, hi221_1⟩ := at_T45 (Kd.S_reads' HO_28.out).2.2 x30_1 p221 q221
               cases e221
               obtain ⟨ce221, hce221, hMe221, hcc221⟩ := Kd.S_get HO_28.out z45 x30_1 p221 (by first | exact q221 | exact of_decide_eq_true (by first | (with_reducible assumption) | assumption) | (have e_ := (Kd.S_reads' HO_28.out).1; omega))
               obtain ⟨ve221_1, rfl, ge221_1⟩ := k45_openM hMe221
               have hv221_1 := hcc221 1 _ rfl
               rw [add_field _ _ 1 (by omega)] at hv221_1
               replace hv221_1 := Option.some.inj (hv221_1.symm.trans hx221_1)
               rw [hv221_1] at ge221_1
               have HL221_1 := Aside0.mk (show Kd.R Kd.string 9 _ _ _ _ ((rd_T45 t217 x30_1).f1) from ge221_1)
               clear hv221_1 ge221_1
               clear hcc221 hce221
               have HR221_1 := Aside0.mk hi221_1
               have HC221_1 := Aside0.mk hl221_1
               clear hi221_1 hl221_1
               replace p221 := eq_true p221
               replace q221 := eq_true q221
               try go_wp2_with (first | ((with_reducible refine gate_dst (N := 11) rfl ?_); refine box_event ?hg (N := 11) ?hd (cs := #[.int .i64 0, .slice none 0 0]) (t := 45) ?hr ?_; (case hd => rfl); (case hg => rfl); (case hr => first | (go_simp; done) | (go_simp; rfl)); intro gb222 hg w14 hbox hb; have n0_ := Aside0.mk (Kd.S_below (Kd.S_elderB (by (with_reducible repeat (first | apply Kd.S_alloc | apply Kd.S_drewN | apply Kd.S_drew)); exact HO_28.out) gb222 (Nat.le_of_eq hg.symm)) hb); have n1_ := Aside0.mk (Kd.R_below (by (with_reducible repeat (first | apply Kd.R_alloc | apply Kd.R_drewN | apply Kd.R_drew)); exact HL221_1.out) hb); have n2_ := Aside0.mk (Kd.C_below (by repeat (first | (with_reducible exact HR221_1.out) | (with_reducible refine Kd.C_alloc ?_ _) | (with_reducible refine Kd.C_drewN ?_ _) | (with_reducible refine Kd.C_drew ?_) | exact HR221_1.out)) hb); have n3_ := Aside0.mk (bs_ hb); have n4_ := Aside0.mk (hbox); have n5_ := Aside0.mk ((by rw [hg]; exact (bz_) : w.heap.size ≤ gb222)); have n6_ := Aside0.mk ((by rw [hg]; exact (bz_) : w.heap.size ≤ gb222)); clear HO_28; clear HL221_1; clear HR221_1; clear HB; have HO_28 := n0_; have HL221_1 := n1_; have HR221_1 := n2_; have HB := n3_; have BK222 := n4_; have GW222 := n5_; have GE222 := n6_; clear n0_ n1_ n2_ n3_ n4_ n5_ n6_; clear hb hbox hg; have hcz15_0 := bk BK222 0; have hcz15_1 := bk BK222 1; have hfz15_0 := blk_frozen BK222.out 0; have hfz15_1 := blk_frozen BK222.out 1))
               have n0_ : Aside0 (Kd.S k45 45 ((w14.setCell ⟨gb222, 0, none⟩ (.int .i64 ((rd_T45 t217 x30_1).f0))).setCell ⟨gb222, 1, none⟩ (.slice A221_1 ((rd_T45 t217 x30_1).f1).length c221_1)) w.heap.size (fun k_ => k_ ≠ gb222) (.slice (some ad221) t217.length co9) t217) := ⟨by (with_reducible repeat (first | apply Kd.S_alloc | apply Kd.S_drewN | apply Kd.S_drew)); exact Kd.S_mono (Kd.S_far (p := ⟨gb222, 1, none⟩) (Kd.S_far (p := ⟨gb222, 0, none⟩) (Kd.S_mono HO_28.out (fun k_ hk => (⟨hk, hk.2⟩ : _ ∧ k_ ≠ gb222))) (fun _ hk => hk.2) (.int .i64 ((rd_T45 t217 x30_1).f0))) (fun _ hk => hk.2) (.slice A221_1 ((rd_T45 t217 x30_1).f1).length c221_1)) (fun _ hk => hk.1.2)⟩
               have n1_ : Aside0 (Kd.R Kd.string 9 ((w14.setCell ⟨gb222, 0, none⟩ (.int .i64 ((rd_T45 t217 x30_1).f0))).setCell ⟨gb222, 1, none⟩ (.slice A221_1 ((rd_T45 t217 x30_1).f1).length c221_1)) w.heap.size (fun k_ => some k_ ≠ (.slice (some ad221) t217.length co9 : Value).ownBlock) (.slice A221_1 ((rd_T45 t217 x30_1).f1).length c221_1) ((rd_T45 t217 x30_1).f1)) := ⟨by (with_reducible repeat (first | apply Kd.R_alloc | apply Kd.R_drewN | apply Kd.R_drew)); exact Kd.R_mono (Kd.R_far (p := ⟨gb222, 1, none⟩) (Kd.R_far (p := ⟨gb222, 0, none⟩) (Kd.R_types HL221_1.out BK222.out (by decide)) (fun _ hk => hk.2) (.int .i64 ((rd_T45 t217 x30_1).f0))) (fun _ hk => hk.2) (.slice A221_1 ((rd_T45 t217 x30_1).f1).length c221_1)) (fun _ hk => hk.1.2)⟩
               have n2_ : Aside0 (((w14.setCell ⟨gb222, 0, none⟩ (.int .i64 ((rd_T45 t217 x30_1).f0))).setCell ⟨gb222, 1, none⟩ (.slice A221_1 ((rd_T45 t217 x30_1).f1).length c221_1)).heap[gb222]? = some (.cells #[.int .i64 ((rd_T45 t217 x30_1).f0), .slice A221_1 ((rd_T45 t217 x30_1).f1).length c221_1] 45 (0, 0))) := ⟨by (with_reducible repeat (first | refine blk_drewN ?_ _ | refine blk_drew ?_ | refine blk_alloc ?_ _)); refine blk_put (cs := #[.int .i64 ((rd_T45 t217 x30_1).f0), .slice none 0 0]) ?_ 1 _ rfl; (with_reducible repeat (first | refine blk_drewN ?_ _ | refine blk_drew ?_ | refine blk_alloc ?_ _)); refine blk_put (cs := #[.int .i64 0, .slice none 0 0]) ?_ 0 _ rfl; (with_reducible repeat (first | refine blk_drewN ?_ _ | refine blk_drew ?_ | refine blk_alloc ?_ _)); exact BK222.out⟩
               have n3_ : Aside0 (Below w.heap.size w ((w14.setCell ⟨gb222, 0, none⟩ (.int .i64 ((rd_T45 t217 x30_1).f0))).setCell ⟨gb222, 1, none⟩ (.slice A221_1 ((rd_T45 t217 x30_1).f1).length c221_1))) := ⟨bb_⟩
               (try clear HO_28)
               (try clear HL221_1)
               (try clear BK222)
               (try clear HB)
               generalize ((w14.setCell ⟨gb222, 0, none⟩ (.int .i64 ((rd_T45 t217 x30_1).f0))).setCell ⟨gb222, 1, none⟩ (.slice A221_1 ((rd_T45 t217 x30_1).f1).length c221_1)) = w16 at n0_ n1_ n2_ n3_ ⊢
               have HO_28 := n0_
               have HL221_1 := n1_
               have BK222 := n2_
               have HB := n3_
               clear n0_ n1_ n2_ n3_
               have n0_ := Aside0.mk (Kd.S_drew HO_28.out)
               have n1_ := Aside0.mk (Kd.R_drew HL221_1.out)
               have n2_ := Aside0.mk (blk_drew BK222.out)
               have n3_ := Aside0.mk (below_drew1 HB.out)
               clear HO_28
               clear HL221_1
               clear BK222
               clear HB
               have HO_28 := n0_
               have HL221_1 := n1_
               have BK222 := n2_
               have HB := n3_
               clear n0_ n1_ n2_ n3_
               refine start_ (n := 13) (S := fun w' => True) (ds := []) (fb 13 0) (by kernel_rfl) rfl rfl trivial (fun hHeld => ?_); refine with_tabW impl_FirstWrong.tab9 impl_FirstWrong.bits9 (fun HT_ HW_ => ?_)
               generalize w16.drew = w17 at HO_28 HL221_1 BK222 HB hHeld ⊢
               refine sqP_ 0 35 (fb 13 1) (any_of HT_.out (by kernel_rfl)) ?_
               refine sqP_ 1 36 (fb 13 3) (any_of HT_.out (by kernel_rfl)) ?_
               refine sqP_ 2 37 (fb 13 7) (any_of HT_.out (by kernel_rfl)) ?_
               refine sqP_ 3 38 (fb 13 15) (any_of HT_.out (by kernel_rfl)) ?_
               refine sqP_ 4 39 (fb 13 31) (any_of HT_.out (by kernel_rfl)) ?_
               refine sqO_ 5 40 (fb 13 63) (any_of HT_.out (by kernel_rfl)) ?_
               refine sqO_ 6 41 (fb 13 127) (any_of HT_.out (by kernel_rfl)) ?_
               refine sqO_ 7 42 (fb 13 255) (any_of HT_.out (by kernel_rfl)) ?_
               refine sqO_ 8 43 (fb 13 511) (any_of HT_.out (by kernel_rfl)) ?_
               refine sqO_ 9 44 (fb 13 1023) (any_of HT_.out (by kernel_rfl)) ?_
               refine sqO_ 10 45 (fb 13 2047) (any_of HT_.out (by kernel_rfl)) ?_
               refine sqO_ 11 46 (fb 13 4095) (any_of HT_.out (by kernel_rfl)) ?_
               refine sqP_ 12 47 (fb 13 8191) (any_of HT_.out (by kernel_rfl)) ?_
               refine done_ (done_of HT_.out (by kernel_rfl)) ?_
               try go_wp2
               go_ret2
               exact ⟨by first | rfl | (simp [errW_none, errW_some] <;> rfl) | (simp [*, errW_none, errW_some] <;> rfl), bb_⟩
             · rw [if_neg c13] at H
               have c13b0 : decide ((l2.length : Int) ≤ x30_1) = false := decide_eq_false c13
               clear c13
               by_cases c18 : x30_1 < (l2.length : Int)
               · rw [if_pos c18] at H
                 have c18b0 : decide (x30_1 < (l2.length : Int)) = true := decide_eq_true c18
                 clear c18
                 replace H := Option.bind_eq_some_iff.mp H
                 obtain ⟨t224, A190, H⟩ := H
                 replace H : (if t224 = true then (impl_FirstWrong.l0 k1 l2 t217 (t217.length : Int) (wrap64 (x30_1 + 1))) else (some (x30_1, 0))) = some (r1, r2) := H
                 have A19 := Aside0.mk A190
                 clear A190
                 by_cases c20 : t224 = true
                 · subst c20
                   have H1 : (impl_FirstWrong.l0 k1 l2 t217 (t217.length : Int) (wrap64 (x30_1 + 1))) = some (r1, r2) := by rw [if_pos rfl] at H; exact H
                   clear H
                   have H := H1
                   clear H1
                   have H' := Aside0.mk H
                   clear H
                   have p221 : 0 ≤ (x30_1 : Int) := of_decide_eq_true (by first | (with_reducible assumption) | assumption)
                   have q221 : x30_1 < (t217.length : Int) := of_decide_eq_true (by first | (with_reducible assumption) | assumption)
                   obtain ⟨ad221, A221_1, c221_1, e221, hx221_0, hx221_1, hl221_1, hi221_1⟩ := at_T45 (Kd.S_reads' HO_28.out).2.2 x30_1 p221 q221
                   cases e221
                   obtain ⟨ce221, hce221, hMe221, hcc221⟩ := Kd.S_get HO_28.out z45 x30_1 p221 (by first | exact q221 | exact of_decide_eq_true (by first | (with_reducible assumption) | assumption) | (have e_ := (Kd.S_reads' HO_28.out).1; omega))
                   obtain ⟨ve221_1, rfl, ge221_1⟩ := k45_openM hMe221
                   have hv221_1 := hcc221 1 _ rfl
                   rw [add_field _ _ 1 (by omega)] at hv221_1
                   replace hv221_1 := Option.some.inj (hv221_1.symm.trans hx221_1)
                   rw [hv221_1] at ge221_1
                   have HL221_1 := Aside0.mk (show Kd.R Kd.string 9 _ _ _ _ ((rd_T45 t217 x30_1).f1) from ge221_1)
                   clear hv221_1 ge221_1
                   clear hcc221 hce221
                   have HR221_1 := Aside0.mk hi221_1
                   have HC221_1 := Aside0.mk hl221_1
                   clear hi221_1 hl221_1
                   replace p221 := eq_true p221
                   replace q221 := eq_true q221
                   try go_wp2_with (first | ((with_reducible refine gate_dst (N := 11) rfl ?_); refine box_event ?hg (N := 11) ?hd (cs := #[.int .i64 0, .slice none 0 0]) (t := 45) ?hr ?_; (case hd => rfl); (case hg => rfl); (case hr => first | (go_simp; done) | (go_simp; rfl)); intro gb222 hg w21 hbox hb; have n0_ := Aside0.mk (Kd.S_below (Kd.S_elderB (by (with_reducible repeat (first | apply Kd.S_alloc | apply Kd.S_drewN | apply Kd.S_drew)); exact HO_28.out) gb222 (Nat.le_of_eq hg.symm)) hb); have n1_ := Aside0.mk (Kd.R_below (by (with_reducible repeat (first | apply Kd.R_alloc | apply Kd.R_drewN | apply Kd.R_drew)); exact HL221_1.out) hb); have n2_ := Aside0.mk (Kd.C_below (by repeat (first | (with_reducible exact HR221_1.out) | (with_reducible refine Kd.C_alloc ?_ _) | (with_reducible refine Kd.C_drewN ?_ _) | (with_reducible refine Kd.C_drew ?_) | exact HR221_1.out)) hb); have n3_ := Aside0.mk (bs_ hb); have n4_ := Aside0.mk (hbox); have n5_ := Aside0.mk ((by rw [hg]; exact (bz_) : w.heap.size ≤ gb222)); have n6_ := Aside0.mk ((by rw [hg]; exact (bz_) : w.heap.size ≤ gb222)); clear HO_28; clear HL221_1; clear HR221_1; clear HB; have HO_28 := n0_; have HL221_1 := n1_; have HR221_1 := n2_; have HB := n3_; have BK222 := n4_; have GW222 := n5_; have GE222 := n6_; clear n0_ n1_ n2_ n3_ n4_ n5_ n6_; clear hb hbox hg; have hcz22_0 := bk BK222 0; have hcz22_1 := bk BK222 1; have hfz22_0 := blk_frozen BK222.out 0; have hfz22_1 := blk_frozen BK222.out 1))
                   have n0_ : Aside0 (Kd.S k45 45 ((w21.setCell ⟨gb222, 0, none⟩ (.int .i64 ((rd_T45 t217 x30_1).f0))).setCell ⟨gb222, 1, none⟩ (.slice A221_1 ((rd_T45 t217 x30_1).f1).length c221_1)) w.heap.size (fun k_ => k_ ≠ gb222) (.slice (some ad221) t217.length co9) t217) := ⟨by (with_reducible repeat (first | apply Kd.S_alloc | apply Kd.S_drewN | apply Kd.S_drew)); exact Kd.S_mono (Kd.S_far (p := ⟨gb222, 1, none⟩) (Kd.S_far (p := ⟨gb222, 0, none⟩) (Kd.S_mono HO_28.out (fun k_ hk => (⟨hk, hk.2⟩ : _ ∧ k_ ≠ gb222))) (fun _ hk => hk.2) (.int .i64 ((rd_T45 t217 x30_1).f0))) (fun _ hk => hk.2) (.slice A221_1 ((rd_T45 t217 x30_1).f1).length c221_1)) (fun _ hk => hk.1.2)⟩
                   have n1_ : Aside0 (Kd.R Kd.string 9 ((w21.setCell ⟨gb222, 0, none⟩ (.int .i64 ((rd_T45 t217 x30_1).f0))).setCell ⟨gb222, 1, none⟩ (.slice A221_1 ((rd_T45 t217 x30_1).f1).length c221_1)) w.heap.size (fun k_ => some k_ ≠ (.slice (some ad221) t217.length co9 : Value).ownBlock) (.slice A221_1 ((rd_T45 t217 x30_1).f1).length c221_1) ((rd_T45 t217 x30_1).f1)) := ⟨by (with_reducible repeat (first | apply Kd.R_alloc | apply Kd.R_drewN | apply Kd.R_drew)); exact Kd.R_mono (Kd.R_far (p := ⟨gb222, 1, none⟩) (Kd.R_far (p := ⟨gb222, 0, none⟩) (Kd.R_types HL221_1.out BK222.out (by decide)) (fun _ hk => hk.2) (.int .i64 ((rd_T45 t217 x30_1).f0))) (fun _ hk => hk.2) (.slice A221_1 ((rd_T45 t217 x30_1).f1).length c221_1)) (fun _ hk => hk.1.2)⟩
                   have n2_ : Aside0 (((w21.setCell ⟨gb222, 0, none⟩ (.int .i64 ((rd_T45 t217 x30_1).f0))).setCell ⟨gb222, 1, none⟩ (.slice A221_1 ((rd_T45 t217 x30_1).f1).length c221_1)).heap[gb222]? = some (.cells #[.int .i64 ((rd_T45 t217 x30_1).f0), .slice A221_1 ((rd_T45 t217 x30_1).f1).length c221_1] 45 (0, 0))) := ⟨by (with_reducible repeat (first | refine blk_drewN ?_ _ | refine blk_drew ?_ | refine blk_alloc ?_ _)); refine blk_put (cs := #[.int .i64 ((rd_T45 t217 x30_1).f0), .slice none 0 0]) ?_ 1 _ rfl; (with_reducible repeat (first | refine blk_drewN ?_ _ | refine blk_drew ?_ | refine blk_alloc ?_ _)); refine blk_put (cs := #[.int .i64 0, .slice none 0 0]) ?_ 0 _ rfl; (with_reducible repeat (first | refine blk_drewN ?_ _ | refine blk_drew ?_ | refine blk_alloc ?_ _)); exact BK222.out⟩
                   have n3_ : Aside0 (Below w.heap.size w ((w21.setCell ⟨gb222, 0, none⟩ (.int .i64 ((rd_T45 t217 x30_1).f0))).setCell ⟨gb222, 1, none⟩ (.slice A221_1 ((rd_T45 t217 x30_1).f1).length c221_1))) := ⟨bb_⟩
                   (try clear HO_28)
                   (try clear HL221_1)
                   (try clear BK222)
                   (try clear HB)
                   generalize ((w21.setCell ⟨gb222, 0, none⟩ (.int .i64 ((rd_T45 t217 x30_1).f0))).setCell ⟨gb222, 1, none⟩ (.slice A221_1 ((rd_T45 t217 x30_1).f1).length c221_1)) = w23 at n0_ n1_ n2_ n3_ ⊢
                   have HO_28 := n0_
                   have HL221_1 := n1_
                   have BK222 := n2_
                   have HB := n3_
                   clear n0_ n1_ n2_ n3_
                   have n0_ := Aside0.mk (Kd.S_drew HO_28.out)
                   have n1_ := Aside0.mk (Kd.R_drew HL221_1.out)
                   have n2_ := Aside0.mk (blk_drew BK222.out)
                   have n3_ := Aside0.mk (below_drew1 HB.out)
                   clear HO_28
                   clear HL221_1
                   clear BK222
                   clear HB
                   have HO_28 := n0_
                   have HL221_1 := n1_
                   have BK222 := n2_
                   have HB := n3_
                   clear n0_ n1_ n2_ n3_
                   have p223 : 0 ≤ (x30_1 : Int) := of_decide_eq_true (by first | (with_reducible assumption) | assumption)
                   have q223 : x30_1 < (l2.length : Int) := of_decide_eq_true (by first | (with_reducible assumption) | assumption)
                   obtain ⟨ad223, A223_1, c223_1, e223, hx223_0, hx223_1, hl223_1, hi223_1⟩ := at_T45 HR2.out x30_1 p223 q223
                   have hw223_1 := hx223_1
                   have hw223_0 := hx223_0
                   cases e223
                   replace hx223_0 := cel HB hx223_0
                   replace hx223_1 := cel HB hx223_1
                   have HR223_1 := Aside0.mk hi223_1
                   have HC223_1 := Aside0.mk hl223_1
                   clear hi223_1 hl223_1
                   replace p223 := eq_true p223
                   replace q223 := eq_true q223
                   refine start_ (n := 13) (S := fun w' => w'.cell? ⟨gb222, 0, none⟩ = some (.int .i64 ((rd_T45 t217 x30_1).f0)) ∧ w'.cell? ⟨gb222, 1, none⟩ = some (.slice A221_1 ((rd_T45 t217 x30_1).f1).length c221_1) ∧ w'.cell? (ad223.add ((x30_1).toNat * 2)) = some (.int .i64 ((rd_T45 l2 x30_1).f0)) ∧ w'.cell? ⟨(ad223.add ((x30_1).toNat * 2)).block, (ad223.add ((x30_1).toNat * 2)).off + 1, none⟩ = some (.slice A223_1 ((rd_T45 l2 x30_1).f1).length c223_1)) (ds := []) (fb 13 0) (by kernel_rfl) rfl rfl ⟨(blk_cell BK222.out 0).trans rfl, (blk_cell BK222.out 1).trans rfl, ((HB.out.cell (World.block_lt_of_cell? w _ hw223_0)).trans hw223_0), ((HB.out.cell (World.block_lt_of_cell? w _ hw223_1)).trans hw223_1)⟩ (fun hHeld => ?_); refine with_tabW impl_FirstWrong.tab9 impl_FirstWrong.bits9 (fun HT_ HW_ => ?_)
                   generalize w23.drew = w24 at HO_28 HL221_1 BK222 HB HR223_1 hx223_0 hx223_1 hHeld ⊢
                   refine sqP_ 0 35 (fb 13 1) (any_of HT_.out (by kernel_rfl)) ?_
                   refine sqP_ 1 36 (fb 13 3) (any_of HT_.out (by kernel_rfl)) ?_
                   refine sqP_ 2 37 (fb 13 7) (any_of HT_.out (by kernel_rfl)) ?_
                   refine sqP_ 3 38 (fb 13 15) (any_of HT_.out (by kernel_rfl)) ?_
                   refine sqP_ 4 39 (fb 13 31) (any_of HT_.out (by kernel_rfl)) ?_
                   refine sqP_ 6 41 (fb 13 95) (any_of HT_.out (by kernel_rfl)) ?_
                   refine sqP_ 7 42 (fb 13 223) (any_of HT_.out (by kernel_rfl)) ?_
                   refine sqP_ 8 43 (fb 13 479) (any_of HT_.out (by kernel_rfl)) ?_
                   refine sqT_ 5 40 (fb 13 511) (take_ofW HT_.out HW_.out (by kernel_rfl)) hHeld ?_
                   refine sqT_ 9 44 (fb 13 1023) (take_ofW HT_.out HW_.out (by kernel_rfl)) hHeld ?_
                   refine one_ (i := 10) (N := some 45) (fb 13 2047) rfl rfl (one_of HT_.out (by kernel_rfl)) (by decide) (fun K hK => ?_)
                   refine goes_ Try.func61 (by kernel_rfl) rfl #[.agg #[.int .i64 ((rd_T45 t217 x30_1).f0), .slice A221_1 ((rd_T45 t217 x30_1).f1).length c221_1], .agg #[.int .i64 ((rd_T45 l2 x30_1).f0), .slice A223_1 ((rd_T45 l2 x30_1).f1).length c223_1]] (by rfl) rfl rfl (by (try simp only [List.map_toArray, List.map_cons, List.map_nil]); first | done | rfl | (simp only [List.length_drop, List.length_take]; rfl)) ?_
                   with_reducible refine (impl_sameDecision.calls k1 ((rd_T45 t217 x30_1).f0) _ _ ((rd_T45 t217 x30_1).f1) ((rd_T45 l2 x30_1).f0) _ _ ((rd_T45 l2 x30_1).f1) true _ ?side1 ?side2 ?side3 ?side4 A19.out).mono ?_
                   (case side1 => repeat (first | exact ((Kd.R_reads' (by (with_reducible repeat (first | apply Kd.R_alloc | apply Kd.R_drewN | apply Kd.R_drew)); exact HL221_1.out)).2.2) | (with_reducible refine Kd.C_alloc ?_ _) | (with_reducible refine Kd.C_drewN ?_ _) | (with_reducible refine Kd.C_drew ?_)))
                   (case side2 => exact HC221_1.out)
                   (case side3 => repeat (first | exact (Kd.C_below HR223_1.out HB.out) | (with_reducible refine Kd.C_alloc ?_ _) | (with_reducible refine Kd.C_drewN ?_ _) | (with_reducible refine Kd.C_drew ?_)))
                   (case side4 => exact HC223_1.out)
                   rintro e w25 ⟨rfl, hb⟩
                   refine ⟨_, rfl, ?_⟩
                   have n0_ := Aside0.mk (Kd.S_below (by (with_reducible repeat (first | apply Kd.S_alloc | apply Kd.S_drewN | apply Kd.S_drew)); exact HO_28.out) hb)
                   have n1_ := Aside0.mk (Kd.R_below (by (with_reducible repeat (first | apply Kd.R_alloc | apply Kd.R_drewN | apply Kd.R_drew)); exact HL221_1.out) hb)
                   have n2_ := Aside0.mk (blk_below (g := gb222) (o := .cells #[.int .i64 ((rd_T45 t217 x30_1).f0), .slice A221_1 ((rd_T45 t217 x30_1).f1).length c221_1] 45 (0, 0)) (by (with_reducible repeat (first | refine blk_drewN ?_ _ | refine blk_drew ?_ | refine blk_alloc ?_ _)); exact BK222.out) hb)
                   have n3_ := Aside0.mk (bs_ hb)
                   clear HO_28
                   clear HL221_1
                   clear BK222
                   clear HB
                   have HO_28 := n0_
                   have HL221_1 := n1_
                   have BK222 := n2_
                   have HB := n3_
                   clear n0_ n1_ n2_ n3_
                   (try clear hb)
                   (try clear hb2)
                   (try clear hk)
                   (try clear hi)
                   refine hK.out _ _ ⟨(blk_cell BK222.out 0).trans rfl, (blk_cell BK222.out 1).trans rfl, ((HB.out.cell (World.block_lt_of_cell? w _ hw223_0)).trans hw223_0), ((HB.out.cell (World.block_lt_of_cell? w _ hw223_1)).trans hw223_1)⟩ (fun hHeld => ?_)
                   clear hK K
                   refine sqN_ 45 ?_
                   refine sqP_ 11 46 (fb 13 4095) (any_of HT_.out (by kernel_rfl)) ?_
                   refine sqP_ 12 47 (fb 13 8191) (any_of HT_.out (by kernel_rfl)) ?_
                   refine done_ (done_of HT_.out (by kernel_rfl)) ?_
                   try go_wp2
                   go_roundg k1
                   case measure => have := HK1.out; omega
                   case rel => exact ⟨(wrap64 (x30_1 + 1)), (by first | rfl | (simp; done) | (simp [*]; done)), H', ⟨by have := HK1.out; omega⟩, ⟨by (with_reducible repeat (first | apply Kd.S_alloc | apply Kd.S_drewN | apply Kd.S_drew)); exact Kd.S_mono HO_28.out (fun _ hk => trivial)⟩, ⟨bb_⟩⟩
                 · replace c20 := Bool.eq_false_iff.mpr c20
                   subst c20
                   have H1 : (some (x30_1, 0)) = some (r1, r2) := by rw [if_neg (show ¬ (false = true) by decide)] at H; exact H
                   clear H
                   have H := H1
                   clear H1
                   simp only [Option.some.injEq, Prod.mk.injEq] at H
                   obtain ⟨rfl, rfl⟩ := H
                   have p221 : 0 ≤ (x30_1 : Int) := of_decide_eq_true (by first | (with_reducible assumption) | assumption)
                   have q221 : x30_1 < (t217.length : Int) := of_decide_eq_true (by first | (with_reducible assumption) | assumption)
                   obtain ⟨ad221, A221_1, c221_1, e221, hx221_0, hx221_1, hl221_1, hi221_1⟩ := at_T45 (Kd.S_reads' HO_28.out).2.2 x30_1 p221 q221
                   cases e221
                   obtain ⟨ce221, hce221, hMe221, hcc221⟩ := Kd.S_get HO_28.out z45 x30_1 p221 (by first | exact q221 | exact of_decide_eq_true (by first | (with_reducible assumption) | assumption) | (have e_ := (Kd.S_reads' HO_28.out).1; omega))
                   obtain ⟨ve221_1, rfl, ge221_1⟩ := k45_openM hMe221
                   have hv221_1 := hcc221 1 _ rfl
                   rw [add_field _ _ 1 (by omega)] at hv221_1
                   replace hv221_1 := Option.some.inj (hv221_1.symm.trans hx221_1)
                   rw [hv221_1] at ge221_1
                   have HL221_1 := Aside0.mk (show Kd.R Kd.string 9 _ _ _ _ ((rd_T45 t217 x30_1).f1) from ge221_1)
                   clear hv221_1 ge221_1
                   clear hcc221 hce221
                   have HR221_1 := Aside0.mk hi221_1
                   have HC221_1 := Aside0.mk hl221_1
                   clear hi221_1 hl221_1
                   replace p221 := eq_true p221
                   replace q221 := eq_true q221
                   try go_wp2_with (first | ((with_reducible refine gate_dst (N := 11) rfl ?_); refine box_event ?hg (N := 11) ?hd (cs := #[.int .i64 0, .slice none 0 0]) (t := 45) ?hr ?_; (case hd => rfl); (case hg => rfl); (case hr => first | (go_simp; done) | (go_simp; rfl)); intro gb222 hg w26 hbox hb; have n0_ := Aside0.mk (Kd.S_below (Kd.S_elderB (by (with_reducible repeat (first | apply Kd.S_alloc | apply Kd.S_drewN | apply Kd.S_drew)); exact HO_28.out) gb222 (Nat.le_of_eq hg.symm)) hb); have n1_ := Aside0.mk (Kd.R_below (by (with_reducible repeat (first | apply Kd.R_alloc | apply Kd.R_drewN | apply Kd.R_drew)); exact HL221_1.out) hb); have n2_ := Aside0.mk (Kd.C_below (by repeat (first | (with_reducible exact HR221_1.out) | (with_reducible refine Kd.C_alloc ?_ _) | (with_reducible refine Kd.C_drewN ?_ _) | (with_reducible refine Kd.C_drew ?_) | exact HR221_1.out)) hb); have n3_ := Aside0.mk (bs_ hb); have n4_ := Aside0.mk (hbox); have n5_ := Aside0.mk ((by rw [hg]; exact (bz_) : w.heap.size ≤ gb222)); have n6_ := Aside0.mk ((by rw [hg]; exact (bz_) : w.heap.size ≤ gb222)); clear HO_28; clear HL221_1; clear HR221_1; clear HB; have HO_28 := n0_; have HL221_1 := n1_; have HR221_1 := n2_; have HB := n3_; have BK222 := n4_; have GW222 := n5_; have GE222 := n6_; clear n0_ n1_ n2_ n3_ n4_ n5_ n6_; clear hb hbox hg; have hcz27_0 := bk BK222 0; have hcz27_1 := bk BK222 1; have hfz27_0 := blk_frozen BK222.out 0; have hfz27_1 := blk_frozen BK222.out 1))
                   have n0_ : Aside0 (Kd.S k45 45 ((w26.setCell ⟨gb222, 0, none⟩ (.int .i64 ((rd_T45 t217 x30_1).f0))).setCell ⟨gb222, 1, none⟩ (.slice A221_1 ((rd_T45 t217 x30_1).f1).length c221_1)) w.heap.size (fun k_ => k_ ≠ gb222) (.slice (some ad221) t217.length co9) t217) := ⟨by (with_reducible repeat (first | apply Kd.S_alloc | apply Kd.S_drewN | apply Kd.S_drew)); exact Kd.S_mono (Kd.S_far (p := ⟨gb222, 1, none⟩) (Kd.S_far (p := ⟨gb222, 0, none⟩) (Kd.S_mono HO_28.out (fun k_ hk => (⟨hk, hk.2⟩ : _ ∧ k_ ≠ gb222))) (fun _ hk => hk.2) (.int .i64 ((rd_T45 t217 x30_1).f0))) (fun _ hk => hk.2) (.slice A221_1 ((rd_T45 t217 x30_1).f1).length c221_1)) (fun _ hk => hk.1.2)⟩
                   have n1_ : Aside0 (Kd.R Kd.string 9 ((w26.setCell ⟨gb222, 0, none⟩ (.int .i64 ((rd_T45 t217 x30_1).f0))).setCell ⟨gb222, 1, none⟩ (.slice A221_1 ((rd_T45 t217 x30_1).f1).length c221_1)) w.heap.size (fun k_ => some k_ ≠ (.slice (some ad221) t217.length co9 : Value).ownBlock) (.slice A221_1 ((rd_T45 t217 x30_1).f1).length c221_1) ((rd_T45 t217 x30_1).f1)) := ⟨by (with_reducible repeat (first | apply Kd.R_alloc | apply Kd.R_drewN | apply Kd.R_drew)); exact Kd.R_mono (Kd.R_far (p := ⟨gb222, 1, none⟩) (Kd.R_far (p := ⟨gb222, 0, none⟩) (Kd.R_types HL221_1.out BK222.out (by decide)) (fun _ hk => hk.2) (.int .i64 ((rd_T45 t217 x30_1).f0))) (fun _ hk => hk.2) (.slice A221_1 ((rd_T45 t217 x30_1).f1).length c221_1)) (fun _ hk => hk.1.2)⟩
                   have n2_ : Aside0 (((w26.setCell ⟨gb222, 0, none⟩ (.int .i64 ((rd_T45 t217 x30_1).f0))).setCell ⟨gb222, 1, none⟩ (.slice A221_1 ((rd_T45 t217 x30_1).f1).length c221_1)).heap[gb222]? = some (.cells #[.int .i64 ((rd_T45 t217 x30_1).f0), .slice A221_1 ((rd_T45 t217 x30_1).f1).length c221_1] 45 (0, 0))) := ⟨by (with_reducible repeat (first | refine blk_drewN ?_ _ | refine blk_drew ?_ | refine blk_alloc ?_ _)); refine blk_put (cs := #[.int .i64 ((rd_T45 t217 x30_1).f0), .slice none 0 0]) ?_ 1 _ rfl; (with_reducible repeat (first | refine blk_drewN ?_ _ | refine blk_drew ?_ | refine blk_alloc ?_ _)); refine blk_put (cs := #[.int .i64 0, .slice none 0 0]) ?_ 0 _ rfl; (with_reducible repeat (first | refine blk_drewN ?_ _ | refine blk_drew ?_ | refine blk_alloc ?_ _)); exact BK222.out⟩
                   have n3_ : Aside0 (Below w.heap.size w ((w26.setCell ⟨gb222, 0, none⟩ (.int .i64 ((rd_T45 t217 x30_1).f0))).setCell ⟨gb222, 1, none⟩ (.slice A221_1 ((rd_T45 t217 x30_1).f1).length c221_1))) := ⟨bb_⟩
                   (try clear HO_28)
                   (try clear HL221_1)
                   (try clear BK222)
                   (try clear HB)
                   generalize ((w26.setCell ⟨gb222, 0, none⟩ (.int .i64 ((rd_T45 t217 x30_1).f0))).setCell ⟨gb222, 1, none⟩ (.slice A221_1 ((rd_T45 t217 x30_1).f1).length c221_1)) = w28 at n0_ n1_ n2_ n3_ ⊢
                   have HO_28 := n0_
                   have HL221_1 := n1_
                   have BK222 := n2_
                   have HB := n3_
                   clear n0_ n1_ n2_ n3_
                   have n0_ := Aside0.mk (Kd.S_drew HO_28.out)
                   have n1_ := Aside0.mk (Kd.R_drew HL221_1.out)
                   have n2_ := Aside0.mk (blk_drew BK222.out)
                   have n3_ := Aside0.mk (below_drew1 HB.out)
                   clear HO_28
                   clear HL221_1
                   clear BK222
                   clear HB
                   have HO_28 := n0_
                   have HL221_1 := n1_
                   have BK222 := n2_
                   have HB := n3_
                   clear n0_ n1_ n2_ n3_
                   have p223 : 0 ≤ (x30_1 : Int) := of_decide_eq_true (by first | (with_reducible assumption) | assumption)
                   have q223 : x30_1 < (l2.length : Int) := of_decide_eq_true (by first | (with_reducible assumption) | assumption)
                   obtain ⟨ad223, A223_1, c223_1, e223, hx223_0, hx223_1, hl223_1, hi223_1⟩ := at_T45 HR2.out x30_1 p223 q223
                   have hw223_1 := hx223_1
                   have hw223_0 := hx223_0
                   cases e223
                   replace hx223_0 := cel HB hx223_0
                   replace hx223_1 := cel HB hx223_1
                   have HR223_1 := Aside0.mk hi223_1
                   have HC223_1 := Aside0.mk hl223_1
                   clear hi223_1 hl223_1
                   replace p223 := eq_true p223
                   replace q223 := eq_true q223
                   refine start_ (n := 13) (S := fun w' => w'.cell? ⟨gb222, 0, none⟩ = some (.int .i64 ((rd_T45 t217 x30_1).f0)) ∧ w'.cell? ⟨gb222, 1, none⟩ = some (.slice A221_1 ((rd_T45 t217 x30_1).f1).length c221_1) ∧ w'.cell? (ad223.add ((x30_1).toNat * 2)) = some (.int .i64 ((rd_T45 l2 x30_1).f0)) ∧ w'.cell? ⟨(ad223.add ((x30_1).toNat * 2)).block, (ad223.add ((x30_1).toNat * 2)).off + 1, none⟩ = some (.slice A223_1 ((rd_T45 l2 x30_1).f1).length c223_1)) (ds := []) (fb 13 0) (by kernel_rfl) rfl rfl ⟨(blk_cell BK222.out 0).trans rfl, (blk_cell BK222.out 1).trans rfl, ((HB.out.cell (World.block_lt_of_cell? w _ hw223_0)).trans hw223_0), ((HB.out.cell (World.block_lt_of_cell? w _ hw223_1)).trans hw223_1)⟩ (fun hHeld => ?_); refine with_tabW impl_FirstWrong.tab9 impl_FirstWrong.bits9 (fun HT_ HW_ => ?_)
                   generalize w28.drew = w29 at HO_28 HL221_1 BK222 HB HR223_1 hx223_0 hx223_1 hHeld ⊢
                   refine sqP_ 0 35 (fb 13 1) (any_of HT_.out (by kernel_rfl)) ?_
                   refine sqP_ 1 36 (fb 13 3) (any_of HT_.out (by kernel_rfl)) ?_
                   refine sqP_ 2 37 (fb 13 7) (any_of HT_.out (by kernel_rfl)) ?_
                   refine sqP_ 3 38 (fb 13 15) (any_of HT_.out (by kernel_rfl)) ?_
                   refine sqP_ 4 39 (fb 13 31) (any_of HT_.out (by kernel_rfl)) ?_
                   refine sqP_ 6 41 (fb 13 95) (any_of HT_.out (by kernel_rfl)) ?_
                   refine sqP_ 7 42 (fb 13 223) (any_of HT_.out (by kernel_rfl)) ?_
                   refine sqP_ 8 43 (fb 13 479) (any_of HT_.out (by kernel_rfl)) ?_
                   refine sqT_ 5 40 (fb 13 511) (take_ofW HT_.out HW_.out (by kernel_rfl)) hHeld ?_
                   refine sqT_ 9 44 (fb 13 1023) (take_ofW HT_.out HW_.out (by kernel_rfl)) hHeld ?_
                   refine one_ (i := 10) (N := some 45) (fb 13 2047) rfl rfl (one_of HT_.out (by kernel_rfl)) (by decide) (fun K hK => ?_)
                   refine goes_ Try.func61 (by kernel_rfl) rfl #[.agg #[.int .i64 ((rd_T45 t217 x30_1).f0), .slice A221_1 ((rd_T45 t217 x30_1).f1).length c221_1], .agg #[.int .i64 ((rd_T45 l2 x30_1).f0), .slice A223_1 ((rd_T45 l2 x30_1).f1).length c223_1]] (by rfl) rfl rfl (by (try simp only [List.map_toArray, List.map_cons, List.map_nil]); first | done | rfl | (simp only [List.length_drop, List.length_take]; rfl)) ?_
                   with_reducible refine (impl_sameDecision.calls k1 ((rd_T45 t217 x30_1).f0) _ _ ((rd_T45 t217 x30_1).f1) ((rd_T45 l2 x30_1).f0) _ _ ((rd_T45 l2 x30_1).f1) false _ ?side1 ?side2 ?side3 ?side4 A19.out).mono ?_
                   (case side1 => repeat (first | exact ((Kd.R_reads' (by (with_reducible repeat (first | apply Kd.R_alloc | apply Kd.R_drewN | apply Kd.R_drew)); exact HL221_1.out)).2.2) | (with_reducible refine Kd.C_alloc ?_ _) | (with_reducible refine Kd.C_drewN ?_ _) | (with_reducible refine Kd.C_drew ?_)))
                   (case side2 => exact HC221_1.out)
                   (case side3 => repeat (first | exact (Kd.C_below HR223_1.out HB.out) | (with_reducible refine Kd.C_alloc ?_ _) | (with_reducible refine Kd.C_drewN ?_ _) | (with_reducible refine Kd.C_drew ?_)))
                   (case side4 => exact HC223_1.out)
                   rintro e w30 ⟨rfl, hb⟩
                   refine ⟨_, rfl, ?_⟩
                   have n0_ := Aside0.mk (Kd.S_below (by (with_reducible repeat (first | apply Kd.S_alloc | apply Kd.S_drewN | apply Kd.S_drew)); exact HO_28.out) hb)
                   have n1_ := Aside0.mk (Kd.R_below (by (with_reducible repeat (first | apply Kd.R_alloc | apply Kd.R_drewN | apply Kd.R_drew)); exact HL221_1.out) hb)
                   have n2_ := Aside0.mk (blk_below (g := gb222) (o := .cells #[.int .i64 ((rd_T45 t217 x30_1).f0), .slice A221_1 ((rd_T45 t217 x30_1).f1).length c221_1] 45 (0, 0)) (by (with_reducible repeat (first | refine blk_drewN ?_ _ | refine blk_drew ?_ | refine blk_alloc ?_ _)); exact BK222.out) hb)
                   have n3_ := Aside0.mk (bs_ hb)
                   clear HO_28
                   clear HL221_1
                   clear BK222
                   clear HB
                   have HO_28 := n0_
                   have HL221_1 := n1_
                   have BK222 := n2_
                   have HB := n3_
                   clear n0_ n1_ n2_ n3_
                   (try clear hb)
                   (try clear hb2)
                   (try clear hk)
                   (try clear hi)
                   refine hK.out _ _ ⟨(blk_cell BK222.out 0).trans rfl, (blk_cell BK222.out 1).trans rfl, ((HB.out.cell (World.block_lt_of_cell? w _ hw223_0)).trans hw223_0), ((HB.out.cell (World.block_lt_of_cell? w _ hw223_1)).trans hw223_1)⟩ (fun hHeld => ?_)
                   clear hK K
                   refine sqN_ 45 ?_
                   refine sqP_ 11 46 (fb 13 4095) (any_of HT_.out (by kernel_rfl)) ?_
                   refine sqP_ 12 47 (fb 13 8191) (any_of HT_.out (by kernel_rfl)) ?_
                   refine done_ (done_of HT_.out (by kernel_rfl)) ?_
                   try go_wp2
                   go_ret2
                   exact ⟨by first | rfl | (simp [errW_none, errW_some] <;> rfl) | (simp [*, errW_none, errW_some] <;> rfl), bb_⟩
               · rw [if_neg c18] at H
                 exact absurd H (by simp)
           · rw [if_neg c12] at H
             exact absurd H (by simp)
         · rw [if_neg c11] at H
           exact absurd H (by simp)
       · rw [if_neg c10] at H
         have c10b0 : decide (x30_1 < (t217.length : Int)) = false := decide_eq_false c10
         clear c10
         simp only [Option.some.injEq, Prod.mk.injEq] at H
         obtain ⟨rfl, rfl⟩ := H
         go_wp2
         go_ret2
         exact ⟨by first | rfl | (simp [errW_none, errW_some] <;> rfl) | (simp [*, errW_none, errW_some] <;> rfl), bb_⟩
 · rw [if_neg c5] at H
   have c5b0 : (t218 == 0) = false := beq_eq_false_iff_ne.mpr c5
   have c5b1 : (t218 != 0) = true := bne_iff_ne.mpr c5
   simp only [Option.some.injEq, Prod.mk.injEq] at H
   obtain ⟨rfl, rfl⟩ := H
   go_enter Try.func29, Try.ntmps29
   go_wp2_with (first | ((with_reducible refine gate_callee (f := 32) rfl ?_); refine goesL_ (some 15) rfl rfl Try.func32 (by kernel_rfl) rfl #[.slice A0 l0.length c0, .slice A1 l1.length c1] rfl (by (try simp only [List.map_toArray, List.map_cons, List.map_nil]); first | done | rfl | (simp only [List.length_drop, List.length_take]; rfl)) ?_; (with_reducible refine (impl_DecideLog.calls k _ _ l0 _ _ l1 t217 t218 _ ?side1 ?side2 ?side3 ?side4 A4.out).mono ?_); (case side1 => repeat (first | exact HR0.out | (with_reducible refine Kd.C_alloc ?_ _) | (with_reducible refine Kd.C_drewN ?_ _) | (with_reducible refine Kd.C_drew ?_))); (case side2 => exact HC0.out); (case side3 => repeat (first | exact HR1.out | (with_reducible refine Kd.C_alloc ?_ _) | (with_reducible refine Kd.C_drewN ?_ _) | (with_reducible refine Kd.C_drew ?_))); (case side4 => exact HC1.out); rintro e w31 ⟨v219, rfl, ho0, hb⟩; refine ⟨_, rfl, ?_⟩; have n0_ := Aside0.mk (Kd.S_lower ho0 (bz_)); have n1_ := Aside0.mk (bs_ hb); clear HB; have HO220 := n0_; have HB := n1_; clear n0_ n1_; (try clear hb); (try clear hb2); (try clear hk); (try clear hi); (try clear ho0)))
   go_ret2
   exact ⟨by first | rfl | (simp [errW_none, errW_some] <;> rfl) | (simp [*, errW_none, errW_some] <;> rfl), bb_⟩

end Go.Proofs.Ytmfbkbbgokjhnaa.F
namespace Go.Proofs.Ytmfbkbbgokjhnaa.F
open Go.RowKit Go.Proofs.YtmfbkbbgokjhnaaW.PrintWords Go.Proofs.YtmfbkbbgokjhnaaW.PrintLast Go.Proofs.YtmfbkbbgokjhnaaW.PrintMore
attribute [local go_sem] max2_int min2_int max_two min_two max_three min_three max_four min_four   -- for this text's walks alone
set_option linter.unusedVariables false
set_option linter.unusedSimpArgs false

/-! ### spec_l09Chain: function 103 -/
def spec_l09Chain.l0 : Nat → List (S94) → List Int → Int → Int → Int → ByteArray → Int → Bool → Bool → Bool → Option (List Int)
 | 0, _, _, _, _, _, _, _, _, _, _ => none
 | k + 1, x0, x5, x6, x226000, x226001, x226002, x226003, x226004, x226005, x226006 => (spec_l09First.f k x0 x6 x226000 x226001 x226002 x226003 x226004 x226005 x226006).bind fun t229 => (if x5.length < 17592186044416 then ((some (x5 ++ [t229] : List Int)).bind fun y230 => (if 0 ≤ t229 then (if t229 < (x0.length : Int) then (if ((rd_T94 x0 t229).f5) = 3 then ((spec_l09Find.f k x0 ((rd_T94 x0 t229).f6)).bind fun t235 => (spec_l09Chain.l0 k x0 y230 t235 x226000 x226001 x226002 x226003 x226004 x226005 x226006)) else (some y230)) else (none)) else (none))) else (none))
def spec_l09Chain.f (k : Nat) (l0 : List (S94)) (a1_0 : Int) (a1_1 : Int) (a1_2 : ByteArray) (a1_3 : Int) (a1_4 : Bool) (a1_5 : Bool) (a1_6 : Bool) : Option (List Int) := spec_l09Chain.l0 k l0 (([] : List Int)) 0 a1_0 a1_1 a1_2 a1_3 a1_4 a1_5 a1_6
theorem spec_l09Chain.mono_l : ∀ k, (∀ y0 y1 y2 y3 y4 y5 y6 y7 y8 y9, LeO (spec_l09Chain.l0 k y0 y1 y2 y3 y4 y5 y6 y7 y8 y9) (spec_l09Chain.l0 (k + 1) y0 y1 y2 y3 y4 y5 y6 y7 y8 y9))
 | 0 => fun _ _ _ _ _ _ _ _ _ _ r h => by simp [spec_l09Chain.l0] at h
 | k + 1 => by
  have ih0 := spec_l09Chain.mono_l k
  · intro y0 y1 y2 y3 y4 y5 y6 y7 y8 y9
    unfold spec_l09Chain.l0
    repeat' first
    | (with_reducible exact ih0 _ _ _ _ _ _ _ _ _ _)
    | (with_reducible exact spec_l09Find.mono _ _ _)
    | (with_reducible exact spec_l09First.mono _ _ _ _ _ _ _ _ _ _)
    | (with_reducible exact LeO.refl _)
    | (with_reducible exact LeO.none _)
    | (with_reducible refine LeO.ite ?_ ?_)
    | (with_reducible refine LeO.bind ?_ (fun _ => ?_))
    | exact ih0 _ _ _ _ _ _ _ _ _ _
    | exact spec_l09Find.mono _ _ _
    | exact spec_l09First.mono _ _ _ _ _ _ _ _ _ _
    | exact LeO.none _
    | refine LeO.ite ?_ ?_
    | refine LeO.bind ?_ (fun _ => ?_)
theorem spec_l09Chain.mono : ∀ a0 a1 a2 a3 a4 a5 a6 a7 k, LeO (spec_l09Chain.f k a0 a1 a2 a3 a4 a5 a6 a7) (spec_l09Chain.f (k + 1) a0 a1 a2 a3 a4 a5 a6 a7) := by
 intro a0 a1 a2 a3 a4 a5 a6 a7 k
 have ih0 := spec_l09Chain.mono_l k
 unfold spec_l09Chain.f
 repeat' first
  | (with_reducible exact ih0 _ _ _ _ _ _ _ _ _ _)
  | (with_reducible exact spec_l09Find.mono _ _ _)
  | (with_reducible exact spec_l09First.mono _ _ _ _ _ _ _ _ _ _)
  | (with_reducible exact LeO.refl _)
  | (with_reducible exact LeO.none _)
  | (with_reducible refine LeO.ite ?_ ?_)
  | (with_reducible refine LeO.bind ?_ (fun _ => ?_))
  | exact ih0 _ _ _ _ _ _ _ _ _ _
  | exact spec_l09Find.mono _ _ _
  | exact spec_l09First.mono _ _ _ _ _ _ _ _ _ _
  | exact LeO.none _
  | refine LeO.ite ?_ ?_
  | refine LeO.bind ?_ (fun _ => ?_)
set_option maxHeartbeats 8000000 in
set_option maxRecDepth 100000 in
theorem spec_l09Chain.calls (k : Nat) (A0 : Option Addr) (c0 : Nat) (l0 : List (S94)) (a1_0 : Int) (a1_1 : Int) (a1_2 : ByteArray) (a1_3 : Int) (a1_4 : Bool) (a1_5 : Bool) (a1_6 : Bool) (r : List Int) (w : World) (hr0 : Kd.C k94 w A0 l0.length l0) (hc0 : l0.length ≤ c0) (h : spec_l09Chain.f k l0 a1_0 a1_1 a1_2 a1_3 a1_4 a1_5 a1_6 = some r) :
 Calls Try.prog 103 #[.slice A0 l0.length c0, .agg #[.int .i64 a1_0, .int .i64 a1_1, .string a1_2, .int .i64 a1_3, .bool a1_4, .bool a1_5, .bool a1_6]] w fun e w' => ∃ v0_ : Value, e = .returned (v0_) ∧ Kd.R (Kd.int .i64) 2 w' w.heap.size (fun _ => True) v0_ r ∧ Below w.heap.size w w' := by
 have hu43 := Try.underlying43
 have HR0 := Aside0.mk hr0
 have HC0 := Aside0.mk hc0
 clear hr0 hc0
 have HB := Aside0.mk (Below.refl w.heap.size w)
 have H : (spec_l09Chain.l0 k l0 (([] : List Int)) 0 a1_0 a1_1 a1_2 a1_3 a1_4 a1_5 a1_6) = some r := h
 clear h
 obtain ⟨y226, hy226⟩ : ∃ y_ : List Int, y_ = (([] : List Int)) := ⟨_, rfl⟩
 replace H : (spec_l09Chain.l0 k l0 y226 0 a1_0 a1_1 a1_2 a1_3 a1_4 a1_5 a1_6) = some r := by first | (rw [hy226]; with_reducible exact H) | (have H2_ := (Option.bind_some _ _).symm.trans H; rw [hy226]; with_reducible exact H2_) | (have H2_ := (Option.bind_some _ _).symm.trans H; with_reducible exact H2_) | with_reducible exact H | (rw [hy226]; exact H) | exact H
 have Ny226 := Aside0.mk hy226
 clear hy226
 have H' := Aside0.mk H
 clear H
 go_enter Try.func103, Try.ntmps103
 go_wp2_with (first | ((with_reducible refine gate_dst (N := 3) rfl ?_); refine box_event ?hg (N := 3) ?hd (cs := #[.int .i64 a1_0, .int .i64 a1_1, .string a1_2, .int .i64 a1_3, .bool a1_4, .bool a1_5, .bool a1_6]) (t := 43) ?hr ?_; (case hd => rfl); (case hg => rfl); (case hr => first | (go_simp; done) | (go_simp; rfl)); intro gb225 hg w3 hbox hb; have n0_ := Aside0.mk (bs_ hb); have n1_ := Aside0.mk (hbox); have n2_ := Aside0.mk ((by rw [hg]; exact (bz_) : w.heap.size ≤ gb225)); have n3_ := Aside0.mk ((by rw [hg]; exact (bz_) : w.heap.size ≤ gb225)); clear HB; have HB := n0_; have BK225 := n1_; have GW225 := n2_; have GE225 := n3_; clear n0_ n1_ n2_ n3_; clear hb hbox hg) | ((with_reducible refine gate_dst (N := 7) rfl ?_); refine Kd.R_lit (Kd.int .i64) _ 2 ?hg (N := 7) ?hd (xs := ([] : List Int)) (inner := []) (ok := fun _ => True) (okp := fun _ => True) ?hr ?hp (fun _ hk => hk) trivial (Below.refl _ _) (Nat.le_refl _) (by simp) ?_; (case hd => rfl); (case hg => rfl); (case hr => first | (go_simp; done) | (go_simp; rfl)); (case hp => exact (Reps.none _ _)); intro v227 w4 ho5 hb hg_ hnew_; clear hg_ hnew_; (first | rw [← Ny226.out] at ho5 | (simp only [Int.reduceToNat] at ho5; rw [← Ny226.out] at ho5)); have n0_ := Aside0.mk (Kd.R_lower ho5 (bz_)); have n1_ := Aside0.mk (blk_below (g := gb225) (o := .cells #[.int .i64 a1_0, .int .i64 a1_1, .string a1_2, .int .i64 a1_3, .bool a1_4, .bool a1_5, .bool a1_6] 43 (0, 0)) (by (with_reducible repeat (first | refine blk_drewN ?_ _ | refine blk_drew ?_ | refine blk_alloc ?_ _)); exact BK225.out) hb); have n2_ := Aside0.mk (bs_ hb); clear BK225; clear HB; have HO228 := n0_; have BK225 := n1_; have HB := n2_; clear n0_ n1_ n2_; clear hb ho5))
 go_loopg [5, 6] k (fun kq v5 v6 w' => ∃ (x5_1 : List Int) (x6_1 : Int), v6 = .int .i64 x6_1 ∧ Aside0 (spec_l09Chain.l0 kq l0 x5_1 x6_1 a1_0 a1_1 a1_2 a1_3 a1_4 a1_5 a1_6 = some r) ∧ Aside0 (kq ≤ k) ∧ Aside0 (Kd.R (Kd.int .i64) 2 w' w.heap.size (fun _ => True) v5 x5_1) ∧ Aside0 (w'.heap[gb225]? = some (.cells #[.int .i64 a1_0, .int .i64 a1_1, .string a1_2, .int .i64 a1_3, .bool a1_4, .bool a1_5, .bool a1_6] 43 (0, 0))) ∧ Aside0 (Below w.heap.size w w'))
 case atStart => exact ⟨(y226), (0), (by first | rfl | (simp; done) | (simp [*]; done)), H', ⟨Nat.le_refl _⟩, ⟨by (with_reducible repeat (first | apply Kd.R_alloc | apply Kd.R_drewN | apply Kd.R_drew)); exact HO228.out⟩, ⟨by (with_reducible repeat (first | refine blk_drewN ?_ _ | refine blk_drew ?_ | refine blk_alloc ?_ _)); exact BK225.out⟩, ⟨bb_⟩⟩
 case round =>
  clear H'
  try clear c1
  try clear p2
  obtain ⟨x5_1, x6_1, rfl, HA, HK1, HO_5, BK225, HB⟩ := hrel
  cases gk with
  | zero => exact absurd HA.out (by simp [spec_l09Chain.l0])
  | succ k1 =>
   have H := HA.out
   clear HA
   simp only [spec_l09Chain.l0] at H
   replace H := Option.bind_eq_some_iff.mp H
   obtain ⟨t229, A60, H⟩ := H
   replace H : (if x5_1.length < 17592186044416 then ((some (x5_1 ++ [t229] : List Int)).bind fun y230 => (if 0 ≤ t229 then (if t229 < (l0.length : Int) then (if ((rd_T94 l0 t229).f5) = 3 then ((spec_l09Find.f k1 l0 ((rd_T94 l0 t229).f6)).bind fun t235 => (spec_l09Chain.l0 k1 l0 y230 t235 a1_0 a1_1 a1_2 a1_3 a1_4 a1_5 a1_6)) else (some y230)) else (none)) else (none))) else (none)) = some r := H
   have A6 := Aside0.mk A60
   clear A60
   by_cases c7 : x5_1.length < 17592186044416
   · rw [if_pos c7] at H
     have LMc7 := Aside0.mk c7
     clear c7
     obtain ⟨y230, hy230⟩ : ∃ y_ : List Int, y_ = (x5_1 ++ [t229]) := ⟨_, rfl⟩
     replace H : (if 0 ≤ t229 then (if t229 < (l0.length : Int) then (if ((rd_T94 l0 t229).f5) = 3 then ((spec_l09Find.f k1 l0 ((rd_T94 l0 t229).f6)).bind fun t235 => (spec_l09Chain.l0 k1 l0 y230 t235 a1_0 a1_1 a1_2 a1_3 a1_4 a1_5 a1_6)) else (some y230)) else (none)) else (none)) = some r := by first | (rw [hy230]; with_reducible exact H) | (have H2_ := (Option.bind_some _ _).symm.trans H; rw [hy230]; with_reducible exact H2_) | (have H2_ := (Option.bind_some _ _).symm.trans H; with_reducible exact H2_) | with_reducible exact H | (rw [hy230]; exact H) | exact H
     have Ny230 := Aside0.mk hy230
     clear hy230
     by_cases c8 : 0 ≤ t229
     · rw [if_pos c8] at H
       have c8b0 : decide (0 ≤ t229) = true := decide_eq_true c8
       clear c8
       by_cases c9 : t229 < (l0.length : Int)
       · rw [if_pos c9] at H
         have c9b0 : decide (t229 < (l0.length : Int)) = true := decide_eq_true c9
         clear c9
         by_cases c10 : ((rd_T94 l0 t229).f5) = 3
         · rw [if_pos c10] at H
           have c10b0 : (((rd_T94 l0 t229).f5) == 3) = true := beq_iff_eq.mpr c10
           have c10b1 : (((rd_T94 l0 t229).f5) != 3) = false := bne_eq_false_iff_eq.mpr c10
           clear c10
           replace H := Option.bind_eq_some_iff.mp H
           obtain ⟨t235, A110, H⟩ := H
           replace H : (spec_l09Chain.l0 k1 l0 y230 t235 a1_0 a1_1 a1_2 a1_3 a1_4 a1_5 a1_6) = some r := H
           have A11 := Aside0.mk A110
           clear A110
           have H' := Aside0.mk H
           clear H
           have hcz12_0 := bk BK225 0
           have hcz12_1 := bk BK225 1
           have hcz12_2 := bk BK225 2
           have hcz12_3 := bk BK225 3
           have hcz12_4 := bk BK225 4
           have hcz12_5 := bk BK225 5
           have hcz12_6 := bk BK225 6
           have hfz12_0 := blk_frozen BK225.out 0
           have hfz12_1 := blk_frozen BK225.out 1
           have hfz12_2 := blk_frozen BK225.out 2
           have hfz12_3 := blk_frozen BK225.out 3
           have hfz12_4 := blk_frozen BK225.out 4
           have hfz12_5 := blk_frozen BK225.out 5
           have hfz12_6 := blk_frozen BK225.out 6
           go_wp2_with (first | ((with_reducible refine gate_callee (f := 97) rfl ?_); refine goesL_ (some 11) rfl rfl Try.func97 (by kernel_rfl) rfl #[.slice A0 l0.length c0, .int .i64 x6_1, .agg #[.int .i64 a1_0, .int .i64 a1_1, .string a1_2, .int .i64 a1_3, .bool a1_4, .bool a1_5, .bool a1_6]] rfl (by (try simp only [List.map_toArray, List.map_cons, List.map_nil]); first | done | rfl | (simp only [List.length_drop, List.length_take]; rfl)) ?_; (with_reducible refine (spec_l09First.calls k1 _ _ l0 x6_1 a1_0 a1_1 a1_2 a1_3 a1_4 a1_5 a1_6 t229 _ ?side1 ?side2 A6.out).mono ?_); (case side1 => repeat (first | exact (Kd.C_below HR0.out HB.out) | (with_reducible refine Kd.C_alloc ?_ _) | (with_reducible refine Kd.C_drewN ?_ _) | (with_reducible refine Kd.C_drew ?_))); (case side2 => exact HC0.out); rintro e w13 ⟨rfl, hb⟩; refine ⟨_, rfl, ?_⟩; have n0_ := Aside0.mk (Kd.R_below (by (with_reducible repeat (first | apply Kd.R_alloc | apply Kd.R_drewN | apply Kd.R_drew)); exact HO_5.out) hb); have n1_ := Aside0.mk (blk_below (g := gb225) (o := .cells #[.int .i64 a1_0, .int .i64 a1_1, .string a1_2, .int .i64 a1_3, .bool a1_4, .bool a1_5, .bool a1_6] 43 (0, 0)) (by (with_reducible repeat (first | refine blk_drewN ?_ _ | refine blk_drew ?_ | refine blk_alloc ?_ _)); exact BK225.out) hb); have n2_ := Aside0.mk (bs_ hb); clear HO_5; clear BK225; clear HB; have HO_5 := n0_; have BK225 := n1_; have HB := n2_; clear n0_ n1_ n2_; (try clear hb); (try clear hb2); (try clear hk); (try clear hi)) | ((with_reducible refine gate_builtin (b := .append) (xs := #[.tmp 12, .tmp 14]) rfl ?_); at_builtin; refine Kd.R_append (Kd.int .i64) (w0 := w) w.heap.size rfl (.tmp 12) (.tmp 14) 69 2 (.int .i64 0) 8 rfl Try.underlying69 info2 rfl (by decide) (by omega) u5 x5_1 t229 [.int .i64 t229] (fun _ => True) (fun _ => False) rfl rfl ?aP (fun _ hk => hk.elim) ?aF ?aO ?aB ?aS ?aL ?_; (case aP => exact rfl); (case aB => exact bb_); (case aF => exact (fun _ _ => trivial)); (case aO => exact (by (with_reducible repeat (first | apply Kd.R_alloc | apply Kd.R_drewN | apply Kd.R_drew)); exact HO_5.out)); (case aS => exact (bz_)); (case aL => have := LMc7.out; omega); intro v231 w14 ho hb hg hat; rw [← Ny230.out] at ho; have n0_ := Aside0.mk (blk_grown (g := gb225) (o := .cells #[.int .i64 a1_0, .int .i64 a1_1, .string a1_2, .int .i64 a1_3, .bool a1_4, .bool a1_5, .bool a1_6] 43 (0, 0)) (by (with_reducible repeat (first | refine blk_drewN ?_ _ | refine blk_drew ?_ | refine blk_alloc ?_ _)); exact BK225.out) hg (Kd.R_ne HO_5.out BK225.out (by decide))); have n1_ := Aside0.mk (hb); have n2_ := Aside0.mk (ho); clear BK225; clear HB; clear HO_5; have BK225 := n0_; have HB := n1_; have HO232 := n2_; clear n0_ n1_ n2_; clear ho hb hg hat; have p233 : 0 ≤ (t229 : Int) := of_decide_eq_true (by first | (with_reducible assumption) | assumption); have q233 : t229 < (l0.length : Int) := of_decide_eq_true (by first | (with_reducible assumption) | assumption); obtain ⟨ad233, e233, hx233_0, hx233_1, hx233_2, hx233_3, hx233_4, hx233_5, hx233_6⟩ := at_T94 HR0.out t229 p233 q233; cases e233; replace hx233_0 := cel HB hx233_0; replace hx233_1 := cel HB hx233_1; replace hx233_2 := cel HB hx233_2; replace hx233_3 := cel HB hx233_3; replace hx233_4 := cel HB hx233_4; replace hx233_5 := cel HB hx233_5; replace hx233_6 := cel HB hx233_6; replace p233 := eq_true p233; replace q233 := eq_true q233; have p234 : 0 ≤ (t229 : Int) := of_decide_eq_true (by first | (with_reducible assumption) | assumption); have q234 : t229 < (l0.length : Int) := of_decide_eq_true (by first | (with_reducible assumption) | assumption); obtain ⟨ad234, e234, hx234_0, hx234_1, hx234_2, hx234_3, hx234_4, hx234_5, hx234_6⟩ := at_T94 HR0.out t229 p234 q234; obtain rfl : ad233 = ad234 := (by injection e234); replace hx234_0 := cel HB hx234_0; replace hx234_1 := cel HB hx234_1; replace hx234_2 := cel HB hx234_2; replace hx234_3 := cel HB hx234_3; replace hx234_4 := cel HB hx234_4; replace hx234_5 := cel HB hx234_5; replace hx234_6 := cel HB hx234_6; replace p234 := eq_true p234; replace q234 := eq_true q234) | ((with_reducible refine gate_callee (f := 94) rfl ?_); refine goesL_ (some 29) rfl rfl Try.func94 (by kernel_rfl) rfl #[.slice (some ad233) l0.length c0, .string ((rd_T94 l0 t229).f6)] rfl (by (try simp only [List.map_toArray, List.map_cons, List.map_nil]); first | done | rfl | (simp only [List.length_drop, List.length_take]; rfl)) ?_; (with_reducible refine (spec_l09Find.calls k1 _ _ l0 ((rd_T94 l0 t229).f6) t235 _ ?side1 ?side2 A11.out).mono ?_); (case side1 => repeat (first | exact (Kd.C_below HR0.out HB.out) | (with_reducible refine Kd.C_alloc ?_ _) | (with_reducible refine Kd.C_drewN ?_ _) | (with_reducible refine Kd.C_drew ?_))); (case side2 => exact HC0.out); rintro e w' ⟨rfl, ⟨nd, rfl⟩⟩; refine ⟨_, rfl, ?_⟩))
           go_roundg k1
           case measure => have := HK1.out; omega
           case rel => exact ⟨(y230), (t235), (by first | rfl | (simp; done) | (simp [*]; done)), H', ⟨by have := HK1.out; omega⟩, ⟨by (with_reducible repeat (first | apply Kd.R_alloc | apply Kd.R_drewN | apply Kd.R_drew)); exact HO232.out⟩, ⟨by (with_reducible repeat (first | refine blk_drewN ?_ _ | refine blk_drew ?_ | refine blk_alloc ?_ _)); exact BK225.out⟩, ⟨bb_⟩⟩
         · rw [if_neg c10] at H
           have c10b0 : (((rd_T94 l0 t229).f5) == 3) = false := beq_eq_false_iff_ne.mpr c10
           have c10b1 : (((rd_T94 l0 t229).f5) != 3) = true := bne_iff_ne.mpr c10
           obtain rfl := Option.some.inj H
           have hcz15_0 := bk BK225 0
           have hcz15_1 := bk BK225 1
           have hcz15_2 := bk BK225 2
           have hcz15_3 := bk BK225 3
           have hcz15_4 := bk BK225 4
           have hcz15_5 := bk BK225 5
           have hcz15_6 := bk BK225 6
           have hfz15_0 := blk_frozen BK225.out 0
           have hfz15_1 := blk_frozen BK225.out 1
           have hfz15_2 := blk_frozen BK225.out 2
           have hfz15_3 := blk_frozen BK225.out 3
           have hfz15_4 := blk_frozen BK225.out 4
           have hfz15_5 := blk_frozen BK225.out 5
           have hfz15_6 := blk_frozen BK225.out 6
           go_wp2_with (first | ((with_reducible refine gate_callee (f := 97) rfl ?_); refine goesL_ (some 11) rfl rfl Try.func97 (by kernel_rfl) rfl #[.slice A0 l0.length c0, .int .i64 x6_1, .agg #[.int .i64 a1_0, .int .i64 a1_1, .string a1_2, .int .i64 a1_3, .bool a1_4, .bool a1_5, .bool a1_6]] rfl (by (try simp only [List.map_toArray, List.map_cons, List.map_nil]); first | done | rfl | (simp only [List.length_drop, List.length_take]; rfl)) ?_; (with_reducible refine (spec_l09First.calls k1 _ _ l0 x6_1 a1_0 a1_1 a1_2 a1_3 a1_4 a1_5 a1_6 t229 _ ?side1 ?side2 A6.out).mono ?_); (case side1 => repeat (first | exact (Kd.C_below HR0.out HB.out) | (with_reducible refine Kd.C_alloc ?_ _) | (with_reducible refine Kd.C_drewN ?_ _) | (with_reducible refine Kd.C_drew ?_))); (case side2 => exact HC0.out); rintro e w16 ⟨rfl, hb⟩; refine ⟨_, rfl, ?_⟩; have n0_ := Aside0.mk (Kd.R_below (by (with_reducible repeat (first | apply Kd.R_alloc | apply Kd.R_drewN | apply Kd.R_drew)); exact HO_5.out) hb); have n1_ := Aside0.mk (blk_below (g := gb225) (o := .cells #[.int .i64 a1_0, .int .i64 a1_1, .string a1_2, .int .i64 a1_3, .bool a1_4, .bool a1_5, .bool a1_6] 43 (0, 0)) (by (with_reducible repeat (first | refine blk_drewN ?_ _ | refine blk_drew ?_ | refine blk_alloc ?_ _)); exact BK225.out) hb); have n2_ := Aside0.mk (bs_ hb); clear HO_5; clear BK225; clear HB; have HO_5 := n0_; have BK225 := n1_; have HB := n2_; clear n0_ n1_ n2_; (try clear hb); (try clear hb2); (try clear hk); (try clear hi)) | ((with_reducible refine gate_builtin (b := .append) (xs := #[.tmp 12, .tmp 14]) rfl ?_); at_builtin; refine Kd.R_append (Kd.int .i64) (w0 := w) w.heap.size rfl (.tmp 12) (.tmp 14) 69 2 (.int .i64 0) 8 rfl Try.underlying69 info2 rfl (by decide) (by omega) u5 x5_1 t229 [.int .i64 t229] (fun _ => True) (fun _ => False) rfl rfl ?aP (fun _ hk => hk.elim) ?aF ?aO ?aB ?aS ?aL ?_; (case aP => exact rfl); (case aB => exact bb_); (case aF => exact (fun _ _ => trivial)); (case aO => exact (by (with_reducible repeat (first | apply Kd.R_alloc | apply Kd.R_drewN | apply Kd.R_drew)); exact HO_5.out)); (case aS => exact (bz_)); (case aL => have := LMc7.out; omega); intro v231 w17 ho hb hg hat; rw [← Ny230.out] at ho; have n0_ := Aside0.mk (blk_grown (g := gb225) (o := .cells #[.int .i64 a1_0, .int .i64 a1_1, .string a1_2, .int .i64 a1_3, .bool a1_4, .bool a1_5, .bool a1_6] 43 (0, 0)) (by (with_reducible repeat (first | refine blk_drewN ?_ _ | refine blk_drew ?_ | refine blk_alloc ?_ _)); exact BK225.out) hg (Kd.R_ne HO_5.out BK225.out (by decide))); have n1_ := Aside0.mk (hb); have n2_ := Aside0.mk (ho); clear BK225; clear HB; clear HO_5; have BK225 := n0_; have HB := n1_; have HO232 := n2_; clear n0_ n1_ n2_; clear ho hb hg hat; have p233 : 0 ≤ (t229 : Int) := of_decide_eq_true (by first | (with_reducible assumption) | assumption); have q233 : t229 < (l0.length : Int) := of_decide_eq_true (by first | (with_reducible assumption) | assumption); obtain ⟨ad233, e233, hx233_0, hx233_1, hx233_2, hx233_3, hx233_4, hx233_5, hx233_6⟩ := at_T94 HR0.out t229 p233 q233; cases e233; replace hx233_0 := cel HB hx233_0; replace hx233_1 := cel HB hx233_1; replace hx233_2 := cel HB hx233_2; replace hx233_3 := cel HB hx233_3; replace hx233_4 := cel HB hx233_4; replace hx233_5 := cel HB hx233_5; replace hx233_6 := cel HB hx233_6; replace p233 := eq_true p233; replace q233 := eq_true q233))
           go_ret
           exact ⟨_, by first | rfl | (simp [errW_none, errW_some] <;> rfl) | (simp [*, errW_none, errW_some] <;> rfl), by (with_reducible repeat (first | apply Kd.R_alloc | apply Kd.R_drewN | apply Kd.R_drew)); exact HO232.out, bb_⟩
       · rw [if_neg c9] at H
         exact absurd H (by simp)
     · rw [if_neg c8] at H
       exact absurd H (by simp)
   · rw [if_neg c7] at H
     exact absurd H (by simp)

end Go.Proofs.Ytmfbkbbgokjhnaa.F
