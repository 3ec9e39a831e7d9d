-- Written by this session's program (wip/bin/hp.py) over the kit's print: a function's Lean form, and a proof that the call does what it says.
import Derived.Test.YtmfbkbbgokjhnaaGreatFx0
import Derived.Test.YtmfbkbbgokjhnaaGreatSq
namespace Go.Proofs.YtmfbkbbgokjhnaaGreat.F
open Go.RowKit Go.Proofs.YtmfbkbbgokjhnaaGreatW.PrintWords Go.Proofs.YtmfbkbbgokjhnaaGreatW.PrintLast Go.Proofs.YtmfbkbbgokjhnaaGreatW.PrintMore
attribute [local go_sem] max2_int min2_int max_two min_two max_three min_three max_four min_four   -- for this text's walks alone
set_option linter.unusedVariables false
set_option linter.unusedSimpArgs false

/-! ### spec_IsInterest: function 84 -/
def spec_IsInterest.f (k : Nat) (a0_0 : ByteArray) (a0_1 : Int) (a0_2 : ByteArray) (a0_3 : Int) (a0_4 : Int) : Option (Bool) := (spec_IsPartyCode.f k a0_0).bind fun t119 => (if t119 = true then ((spec_IsPartyCode.f k a0_2).bind fun t120 => (if t120 = true then ((spec_l01In.f a0_1 0 3).bind fun t121 => (if t121 = true then ((spec_IsAmount.f a0_3).bind fun t122 => (if t122 = true then ((spec_l01In.f a0_4 0 60).bind fun t123 => (if t123 = true then (if a0_1 = 0 then (some true) else (some (a0_4 == 0))) else (some false))) else (some false))) else (some false))) else (some false))) else (some false))
theorem spec_IsInterest.mono : ∀ a0 a1 a2 a3 a4 k, LeO (spec_IsInterest.f k a0 a1 a2 a3 a4) (spec_IsInterest.f (k + 1) a0 a1 a2 a3 a4) := by
 intro a0 a1 a2 a3 a4 k
 unfold spec_IsInterest.f
 repeat' first
  | (with_reducible exact spec_IsPartyCode.mono _ _)
  | (with_reducible exact LeO.refl _)
  | (with_reducible exact LeO.none _)
  | (with_reducible refine LeO.ite ?_ ?_)
  | (with_reducible refine LeO.bind ?_ (fun _ => ?_))
  | exact spec_IsPartyCode.mono _ _
  | exact LeO.none _
  | refine LeO.ite ?_ ?_
  | refine LeO.bind ?_ (fun _ => ?_)
set_option maxHeartbeats 8000000 in
set_option maxRecDepth 100000 in
theorem spec_IsInterest.calls (k : Nat) (a0_0 : ByteArray) (a0_1 : Int) (a0_2 : ByteArray) (a0_3 : Int) (a0_4 : Int) (r : Bool) (w : World) (h : spec_IsInterest.f k a0_0 a0_1 a0_2 a0_3 a0_4 = some r) :
 Calls Tryz.prog 84 #[.agg #[.string a0_0, .int .i64 a0_1, .string a0_2, .int .i64 a0_3, .int .i64 a0_4]] w fun e w' => e = .returned (.bool r) ∧ Below w.heap.size w w' := by
 have hu103 := Tryz.underlying103
 have HB := Aside0.mk (Below.refl w.heap.size w)
 have H : ((spec_IsPartyCode.f k a0_0).bind fun t119 => (if t119 = true then ((spec_IsPartyCode.f k a0_2).bind fun t120 => (if t120 = true then ((spec_l01In.f a0_1 0 3).bind fun t121 => (if t121 = true then ((spec_IsAmount.f a0_3).bind fun t122 => (if t122 = true then ((spec_l01In.f a0_4 0 60).bind fun t123 => (if t123 = true then (if a0_1 = 0 then (some true) else (some (a0_4 == 0))) else (some false))) else (some false))) else (some false))) else (some false))) else (some false))) = some r := h
 clear h
 replace H := Option.bind_eq_some_iff.mp H
 obtain ⟨t119, A20, H⟩ := H
 replace H : (if t119 = true then ((spec_IsPartyCode.f k a0_2).bind fun t120 => (if t120 = true then ((spec_l01In.f a0_1 0 3).bind fun t121 => (if t121 = true then ((spec_IsAmount.f a0_3).bind fun t122 => (if t122 = true then ((spec_l01In.f a0_4 0 60).bind fun t123 => (if t123 = true then (if a0_1 = 0 then (some true) else (some (a0_4 == 0))) else (some false))) else (some false))) else (some false))) else (some false))) else (some false)) = some r := H
 have A2 := Aside0.mk A20
 clear A20
 by_cases c3 : t119 = true
 subst c3
 have H1 : ((spec_IsPartyCode.f k a0_2).bind fun t120 => (if t120 = true then ((spec_l01In.f a0_1 0 3).bind fun t121 => (if t121 = true then ((spec_IsAmount.f a0_3).bind fun t122 => (if t122 = true then ((spec_l01In.f a0_4 0 60).bind fun t123 => (if t123 = true then (if a0_1 = 0 then (some true) else (some (a0_4 == 0))) else (some false))) else (some false))) else (some false))) else (some false))) = some r := by rw [if_pos rfl] at H; exact H
 clear H
 have H := H1
 clear H1
 replace H := Option.bind_eq_some_iff.mp H
 obtain ⟨t120, A40, H⟩ := H
 replace H : (if t120 = true then ((spec_l01In.f a0_1 0 3).bind fun t121 => (if t121 = true then ((spec_IsAmount.f a0_3).bind fun t122 => (if t122 = true then ((spec_l01In.f a0_4 0 60).bind fun t123 => (if t123 = true then (if a0_1 = 0 then (some true) else (some (a0_4 == 0))) else (some false))) else (some false))) else (some false))) else (some false)) = some r := H
 have A4 := Aside0.mk A40
 clear A40
 by_cases c5 : t120 = true
 subst c5
 have H1 : ((spec_l01In.f a0_1 0 3).bind fun t121 => (if t121 = true then ((spec_IsAmount.f a0_3).bind fun t122 => (if t122 = true then ((spec_l01In.f a0_4 0 60).bind fun t123 => (if t123 = true then (if a0_1 = 0 then (some true) else (some (a0_4 == 0))) else (some false))) else (some false))) else (some false))) = some r := by rw [if_pos rfl] at H; exact H
 clear H
 have H := H1
 clear H1
 replace H := Option.bind_eq_some_iff.mp H
 obtain ⟨t121, A60, H⟩ := H
 replace H : (if t121 = true then ((spec_IsAmount.f a0_3).bind fun t122 => (if t122 = true then ((spec_l01In.f a0_4 0 60).bind fun t123 => (if t123 = true then (if a0_1 = 0 then (some true) else (some (a0_4 == 0))) else (some false))) else (some false))) else (some false)) = some r := H
 have A6 := Aside0.mk A60
 clear A60
 by_cases c7 : t121 = true
 subst c7
 have H1 : ((spec_IsAmount.f a0_3).bind fun t122 => (if t122 = true then ((spec_l01In.f a0_4 0 60).bind fun t123 => (if t123 = true then (if a0_1 = 0 then (some true) else (some (a0_4 == 0))) else (some false))) else (some false))) = some r := by rw [if_pos rfl] at H; exact H
 clear H
 have H := H1
 clear H1
 replace H := Option.bind_eq_some_iff.mp H
 obtain ⟨t122, A80, H⟩ := H
 replace H : (if t122 = true then ((spec_l01In.f a0_4 0 60).bind fun t123 => (if t123 = true then (if a0_1 = 0 then (some true) else (some (a0_4 == 0))) else (some false))) else (some false)) = some r := H
 have A8 := Aside0.mk A80
 clear A80
 by_cases c9 : t122 = true
 subst c9
 have H1 : ((spec_l01In.f a0_4 0 60).bind fun t123 => (if t123 = true then (if a0_1 = 0 then (some true) else (some (a0_4 == 0))) else (some false))) = some r := by rw [if_pos rfl] at H; exact H
 clear H
 have H := H1
 clear H1
 replace H := Option.bind_eq_some_iff.mp H
 obtain ⟨t123, A100, H⟩ := H
 replace H : (if t123 = true then (if a0_1 = 0 then (some true) else (some (a0_4 == 0))) else (some false)) = some r := H
 have A10 := Aside0.mk A100
 clear A100
 by_cases c11 : t123 = true
 subst c11
 have H1 : (if a0_1 = 0 then (some true) else (some (a0_4 == 0))) = some r := by rw [if_pos rfl] at H; exact H
 clear H
 have H := H1
 clear H1
 by_cases c12 : a0_1 = 0
 rw [if_pos c12] at H
 have c12b0 : (a0_1 == 0) = true := beq_iff_eq.mpr c12
 have c12b1 : (a0_1 != 0) = false := bne_eq_false_iff_eq.mpr c12
 clear c12
 obtain rfl := Option.some.inj H
 rotate_left
 rw [if_neg c12] at H
 have c12b0 : (a0_1 == 0) = false := beq_eq_false_iff_ne.mpr c12
 have c12b1 : (a0_1 != 0) = true := bne_iff_ne.mpr c12
 obtain rfl := Option.some.inj H
 rotate_left
 replace c11 := Bool.eq_false_iff.mpr c11
 subst c11
 have H1 : (some false) = some r := by rw [if_neg (show ¬ (false = true) by decide)] at H; exact H
 clear H
 have H := H1
 clear H1
 obtain rfl := Option.some.inj H
 rotate_left
 replace c9 := Bool.eq_false_iff.mpr c9
 subst c9
 have H1 : (some false) = some r := by rw [if_neg (show ¬ (false = true) by decide)] at H; exact H
 clear H
 have H := H1
 clear H1
 obtain rfl := Option.some.inj H
 rotate_left
 replace c7 := Bool.eq_false_iff.mpr c7
 subst c7
 have H1 : (some false) = some r := by rw [if_neg (show ¬ (false = true) by decide)] at H; exact H
 clear H
 have H := H1
 clear H1
 obtain rfl := Option.some.inj H
 rotate_left
 replace c5 := Bool.eq_false_iff.mpr c5
 subst c5
 have H1 : (some false) = some r := by rw [if_neg (show ¬ (false = true) by decide)] at H; exact H
 clear H
 have H := H1
 clear H1
 obtain rfl := Option.some.inj H
 rotate_left
 replace c3 := Bool.eq_false_iff.mpr c3
 subst c3
 have H1 : (some false) = some r := by rw [if_neg (show ¬ (false = true) by decide)] at H; exact H
 clear H
 have H := H1
 clear H1
 obtain rfl := Option.some.inj H
 rotate_left
 all_goals
  go_enter Tryz.func84, Tryz.ntmps84
  go_wp2_with (first | ((with_reducible refine gate_dst (N := 1) rfl ?_); refine box_event ?hg (N := 1) ?hd (cs := #[.string a0_0, .int .i64 a0_1, .string a0_2, .int .i64 a0_3, .int .i64 a0_4]) (t := 103) ?hr ?_; (case hd => rfl); (case hg => rfl); (case hr => first | (go_simp; done) | (go_simp; rfl)); intro gb118 hg w13 hbox hb; have n0_ := Aside0.mk (bs_ hb); have n1_ := Aside0.mk (hbox); have n2_ := Aside0.mk ((by rw [hg]; exact (bz_) : w.heap.size ≤ gb118)); have n3_ := Aside0.mk ((by rw [hg]; exact (bz_) : w.heap.size ≤ gb118)); clear HB; have HB := n0_; have BK118 := n1_; have GW118 := n2_; have GE118 := n3_; clear n0_ n1_ n2_ n3_; clear hb hbox hg; have hcz14_0 := bk BK118 0; have hcz14_1 := bk BK118 1; have hcz14_2 := bk BK118 2; have hcz14_3 := bk BK118 3; have hcz14_4 := bk BK118 4; have hfz14_0 := blk_frozen BK118.out 0; have hfz14_1 := blk_frozen BK118.out 1; have hfz14_2 := blk_frozen BK118.out 2; have hfz14_3 := blk_frozen BK118.out 3; have hfz14_4 := blk_frozen BK118.out 4) | ((with_reducible refine gate_callee (f := 136) rfl ?_); refine goesL_ (some 5) rfl rfl Tryz.func136 (by kernel_rfl) rfl #[.string a0_0] rfl (by (try simp only [List.map_toArray, List.map_cons, List.map_nil]); first | done | rfl | (simp only [List.length_drop, List.length_take]; rfl)) ?_; (with_reducible refine (spec_IsPartyCode.calls k a0_0 _ _ A2.out).mono ?_); rintro e w' ⟨rfl, ⟨nd, rfl⟩⟩; refine ⟨_, rfl, ?_⟩) | (go_at_call 136; (with_reducible refine (spec_IsPartyCode.calls k a0_2 _ _ A4.out).mono ?_); rintro e w' ⟨rfl, ⟨nd, rfl⟩⟩) | (go_at_call 86; (with_reducible refine (spec_l01In.calls a0_1 0 3 _ _ A6.out).mono ?_); rintro e w' ⟨rfl, ⟨nd, rfl⟩⟩) | (go_at_call 125; (with_reducible refine (spec_IsAmount.calls a0_3 _ _ A8.out).mono ?_); rintro e w' ⟨rfl, ⟨nd, rfl⟩⟩) | (go_at_call 86; (with_reducible refine (spec_l01In.calls a0_4 0 60 _ _ A10.out).mono ?_); rintro e w' ⟨rfl, ⟨nd, rfl⟩⟩))
  go_ret
  exact ⟨by first | rfl | (simp [errW_none, errW_some] <;> rfl) | (simp [*, errW_none, errW_some] <;> rfl), bb_⟩

end Go.Proofs.YtmfbkbbgokjhnaaGreat.F
namespace Go.Proofs.YtmfbkbbgokjhnaaGreat.F
open Go.RowKit Go.Proofs.YtmfbkbbgokjhnaaGreatW.PrintWords Go.Proofs.YtmfbkbbgokjhnaaGreatW.PrintLast Go.Proofs.YtmfbkbbgokjhnaaGreatW.PrintMore
attribute [local go_sem] max2_int min2_int max_two min_two max_three min_three max_four min_four   -- for this text's walks alone
set_option linter.unusedVariables false
set_option linter.unusedSimpArgs false

/-! ### spec_IsManifest: function 34 -/
def interestB (x : S103) : Bool := codeB x.f0 && codeB x.f2 && decide (0 ≤ x.f1 ∧ x.f1 ≤ 3) && decide (0 ≤ x.f3 ∧ x.f3 ≤ 1000000000) && decide (x.f4 = 0 ∨ x.f1 = 0 ∧ 0 ≤ x.f4 ∧ x.f4 ≤ 60)
def kindN (j : Int) (l : List S103) : Int := (l.countP fun x => x.f1 == j : Nat)
def cmpIn (a b : S103) : Int := Lib.compareBytes a.f0.data.toList b.f0.data.toList
def manifestB (l : List S103) : Bool := l.all interestB && decide (kindN 0 l = 1 ∧ kindN 1 l ≤ 1 ∧ kindN 2 l ≤ 1) && decide (l.length ≤ 10) && risingB cmpIn l
theorem rd_at_In (l : List S103) (i : Nat) (h : i < l.length) : rd_T103 l (i : Int) = l[i] := by
 simp [rd_T103, List.getD_eq_getElem?_getD, h]
theorem kindN_step (j : Int) (l : List S103) (i : Nat) (h : i < l.length) (c : Int) (hc : l[i].f1 = c) : kindN j (l.take (i + 1)) = kindN j (l.take i) + if c = j then 1 else 0 := by
 unfold kindN
 rw [List.take_succ_eq_append_getElem h, List.countP_append, List.countP_singleton, hc]
 by_cases e : c = j <;> simp [e]
theorem kindN_le (j : Int) (l : List S103) (i : Nat) : 0 ≤ kindN j (l.take i) ∧ kindN j (l.take i) ≤ i := by
 unfold kindN
 have h1 := List.countP_le_length (p := fun x : S103 => x.f1 == j) (l := l.take i)
 have h2 : (l.take i).length ≤ i := by rw [List.length_take]; omega
 omega
theorem manifest_bad (l : List S103) (i : Nat) (h : i < l.length) (hb : interestB l[i] = false) : manifestB l = false := by
 have : l.all interestB = false := by
  rw [List.all_eq_false]
  exact ⟨l[i], List.getElem_mem h, by rw [hb]; simp⟩
 unfold manifestB
 rw [this]
 rfl
theorem less_cmp (a b : List UInt8) : Op.bytesLess a b = decide (Lib.compareBytes a b < 0) := by
 induction a generalizing b with
 | nil => cases b <;> simp [Op.bytesLess, Lib.compareBytes]
 | cons x a ih =>
  cases b with
  | nil => simp [Op.bytesLess, Lib.compareBytes]
  | cons y b =>
   unfold Op.bytesLess Lib.compareBytes
   rw [ih]
   by_cases h : x < y
   · simp [h]
   · by_cases h2 : y < x
     · have : ¬ x = y := by intro e; subst e; exact h h2
       simp [h, h2, this]
     · have : x = y := UInt8.le_antisymm (UInt8.not_lt.1 h2) (UInt8.not_lt.1 h)
       subst this
       simp [h]
def interestsAtS (k : Nat) (l : List S103) : Bool := l.all fun x => spec_IsInterest.f k x.f0 x.f1 x.f2 x.f3 x.f4 == some (interestB x)
def spec_IsManifest.f (k : Nat) (l0 : List S103) : Option Bool := if interestsAtS k l0 = true then some (manifestB l0) else none
theorem spec_IsManifest.mono : ∀ a0 k, LeO (spec_IsManifest.f k a0) (spec_IsManifest.f (k + 1) a0) := by
 intro l k r h
 unfold spec_IsManifest.f at h ⊢
 by_cases hc : interestsAtS k l = true
 · rw [if_pos hc] at h
   have hc' : interestsAtS (k + 1) l = true := by
    unfold interestsAtS at hc ⊢
    rw [List.all_eq_true] at hc ⊢
    intro x hx
    have := beq_iff_eq.1 (hc x hx)
    exact beq_iff_eq.2 (spec_IsInterest.mono _ _ _ _ _ k _ this)
   rw [if_pos hc']
   exact h
 · rw [if_neg hc] at h
   cases h
theorem manifest_fall (l : List S103) (i : Nat) (h : i < l.length) (h1 : 1 ≤ i) (hb : ¬ cmpIn (l[i - 1]'(by omega)) l[i] < 0) : manifestB l = false := by
 unfold manifestB
 rw [risingB_no cmpIn l i h h1 hb]
 simp
noncomputable def spec_IsManifest.T5 : Bool × List (List Nat × List Nat) := rtab .any (opsOf Tryz.f34 5)
def spec_IsManifest.B5 : List Nat := [0, 0, 3, 7, 15, 31, 63, 127, 255, 511, 1023, 1023, 3071, 8191, 16383, 32767, 1023, 1023, 197631, 459775, 984063, 2097151, 4194303, 8388607]
theorem spec_IsManifest.tab5 : rtab .any (opsOf Tryz.f34 5) = spec_IsManifest.T5 := rfl
theorem spec_IsManifest.bits5 : waitsOk spec_IsManifest.T5.2 spec_IsManifest.B5 = true := by kernel_rfl
theorem string_geq (w : World) (a b : ByteArray) : Sem.run Tryz.prog (binOp .geq 9 (.string a) (.string b)) w = .ok (.bool (!Op.bytesLess a.toList b.toList)) w := by
 simp [binOp, Op.stringOp, go_sem]
set_option maxHeartbeats 8000000 in
set_option maxRecDepth 100000 in
attribute [local go_sem] string_geq in
theorem spec_IsManifest.calls (k : Nat) (A0 : Option Addr) (c0 : Nat) (l0 : List S103) (r : Bool) (w : World) (hr0 : Kd.C k103 w A0 l0.length l0) (hc0 : l0.length ≤ c0) (h : spec_IsManifest.f k l0 = some r) :
 Calls Tryz.prog 34 #[.slice A0 l0.length c0] w fun e w' => e = .returned (.bool r) ∧ Below w.heap.size w w' := by
 have hbig : l0.length ≤ 9223372036854775807 := hr0.2.1
 have hu := Tryz.underlying103
 unfold spec_IsManifest.f at h
 by_cases hcl : interestsAtS k l0 = true
 case neg => rw [if_neg hcl] at h; cases h
 rw [if_pos hcl] at h
 obtain rfl := Option.some.inj h
 clear h
 have HI := Aside0.mk (fun (x : S103) (hx : x ∈ l0) (W : World) => spec_IsInterest.calls k x.f0 x.f1 x.f2 x.f3 x.f4 (interestB x) W (beq_iff_eq.1 (List.all_eq_true.1 hcl x hx)))
 have HR0 := Aside0.mk hr0
 clear hr0 hc0 hcl
 go_enter Tryz.func34, Tryz.ntmps34
 go_wp2_with ((with_reducible refine gate_dst (N := 5) rfl ?_); refine Kd.event_run (r := .slice (some ⟨w.heap.size, 0, none⟩) 4 4) (w1 := w.alloc (.cells #[.int .i64 0, .int .i64 0, .int .i64 0, .int .i64 0] 2)) ?hg ?hr ?_; (case hg => rfl); (case hr => first | (go_simp; done) | (go_simp; rfl)))
 go_loopg [4] l0.length (fun gg s4 wr => ∃ (kk : Nat) (n0 n1 n2 n3 : Int), kk ≤ l0.length ∧ l0.length - kk ≤ gg ∧ s4 = .int .i64 kk ∧ Aside0 (Below w.heap.size w wr) ∧ Aside0 (wr.heap[w.heap.size]? = some (.cells #[.int .i64 n0, .int .i64 n1, .int .i64 n2, .int .i64 n3] 2 (0, 0))) ∧ Aside0 ((∀ j (hj : j < l0.length), j < kk → interestB l0[j] = true) ∧ n0 = kindN 0 (l0.take kk) ∧ n1 = kindN 1 (l0.take kk) ∧ n2 = kindN 2 (l0.take kk) ∧ n3 = kindN 3 (l0.take kk)) ∧ Aside0 (∀ j (hj : j < l0.length) (h1 : 1 ≤ j), j < kk → cmpIn (l0[j - 1]'(by omega)) l0[j] < 0))
 case atStart => exact ⟨0, 0, 0, 0, 0, by omega, by omega, rfl, ⟨below_alloc (Below.refl _ _) _⟩, ⟨blk_new _ _⟩, ⟨fun j hj h => by omega, by simp [kindN], by simp [kindN], by simp [kindN], by simp [kindN]⟩, ⟨fun j hj h1 h => by omega⟩⟩
 case round =>
  obtain ⟨kk, n0, n1, n2, n3, hkk, hg, rfl, BW, BK, A, RI⟩ := hrel
  by_cases hlt : kk < l0.length
  · have hltz : (kk : Int) < (l0.length : Int) := by omega
    have o2 := at_T103 HR0.out (kk : Int) (by omega) (by omega)
    rw [rd_at_In l0 kk hlt, Int.toNat_natCast] at o2
    have s7 : 0 ≤ (kk : Int) := by omega
    have IC := Aside0.mk (HI.out l0[kk] (List.getElem_mem hlt))
    have BAD := Aside0.mk (manifest_bad l0 kk hlt)
    have STEP := Aside0.mk (fun (c : Int) (hc : l0[kk].f1 = c) (j : Int) => kindN_step j l0 kk hlt c hc)
    have FALL := Aside0.mk (fun (h1 : 1 ≤ kk) (y : S103) (hy : l0[kk - 1]'(by omega) = y) (hb : ¬ cmpIn y l0[kk] < 0) => manifest_fall l0 kk hlt h1 (by rw [hy]; exact hb))
    have LE := Aside0.mk (show (0 ≤ n0 ∧ n0 ≤ kk) ∧ (0 ≤ n1 ∧ n1 ≤ kk) ∧ (0 ≤ n2 ∧ n2 ≤ kk) ∧ (0 ≤ n3 ∧ n3 ≤ kk) by
     obtain ⟨_, e0, e1, e2, e3⟩ := A.out
     rw [e0, e1, e2, e3]
     exact ⟨kindN_le _ _ _, kindN_le _ _ _, kindN_le _ _ _, kindN_le _ _ _⟩)
    generalize hx : l0[kk] = x at o2 IC BAD STEP FALL
    have HX := Aside0.mk hx
    clear hx
    obtain ⟨f0, f1, f2, f3, f4⟩ := x
    simp only at o2 IC BAD STEP FALL
    have hbd := below_drew BW.out
    have hbk := blk_drew BK.out
    by_cases hk0 : 1 ≤ kk
    · have o1 := at_T103 HR0.out ((kk - 1 : Nat) : Int) (by omega) (by omega)
      rw [rd_at_In l0 (kk - 1) (by omega), Int.toNat_natCast] at o1
      have FALL2 := Aside0.mk (FALL.out hk0 _ rfl)
      generalize hy : l0[kk - 1]'(by omega) = y at o1 FALL2
      have HY := Aside0.mk hy
      clear hy FALL
      obtain ⟨y0, y1, y2, y3, y4⟩ := y
      simp only at o1 FALL2
      obtain ⟨ae, e_ae, hz0, hz1, hz2, hz3, hz4⟩ := o2
      cases e_ae
      obtain ⟨ad, e_ad, hx0, _, _, _, _⟩ := o1
      cases e_ad
      have KEEP : ∀ w', Below w.heap.size w w' → w'.heap[w.heap.size]? = some (.cells #[.int .i64 n0, .int .i64 n1, .int .i64 n2, .int .i64 n3] 2 (0, 0)) → w'.cell? (ae.add ((kk - 1) * 5)) = some (.string y0) ∧ w'.cell? (ae.add (kk * 5)) = some (.string f0) ∧ w'.cell? ⟨(ae.add (kk * 5)).block, (ae.add (kk * 5)).off + 1, none⟩ = some (.int .i64 f1) ∧ w'.cell? ⟨(ae.add (kk * 5)).block, (ae.add (kk * 5)).off + 2, none⟩ = some (.string f2) ∧ w'.cell? ⟨(ae.add (kk * 5)).block, (ae.add (kk * 5)).off + 3, none⟩ = some (.int .i64 f3) ∧ w'.cell? ⟨(ae.add (kk * 5)).block, (ae.add (kk * 5)).off + 4, none⟩ = some (.int .i64 f4) ∧ w'.heap[w.heap.size]? = some (.cells #[.int .i64 n0, .int .i64 n1, .int .i64 n2, .int .i64 n3] 2 (0, 0)) ∧ Below w.heap.size w w' := fun w' hb hk => ⟨(hb.cell (World.block_lt_of_cell? w _ hx0)).trans hx0, (hb.cell (World.block_lt_of_cell? w _ hz0)).trans hz0, (hb.cell (World.block_lt_of_cell? w _ hz1)).trans hz1, (hb.cell (World.block_lt_of_cell? w _ hz2)).trans hz2, (hb.cell (World.block_lt_of_cell? w _ hz3)).trans hz3, (hb.cell (World.block_lt_of_cell? w _ hz4)).trans hz4, hk, hb⟩
      have HC := Aside0.mk (show ∀ W : World, Below w.heap.size w W → W.heap[w.heap.size]? = some (.cells #[.int .i64 n0, .int .i64 n1, .int .i64 n2, .int .i64 n3] 2 (0, 0)) → Calls Tryz.prog 84 #[.agg #[.string f0, .int .i64 f1, .string f2, .int .i64 f3, .int .i64 f4]] W fun e w' => e = .returned (.bool (interestB ⟨f0, f1, f2, f3, f4⟩)) ∧ w'.cell? (ae.add ((kk - 1) * 5)) = some (.string y0) ∧ w'.cell? (ae.add (kk * 5)) = some (.string f0) ∧ w'.cell? ⟨(ae.add (kk * 5)).block, (ae.add (kk * 5)).off + 1, none⟩ = some (.int .i64 f1) ∧ w'.cell? ⟨(ae.add (kk * 5)).block, (ae.add (kk * 5)).off + 2, none⟩ = some (.string f2) ∧ w'.cell? ⟨(ae.add (kk * 5)).block, (ae.add (kk * 5)).off + 3, none⟩ = some (.int .i64 f3) ∧ w'.cell? ⟨(ae.add (kk * 5)).block, (ae.add (kk * 5)).off + 4, none⟩ = some (.int .i64 f4) ∧ w'.heap[w.heap.size]? = some (.cells #[.int .i64 n0, .int .i64 n1, .int .i64 n2, .int .i64 n3] 2 (0, 0)) ∧ Below w.heap.size w w' from fun W hW hk => (IC.out W).mono fun e w' ⟨he, hb⟩ => ⟨he, KEEP w' (below_then hW hW.size hb) (blk_below hk hb)⟩)
      have S0 := Aside0.mk (KEEP _ hbd hbk)
      clear KEEP
      replace hx0 := (BW.out.cell (World.block_lt_of_cell? w _ hx0)).trans hx0
      replace hz0 := (BW.out.cell (World.block_lt_of_cell? w _ hz0)).trans hz0
      replace hz1 := (BW.out.cell (World.block_lt_of_cell? w _ hz1)).trans hz1
      replace hz2 := (BW.out.cell (World.block_lt_of_cell? w _ hz2)).trans hz2
      replace hz3 := (BW.out.cell (World.block_lt_of_cell? w _ hz3)).trans hz3
      replace hz4 := (BW.out.cell (World.block_lt_of_cell? w _ hz4)).trans hz4
      have s1 : IntKind.i64.wrap ((kk : Int) - 1) = (kk : Int) - 1 := IntWalk.i64_in _ (by omega)
      have s2 : 0 ≤ (kk : Int) - 1 := by omega
      have s3 : ((kk : Int) - 1).toNat = kk - 1 := by omega
      have s4 : (kk : Int) - 1 < (l0.length : Int) := by omega
      have s5 : 1 ≤ (kk : Int) := by omega
      have s6 : decide (0 < kk) = true := by simp; omega
      cases hb : interestB ⟨f0, f1, f2, f3, f4⟩ with
      | false =>
       have FIN := Aside0.mk (BAD.out hb)
       rw [hb] at HC
       clear hb
       go_wp2_with fail
       refine start_ (n := 24) (S := fun w' => w'.cell? (ae.add ((kk - 1) * 5)) = some (.string y0) ∧ w'.cell? (ae.add (kk * 5)) = some (.string f0) ∧ w'.cell? ⟨(ae.add (kk * 5)).block, (ae.add (kk * 5)).off + 1, none⟩ = some (.int .i64 f1) ∧ w'.cell? ⟨(ae.add (kk * 5)).block, (ae.add (kk * 5)).off + 2, none⟩ = some (.string f2) ∧ w'.cell? ⟨(ae.add (kk * 5)).block, (ae.add (kk * 5)).off + 3, none⟩ = some (.int .i64 f3) ∧ w'.cell? ⟨(ae.add (kk * 5)).block, (ae.add (kk * 5)).off + 4, none⟩ = some (.int .i64 f4) ∧ w'.heap[w.heap.size]? = some (.cells #[.int .i64 n0, .int .i64 n1, .int .i64 n2, .int .i64 n3] 2 (0, 0)) ∧ Below w.heap.size w w') (ds := []) (fb 24 0) (by kernel_rfl) rfl rfl S0.out (fun hHeld => ?_)
       refine with_tabW spec_IsManifest.tab5 spec_IsManifest.bits5 (fun HT_ HW_ => ?_)
       refine sqP_ 0 12 (fb 24 1) (any_of HT_.out (by kernel_rfl)) ?_
       refine sqP_ 1 13 (fb 24 3) (any_of HT_.out (by kernel_rfl)) ?_
       refine sqP_ 2 14 (fb 24 7) (any_of HT_.out (by kernel_rfl)) ?_
       refine sqT_ 3 15 (fb 24 15) (take_ofW HT_.out HW_.out (by kernel_rfl)) hHeld ?_
       refine one_ (i := 4) (N := some 16) (fb 24 31) rfl rfl (one_of HT_.out (by kernel_rfl)) (by decide) (fun K hK => ?_)
       refine goes_ Tryz.func84 (by kernel_rfl) rfl #[.agg #[.string f0, .int .i64 f1, .string f2, .int .i64 f3, .int .i64 f4]] (by rfl) rfl rfl (by (try simp only [List.map_toArray, List.map_cons, List.map_nil]); first | done | rfl) ?_
       refine (HC.out _ hbd hbk).mono ?_
       rintro e w18 ⟨rfl, g0, g1, g2, g3, g4, g5, g6, g7⟩
       refine ⟨_, rfl, ?_⟩
       refine hK.out _ _ ⟨g0, g1, g2, g3, g4, g5, g6, g7⟩ (fun hHeld => ?_)
       clear hK K
       refine sqN_ 16 ?_
       refine sqP_ 5 17 (fb 24 63) (any_of HT_.out (by kernel_rfl)) ?_
       refine sqP_ 6 18 (fb 24 127) (any_of HT_.out (by kernel_rfl)) ?_
       refine sqO_ 7 19 (fb 24 255) (any_of HT_.out (by kernel_rfl)) ?_
       refine sqO_ 8 20 (fb 24 511) (any_of HT_.out (by kernel_rfl)) ?_
       refine sqO_ 9 21 (fb 24 1023) (any_of HT_.out (by kernel_rfl)) ?_
       refine sqO_ 10 22 (fb 24 2047) (any_of HT_.out (by kernel_rfl)) ?_
       refine sqO_ 11 23 (fb 24 4095) (any_of HT_.out (by kernel_rfl)) ?_
       refine sqO_ 12 24 (fb 24 8191) (any_of HT_.out (by kernel_rfl)) ?_
       refine sqO_ 13 25 (fb 24 16383) (any_of HT_.out (by kernel_rfl)) ?_
       refine sqO_ 14 26 (fb 24 32767) (any_of HT_.out (by kernel_rfl)) ?_
       refine sqO_ 15 27 (fb 24 65535) (any_of HT_.out (by kernel_rfl)) ?_
       refine sqO_ 16 28 (fb 24 131071) (any_of HT_.out (by kernel_rfl)) ?_
       refine sqO_ 17 29 (fb 24 262143) (any_of HT_.out (by kernel_rfl)) ?_
       refine sqO_ 18 30 (fb 24 524287) (any_of HT_.out (by kernel_rfl)) ?_
       refine sqO_ 19 31 (fb 24 1048575) (any_of HT_.out (by kernel_rfl)) ?_
       refine sqO_ 20 32 (fb 24 2097151) (any_of HT_.out (by kernel_rfl)) ?_
       refine sqO_ 21 33 (fb 24 4194303) (any_of HT_.out (by kernel_rfl)) ?_
       refine sqO_ 22 34 (fb 24 8388607) (any_of HT_.out (by kernel_rfl)) ?_
       refine sqP_ 23 35 (fb 24 16777215) (any_of HT_.out (by kernel_rfl)) ?_
       refine done_ (done_of HT_.out (by kernel_rfl)) ?_
       go_wp2
       go_ret
       exact ⟨by rw [FIN.out]; rfl, by assumption⟩
      | true =>
       have HB := Aside0.mk hb
       rw [hb] at HC
       clear hb
       cases hq : Op.bytesLess y0.toList f0.toList with
       | false =>
        have FIN := Aside0.mk (show manifestB l0 = false from FALL2.out (by
         unfold cmpIn
         rw [less_cmp, ByteArray.toList_eq, ByteArray.toList_eq, decide_eq_false_iff_not] at hq
         exact hq))
        have Q := hq
        clear hq
        go_wp2_with fail
        first | (go_region_held3 (fun w' => w'.cell? (ae.add ((kk - 1) * 5)) = some (.string y0) ∧ w'.cell? (ae.add (kk * 5)) = some (.string f0) ∧ w'.cell? ⟨(ae.add (kk * 5)).block, (ae.add (kk * 5)).off + 1, none⟩ = some (.int .i64 f1) ∧ w'.cell? ⟨(ae.add (kk * 5)).block, (ae.add (kk * 5)).off + 2, none⟩ = some (.string f2) ∧ w'.cell? ⟨(ae.add (kk * 5)).block, (ae.add (kk * 5)).off + 3, none⟩ = some (.int .i64 f3) ∧ w'.cell? ⟨(ae.add (kk * 5)).block, (ae.add (kk * 5)).off + 4, none⟩ = some (.int .i64 f4) ∧ w'.heap[w.heap.size]? = some (.cells #[.int .i64 n0, .int .i64 n1, .int .i64 n2, .int .i64 n3] 2 (0, 0)) ∧ Below w.heap.size w w') (go_keep) ((go_at_call 84; refine (HC.out _ (by assumption) (by assumption)).mono ?_; rintro e w' ⟨rfl, g0, g1, g2, g3, g4, g5, g6, g7⟩))) | fail
        go_wp2
        go_ret
        exact ⟨by rw [FIN.out]; rfl, by assumption⟩
       | true =>
        have LT := Aside0.mk (show cmpIn ⟨y0, y1, y2, y3, y4⟩ ⟨f0, f1, f2, f3, f4⟩ < 0 by
         unfold cmpIn
         rw [less_cmp, ByteArray.toList_eq, ByteArray.toList_eq, decide_eq_true_eq] at hq
         exact hq)
        have Q := hq
        clear hq
        have hf : f1 = 0 ∨ f1 = 1 ∨ f1 = 2 ∨ f1 = 3 := by
         have := HB.out
         unfold interestB at this
         simp only [Bool.and_eq_true, decide_eq_true_eq] at this
         omega
        rcases hf with rfl | rfl | rfl | rfl
        · have sw : IntKind.i64.wrap (n0 + 1) = n0 + 1 := IntWalk.i64_in _ (by have := LE.out; omega)
          go_wp2_with fail
          first | (go_region_held3 (fun w' => w'.cell? (ae.add ((kk - 1) * 5)) = some (.string y0) ∧ w'.cell? (ae.add (kk * 5)) = some (.string f0) ∧ w'.cell? ⟨(ae.add (kk * 5)).block, (ae.add (kk * 5)).off + 1, none⟩ = some (.int .i64 0) ∧ w'.cell? ⟨(ae.add (kk * 5)).block, (ae.add (kk * 5)).off + 2, none⟩ = some (.string f2) ∧ w'.cell? ⟨(ae.add (kk * 5)).block, (ae.add (kk * 5)).off + 3, none⟩ = some (.int .i64 f3) ∧ w'.cell? ⟨(ae.add (kk * 5)).block, (ae.add (kk * 5)).off + 4, none⟩ = some (.int .i64 f4) ∧ w'.heap[w.heap.size]? = some (.cells #[.int .i64 n0, .int .i64 n1, .int .i64 n2, .int .i64 n3] 2 (0, 0)) ∧ Below w.heap.size w w') (go_keep) ((go_at_call 84; refine (HC.out _ (by assumption) (by assumption)).mono ?_; rintro e w' ⟨rfl, g0, g1, g2, g3, g4, g5, g6, g7⟩))) | fail
          have BK2 := Aside0.mk g6
          have B2 := Aside0.mk g7
          have k0 := (blk_cell BK2.out 0).trans rfl
          have z0 := blk_frozen BK2.out 0
          go_wp2
          go_roundg (l0.length - (kk + 1))
          case measure => omega
          case rel =>
           refine ⟨kk + 1, n0 + 1, n1, n2, n3, by omega, by omega, by go_num, ⟨below_set B2.out (Nat.le_refl _)⟩, ⟨blk_put BK2.out 0 _ rfl⟩, ⟨?_⟩, ⟨fun j hj h1 hjk => ?_⟩⟩
           · obtain ⟨a0, e0, e1, e2, e3⟩ := A.out
             refine ⟨fun j hj hjk => ?_, ?_, ?_, ?_, ?_⟩
             · by_cases e : j = kk
               · subst e; rw [HX.out]; exact HB.out
               · exact a0 j hj (by omega)
             · rw [STEP.out _ rfl 0, ← e0]; simp
             · rw [STEP.out _ rfl 1, ← e1]; simp
             · rw [STEP.out _ rfl 2, ← e2]; simp
             · rw [STEP.out _ rfl 3, ← e3]; simp
           · by_cases e : j = kk
             · subst e
               rw [HX.out, HY.out]; exact LT.out
             · exact RI.out j hj h1 (by omega)
        · have sw : IntKind.i64.wrap (n1 + 1) = n1 + 1 := IntWalk.i64_in _ (by have := LE.out; omega)
          go_wp2_with fail
          first | (go_region_held3 (fun w' => w'.cell? (ae.add ((kk - 1) * 5)) = some (.string y0) ∧ w'.cell? (ae.add (kk * 5)) = some (.string f0) ∧ w'.cell? ⟨(ae.add (kk * 5)).block, (ae.add (kk * 5)).off + 1, none⟩ = some (.int .i64 1) ∧ w'.cell? ⟨(ae.add (kk * 5)).block, (ae.add (kk * 5)).off + 2, none⟩ = some (.string f2) ∧ w'.cell? ⟨(ae.add (kk * 5)).block, (ae.add (kk * 5)).off + 3, none⟩ = some (.int .i64 f3) ∧ w'.cell? ⟨(ae.add (kk * 5)).block, (ae.add (kk * 5)).off + 4, none⟩ = some (.int .i64 f4) ∧ w'.heap[w.heap.size]? = some (.cells #[.int .i64 n0, .int .i64 n1, .int .i64 n2, .int .i64 n3] 2 (0, 0)) ∧ Below w.heap.size w w') (go_keep) ((go_at_call 84; refine (HC.out _ (by assumption) (by assumption)).mono ?_; rintro e w' ⟨rfl, g0, g1, g2, g3, g4, g5, g6, g7⟩))) | fail
          have BK2 := Aside0.mk g6
          have B2 := Aside0.mk g7
          have k0 := (blk_cell BK2.out 1).trans rfl
          have z0 := blk_frozen BK2.out 1
          go_wp2
          go_roundg (l0.length - (kk + 1))
          case measure => omega
          case rel =>
           refine ⟨kk + 1, n0, n1 + 1, n2, n3, by omega, by omega, by go_num, ⟨below_set B2.out (Nat.le_refl _)⟩, ⟨blk_put BK2.out 1 _ rfl⟩, ⟨?_⟩, ⟨fun j hj h1 hjk => ?_⟩⟩
           · obtain ⟨a0, e0, e1, e2, e3⟩ := A.out
             refine ⟨fun j hj hjk => ?_, ?_, ?_, ?_, ?_⟩
             · by_cases e : j = kk
               · subst e; rw [HX.out]; exact HB.out
               · exact a0 j hj (by omega)
             · rw [STEP.out _ rfl 0, ← e0]; simp
             · rw [STEP.out _ rfl 1, ← e1]; simp
             · rw [STEP.out _ rfl 2, ← e2]; simp
             · rw [STEP.out _ rfl 3, ← e3]; simp
           · by_cases e : j = kk
             · subst e
               rw [HX.out, HY.out]; exact LT.out
             · exact RI.out j hj h1 (by omega)
        · have sw : IntKind.i64.wrap (n2 + 1) = n2 + 1 := IntWalk.i64_in _ (by have := LE.out; omega)
          go_wp2_with fail
          first | (go_region_held3 (fun w' => w'.cell? (ae.add ((kk - 1) * 5)) = some (.string y0) ∧ w'.cell? (ae.add (kk * 5)) = some (.string f0) ∧ w'.cell? ⟨(ae.add (kk * 5)).block, (ae.add (kk * 5)).off + 1, none⟩ = some (.int .i64 2) ∧ w'.cell? ⟨(ae.add (kk * 5)).block, (ae.add (kk * 5)).off + 2, none⟩ = some (.string f2) ∧ w'.cell? ⟨(ae.add (kk * 5)).block, (ae.add (kk * 5)).off + 3, none⟩ = some (.int .i64 f3) ∧ w'.cell? ⟨(ae.add (kk * 5)).block, (ae.add (kk * 5)).off + 4, none⟩ = some (.int .i64 f4) ∧ w'.heap[w.heap.size]? = some (.cells #[.int .i64 n0, .int .i64 n1, .int .i64 n2, .int .i64 n3] 2 (0, 0)) ∧ Below w.heap.size w w') (go_keep) ((go_at_call 84; refine (HC.out _ (by assumption) (by assumption)).mono ?_; rintro e w' ⟨rfl, g0, g1, g2, g3, g4, g5, g6, g7⟩))) | fail
          have BK2 := Aside0.mk g6
          have B2 := Aside0.mk g7
          have k0 := (blk_cell BK2.out 2).trans rfl
          have z0 := blk_frozen BK2.out 2
          go_wp2
          go_roundg (l0.length - (kk + 1))
          case measure => omega
          case rel =>
           refine ⟨kk + 1, n0, n1, n2 + 1, n3, by omega, by omega, by go_num, ⟨below_set B2.out (Nat.le_refl _)⟩, ⟨blk_put BK2.out 2 _ rfl⟩, ⟨?_⟩, ⟨fun j hj h1 hjk => ?_⟩⟩
           · obtain ⟨a0, e0, e1, e2, e3⟩ := A.out
             refine ⟨fun j hj hjk => ?_, ?_, ?_, ?_, ?_⟩
             · by_cases e : j = kk
               · subst e; rw [HX.out]; exact HB.out
               · exact a0 j hj (by omega)
             · rw [STEP.out _ rfl 0, ← e0]; simp
             · rw [STEP.out _ rfl 1, ← e1]; simp
             · rw [STEP.out _ rfl 2, ← e2]; simp
             · rw [STEP.out _ rfl 3, ← e3]; simp
           · by_cases e : j = kk
             · subst e
               rw [HX.out, HY.out]; exact LT.out
             · exact RI.out j hj h1 (by omega)
        · have sw : IntKind.i64.wrap (n3 + 1) = n3 + 1 := IntWalk.i64_in _ (by have := LE.out; omega)
          go_wp2_with fail
          first | (go_region_held3 (fun w' => w'.cell? (ae.add ((kk - 1) * 5)) = some (.string y0) ∧ w'.cell? (ae.add (kk * 5)) = some (.string f0) ∧ w'.cell? ⟨(ae.add (kk * 5)).block, (ae.add (kk * 5)).off + 1, none⟩ = some (.int .i64 3) ∧ w'.cell? ⟨(ae.add (kk * 5)).block, (ae.add (kk * 5)).off + 2, none⟩ = some (.string f2) ∧ w'.cell? ⟨(ae.add (kk * 5)).block, (ae.add (kk * 5)).off + 3, none⟩ = some (.int .i64 f3) ∧ w'.cell? ⟨(ae.add (kk * 5)).block, (ae.add (kk * 5)).off + 4, none⟩ = some (.int .i64 f4) ∧ w'.heap[w.heap.size]? = some (.cells #[.int .i64 n0, .int .i64 n1, .int .i64 n2, .int .i64 n3] 2 (0, 0)) ∧ Below w.heap.size w w') (go_keep) ((go_at_call 84; refine (HC.out _ (by assumption) (by assumption)).mono ?_; rintro e w' ⟨rfl, g0, g1, g2, g3, g4, g5, g6, g7⟩))) | fail
          have BK2 := Aside0.mk g6
          have B2 := Aside0.mk g7
          have k0 := (blk_cell BK2.out 3).trans rfl
          have z0 := blk_frozen BK2.out 3
          go_wp2
          go_roundg (l0.length - (kk + 1))
          case measure => omega
          case rel =>
           refine ⟨kk + 1, n0, n1, n2, n3 + 1, by omega, by omega, by go_num, ⟨below_set B2.out (Nat.le_refl _)⟩, ⟨blk_put BK2.out 3 _ rfl⟩, ⟨?_⟩, ⟨fun j hj h1 hjk => ?_⟩⟩
           · obtain ⟨a0, e0, e1, e2, e3⟩ := A.out
             refine ⟨fun j hj hjk => ?_, ?_, ?_, ?_, ?_⟩
             · by_cases e : j = kk
               · subst e; rw [HX.out]; exact HB.out
               · exact a0 j hj (by omega)
             · rw [STEP.out _ rfl 0, ← e0]; simp
             · rw [STEP.out _ rfl 1, ← e1]; simp
             · rw [STEP.out _ rfl 2, ← e2]; simp
             · rw [STEP.out _ rfl 3, ← e3]; simp
           · by_cases e : j = kk
             · subst e
               rw [HX.out, HY.out]; exact LT.out
             · exact RI.out j hj h1 (by omega)
    · clear FALL
      have s6 : decide (0 < kk) = false := by simp; omega
      have s6i : decide ((0 : Int) < (kk : Int)) = false := by simp; omega
      obtain ⟨ae, e_ae, hz0, hz1, hz2, hz3, hz4⟩ := o2
      cases e_ae
      have KEEP : ∀ w', Below w.heap.size w w' → w'.heap[w.heap.size]? = some (.cells #[.int .i64 n0, .int .i64 n1, .int .i64 n2, .int .i64 n3] 2 (0, 0)) → w'.cell? (ae.add (kk * 5)) = some (.string f0) ∧ w'.cell? ⟨(ae.add (kk * 5)).block, (ae.add (kk * 5)).off + 1, none⟩ = some (.int .i64 f1) ∧ w'.cell? ⟨(ae.add (kk * 5)).block, (ae.add (kk * 5)).off + 2, none⟩ = some (.string f2) ∧ w'.cell? ⟨(ae.add (kk * 5)).block, (ae.add (kk * 5)).off + 3, none⟩ = some (.int .i64 f3) ∧ w'.cell? ⟨(ae.add (kk * 5)).block, (ae.add (kk * 5)).off + 4, none⟩ = some (.int .i64 f4) ∧ w'.heap[w.heap.size]? = some (.cells #[.int .i64 n0, .int .i64 n1, .int .i64 n2, .int .i64 n3] 2 (0, 0)) ∧ Below w.heap.size w w' := fun w' hb hk => ⟨(hb.cell (World.block_lt_of_cell? w _ hz0)).trans hz0, (hb.cell (World.block_lt_of_cell? w _ hz1)).trans hz1, (hb.cell (World.block_lt_of_cell? w _ hz2)).trans hz2, (hb.cell (World.block_lt_of_cell? w _ hz3)).trans hz3, (hb.cell (World.block_lt_of_cell? w _ hz4)).trans hz4, hk, hb⟩
      have HC := Aside0.mk (show ∀ W : World, Below w.heap.size w W → W.heap[w.heap.size]? = some (.cells #[.int .i64 n0, .int .i64 n1, .int .i64 n2, .int .i64 n3] 2 (0, 0)) → Calls Tryz.prog 84 #[.agg #[.string f0, .int .i64 f1, .string f2, .int .i64 f3, .int .i64 f4]] W fun e w' => e = .returned (.bool (interestB ⟨f0, f1, f2, f3, f4⟩)) ∧ w'.cell? (ae.add (kk * 5)) = some (.string f0) ∧ w'.cell? ⟨(ae.add (kk * 5)).block, (ae.add (kk * 5)).off + 1, none⟩ = some (.int .i64 f1) ∧ w'.cell? ⟨(ae.add (kk * 5)).block, (ae.add (kk * 5)).off + 2, none⟩ = some (.string f2) ∧ w'.cell? ⟨(ae.add (kk * 5)).block, (ae.add (kk * 5)).off + 3, none⟩ = some (.int .i64 f3) ∧ w'.cell? ⟨(ae.add (kk * 5)).block, (ae.add (kk * 5)).off + 4, none⟩ = some (.int .i64 f4) ∧ w'.heap[w.heap.size]? = some (.cells #[.int .i64 n0, .int .i64 n1, .int .i64 n2, .int .i64 n3] 2 (0, 0)) ∧ Below w.heap.size w w' from fun W hW hk => (IC.out W).mono fun e w' ⟨he, hb⟩ => ⟨he, KEEP w' (below_then hW hW.size hb) (blk_below hk hb)⟩)
      have S0 := Aside0.mk (KEEP _ hbd hbk)
      clear KEEP
      replace hz0 := (BW.out.cell (World.block_lt_of_cell? w _ hz0)).trans hz0
      replace hz1 := (BW.out.cell (World.block_lt_of_cell? w _ hz1)).trans hz1
      replace hz2 := (BW.out.cell (World.block_lt_of_cell? w _ hz2)).trans hz2
      replace hz3 := (BW.out.cell (World.block_lt_of_cell? w _ hz3)).trans hz3
      replace hz4 := (BW.out.cell (World.block_lt_of_cell? w _ hz4)).trans hz4
      cases hb : interestB ⟨f0, f1, f2, f3, f4⟩ with
      | false =>
       have FIN := Aside0.mk (BAD.out hb)
       rw [hb] at HC
       clear hb
       go_wp2_with fail
       refine start_ (n := 24) (S := fun w' => w'.cell? (ae.add (kk * 5)) = some (.string f0) ∧ w'.cell? ⟨(ae.add (kk * 5)).block, (ae.add (kk * 5)).off + 1, none⟩ = some (.int .i64 f1) ∧ w'.cell? ⟨(ae.add (kk * 5)).block, (ae.add (kk * 5)).off + 2, none⟩ = some (.string f2) ∧ w'.cell? ⟨(ae.add (kk * 5)).block, (ae.add (kk * 5)).off + 3, none⟩ = some (.int .i64 f3) ∧ w'.cell? ⟨(ae.add (kk * 5)).block, (ae.add (kk * 5)).off + 4, none⟩ = some (.int .i64 f4) ∧ w'.heap[w.heap.size]? = some (.cells #[.int .i64 n0, .int .i64 n1, .int .i64 n2, .int .i64 n3] 2 (0, 0)) ∧ Below w.heap.size w w') (ds := []) (fb 24 0) (by kernel_rfl) rfl rfl S0.out (fun hHeld => ?_)
       refine with_tabW spec_IsManifest.tab5 spec_IsManifest.bits5 (fun HT_ HW_ => ?_)
       refine sqP_ 0 12 (fb 24 1) (any_of HT_.out (by kernel_rfl)) ?_
       refine sqP_ 1 13 (fb 24 3) (any_of HT_.out (by kernel_rfl)) ?_
       refine sqP_ 2 14 (fb 24 7) (any_of HT_.out (by kernel_rfl)) ?_
       refine sqT_ 3 15 (fb 24 15) (take_ofW HT_.out HW_.out (by kernel_rfl)) hHeld ?_
       refine one_ (i := 4) (N := some 16) (fb 24 31) rfl rfl (one_of HT_.out (by kernel_rfl)) (by decide) (fun K hK => ?_)
       refine goes_ Tryz.func84 (by kernel_rfl) rfl #[.agg #[.string f0, .int .i64 f1, .string f2, .int .i64 f3, .int .i64 f4]] (by rfl) rfl rfl (by (try simp only [List.map_toArray, List.map_cons, List.map_nil]); first | done | rfl) ?_
       refine (HC.out _ hbd hbk).mono ?_
       rintro e w18 ⟨rfl, g0, g1, g2, g3, g4, g5, g6⟩
       refine ⟨_, rfl, ?_⟩
       refine hK.out _ _ ⟨g0, g1, g2, g3, g4, g5, g6⟩ (fun hHeld => ?_)
       clear hK K
       refine sqN_ 16 ?_
       refine sqP_ 5 17 (fb 24 63) (any_of HT_.out (by kernel_rfl)) ?_
       refine sqP_ 6 18 (fb 24 127) (any_of HT_.out (by kernel_rfl)) ?_
       refine sqO_ 7 19 (fb 24 255) (any_of HT_.out (by kernel_rfl)) ?_
       refine sqO_ 8 20 (fb 24 511) (any_of HT_.out (by kernel_rfl)) ?_
       refine sqO_ 9 21 (fb 24 1023) (any_of HT_.out (by kernel_rfl)) ?_
       refine sqO_ 10 22 (fb 24 2047) (any_of HT_.out (by kernel_rfl)) ?_
       refine sqO_ 11 23 (fb 24 4095) (any_of HT_.out (by kernel_rfl)) ?_
       refine sqO_ 12 24 (fb 24 8191) (any_of HT_.out (by kernel_rfl)) ?_
       refine sqO_ 13 25 (fb 24 16383) (any_of HT_.out (by kernel_rfl)) ?_
       refine sqO_ 14 26 (fb 24 32767) (any_of HT_.out (by kernel_rfl)) ?_
       refine sqO_ 15 27 (fb 24 65535) (any_of HT_.out (by kernel_rfl)) ?_
       refine sqO_ 16 28 (fb 24 131071) (any_of HT_.out (by kernel_rfl)) ?_
       refine sqO_ 17 29 (fb 24 262143) (any_of HT_.out (by kernel_rfl)) ?_
       refine sqO_ 18 30 (fb 24 524287) (any_of HT_.out (by kernel_rfl)) ?_
       refine sqO_ 19 31 (fb 24 1048575) (any_of HT_.out (by kernel_rfl)) ?_
       refine sqO_ 20 32 (fb 24 2097151) (any_of HT_.out (by kernel_rfl)) ?_
       refine sqO_ 21 33 (fb 24 4194303) (any_of HT_.out (by kernel_rfl)) ?_
       refine sqO_ 22 34 (fb 24 8388607) (any_of HT_.out (by kernel_rfl)) ?_
       refine sqP_ 23 35 (fb 24 16777215) (any_of HT_.out (by kernel_rfl)) ?_
       refine done_ (done_of HT_.out (by kernel_rfl)) ?_
       go_wp2
       go_ret
       exact ⟨by rw [FIN.out]; rfl, by assumption⟩
      | true =>
       have HB := Aside0.mk hb
       rw [hb] at HC
       clear hb
       have hf : f1 = 0 ∨ f1 = 1 ∨ f1 = 2 ∨ f1 = 3 := by
        have := HB.out
        unfold interestB at this
        simp only [Bool.and_eq_true, decide_eq_true_eq] at this
        omega
       rcases hf with rfl | rfl | rfl | rfl
       · have sw : IntKind.i64.wrap (n0 + 1) = n0 + 1 := IntWalk.i64_in _ (by have := LE.out; omega)
         go_wp2_with fail
         refine start_ (n := 24) (S := fun w' => w'.cell? (ae.add (kk * 5)) = some (.string f0) ∧ w'.cell? ⟨(ae.add (kk * 5)).block, (ae.add (kk * 5)).off + 1, none⟩ = some (.int .i64 0) ∧ w'.cell? ⟨(ae.add (kk * 5)).block, (ae.add (kk * 5)).off + 2, none⟩ = some (.string f2) ∧ w'.cell? ⟨(ae.add (kk * 5)).block, (ae.add (kk * 5)).off + 3, none⟩ = some (.int .i64 f3) ∧ w'.cell? ⟨(ae.add (kk * 5)).block, (ae.add (kk * 5)).off + 4, none⟩ = some (.int .i64 f4) ∧ w'.heap[w.heap.size]? = some (.cells #[.int .i64 n0, .int .i64 n1, .int .i64 n2, .int .i64 n3] 2 (0, 0)) ∧ Below w.heap.size w w') (ds := []) (fb 24 0) (by kernel_rfl) rfl rfl S0.out (fun hHeld => ?_)
         refine with_tabW spec_IsManifest.tab5 spec_IsManifest.bits5 (fun HT_ HW_ => ?_)
         refine sqP_ 0 12 (fb 24 1) (any_of HT_.out (by kernel_rfl)) ?_
         refine sqP_ 1 13 (fb 24 3) (any_of HT_.out (by kernel_rfl)) ?_
         refine sqP_ 2 14 (fb 24 7) (any_of HT_.out (by kernel_rfl)) ?_
         refine sqT_ 3 15 (fb 24 15) (take_ofW HT_.out HW_.out (by kernel_rfl)) hHeld ?_
         refine one_ (i := 4) (N := some 16) (fb 24 31) rfl rfl (one_of HT_.out (by kernel_rfl)) (by decide) (fun K hK => ?_)
         refine goes_ Tryz.func84 (by kernel_rfl) rfl #[.agg #[.string f0, .int .i64 0, .string f2, .int .i64 f3, .int .i64 f4]] (by rfl) rfl rfl (by (try simp only [List.map_toArray, List.map_cons, List.map_nil]); first | done | rfl) ?_
         refine (HC.out _ hbd hbk).mono ?_
         rintro e w18 ⟨rfl, g0, g1, g2, g3, g4, g5, g6⟩
         refine ⟨_, rfl, ?_⟩
         refine hK.out _ _ ⟨g0, g1, g2, g3, g4, g5, g6⟩ (fun hHeld => ?_)
         clear hK K
         refine sqN_ 16 ?_
         refine sqP_ 5 17 (fb 24 63) (any_of HT_.out (by kernel_rfl)) ?_
         refine sqP_ 6 18 (fb 24 127) (any_of HT_.out (by kernel_rfl)) ?_
         refine sqP_ 7 19 (fb 24 255) (any_of HT_.out (by kernel_rfl)) ?_
         refine sqP_ 8 20 (fb 24 511) (any_of HT_.out (by kernel_rfl)) ?_
         refine sqP_ 9 21 (fb 24 1023) (any_of HT_.out (by kernel_rfl)) ?_
         refine sqO_ 10 22 (fb 24 2047) (any_of HT_.out (by kernel_rfl)) ?_
         refine sqO_ 11 23 (fb 24 4095) (any_of HT_.out (by kernel_rfl)) ?_
         refine sqO_ 12 24 (fb 24 8191) (any_of HT_.out (by kernel_rfl)) ?_
         refine sqO_ 13 25 (fb 24 16383) (any_of HT_.out (by kernel_rfl)) ?_
         refine sqO_ 14 26 (fb 24 32767) (any_of HT_.out (by kernel_rfl)) ?_
         refine sqO_ 15 27 (fb 24 65535) (any_of HT_.out (by kernel_rfl)) ?_
         refine sqO_ 16 28 (fb 24 131071) (any_of HT_.out (by kernel_rfl)) ?_
         refine sqO_ 17 29 (fb 24 262143) (any_of HT_.out (by kernel_rfl)) ?_
         refine sqO_ 18 30 (fb 24 524287) (any_of HT_.out (by kernel_rfl)) ?_
         refine sqO_ 19 31 (fb 24 1048575) (any_of HT_.out (by kernel_rfl)) ?_
         refine sqO_ 20 32 (fb 24 2097151) (any_of HT_.out (by kernel_rfl)) ?_
         refine sqO_ 21 33 (fb 24 4194303) (any_of HT_.out (by kernel_rfl)) ?_
         refine sqP_ 22 34 (fb 24 8388607) (any_of HT_.out (by kernel_rfl)) ?_
         refine sqP_ 23 35 (fb 24 16777215) (any_of HT_.out (by kernel_rfl)) ?_
         refine done_ (done_of HT_.out (by kernel_rfl)) ?_
         have BK2 := Aside0.mk g5
         have B2 := Aside0.mk g6
         have k0 := (blk_cell BK2.out 0).trans rfl
         have z0 := blk_frozen BK2.out 0
         go_wp2
         go_roundg (l0.length - (kk + 1))
         case measure => omega
         case rel =>
          refine ⟨kk + 1, n0 + 1, n1, n2, n3, by omega, by omega, by go_num, ⟨below_set B2.out (Nat.le_refl _)⟩, ⟨blk_put BK2.out 0 _ rfl⟩, ⟨?_⟩, ⟨fun j hj h1 hjk => ?_⟩⟩
          · obtain ⟨a0, e0, e1, e2, e3⟩ := A.out
            refine ⟨fun j hj hjk => ?_, ?_, ?_, ?_, ?_⟩
            · by_cases e : j = kk
              · subst e; rw [HX.out]; exact HB.out
              · exact a0 j hj (by omega)
            · rw [STEP.out _ rfl 0, ← e0]; simp
            · rw [STEP.out _ rfl 1, ← e1]; simp
            · rw [STEP.out _ rfl 2, ← e2]; simp
            · rw [STEP.out _ rfl 3, ← e3]; simp
          · by_cases e : j = kk
            · subst e
              omega
            · exact RI.out j hj h1 (by omega)
       · have sw : IntKind.i64.wrap (n1 + 1) = n1 + 1 := IntWalk.i64_in _ (by have := LE.out; omega)
         go_wp2_with fail
         refine start_ (n := 24) (S := fun w' => w'.cell? (ae.add (kk * 5)) = some (.string f0) ∧ w'.cell? ⟨(ae.add (kk * 5)).block, (ae.add (kk * 5)).off + 1, none⟩ = some (.int .i64 1) ∧ w'.cell? ⟨(ae.add (kk * 5)).block, (ae.add (kk * 5)).off + 2, none⟩ = some (.string f2) ∧ w'.cell? ⟨(ae.add (kk * 5)).block, (ae.add (kk * 5)).off + 3, none⟩ = some (.int .i64 f3) ∧ w'.cell? ⟨(ae.add (kk * 5)).block, (ae.add (kk * 5)).off + 4, none⟩ = some (.int .i64 f4) ∧ w'.heap[w.heap.size]? = some (.cells #[.int .i64 n0, .int .i64 n1, .int .i64 n2, .int .i64 n3] 2 (0, 0)) ∧ Below w.heap.size w w') (ds := []) (fb 24 0) (by kernel_rfl) rfl rfl S0.out (fun hHeld => ?_)
         refine with_tabW spec_IsManifest.tab5 spec_IsManifest.bits5 (fun HT_ HW_ => ?_)
         refine sqP_ 0 12 (fb 24 1) (any_of HT_.out (by kernel_rfl)) ?_
         refine sqP_ 1 13 (fb 24 3) (any_of HT_.out (by kernel_rfl)) ?_
         refine sqP_ 2 14 (fb 24 7) (any_of HT_.out (by kernel_rfl)) ?_
         refine sqT_ 3 15 (fb 24 15) (take_ofW HT_.out HW_.out (by kernel_rfl)) hHeld ?_
         refine one_ (i := 4) (N := some 16) (fb 24 31) rfl rfl (one_of HT_.out (by kernel_rfl)) (by decide) (fun K hK => ?_)
         refine goes_ Tryz.func84 (by kernel_rfl) rfl #[.agg #[.string f0, .int .i64 1, .string f2, .int .i64 f3, .int .i64 f4]] (by rfl) rfl rfl (by (try simp only [List.map_toArray, List.map_cons, List.map_nil]); first | done | rfl) ?_
         refine (HC.out _ hbd hbk).mono ?_
         rintro e w18 ⟨rfl, g0, g1, g2, g3, g4, g5, g6⟩
         refine ⟨_, rfl, ?_⟩
         refine hK.out _ _ ⟨g0, g1, g2, g3, g4, g5, g6⟩ (fun hHeld => ?_)
         clear hK K
         refine sqN_ 16 ?_
         refine sqP_ 5 17 (fb 24 63) (any_of HT_.out (by kernel_rfl)) ?_
         refine sqP_ 6 18 (fb 24 127) (any_of HT_.out (by kernel_rfl)) ?_
         refine sqP_ 7 19 (fb 24 255) (any_of HT_.out (by kernel_rfl)) ?_
         refine sqP_ 8 20 (fb 24 511) (any_of HT_.out (by kernel_rfl)) ?_
         refine sqP_ 9 21 (fb 24 1023) (any_of HT_.out (by kernel_rfl)) ?_
         refine sqO_ 10 22 (fb 24 2047) (any_of HT_.out (by kernel_rfl)) ?_
         refine sqO_ 11 23 (fb 24 4095) (any_of HT_.out (by kernel_rfl)) ?_
         refine sqO_ 12 24 (fb 24 8191) (any_of HT_.out (by kernel_rfl)) ?_
         refine sqO_ 13 25 (fb 24 16383) (any_of HT_.out (by kernel_rfl)) ?_
         refine sqO_ 14 26 (fb 24 32767) (any_of HT_.out (by kernel_rfl)) ?_
         refine sqO_ 15 27 (fb 24 65535) (any_of HT_.out (by kernel_rfl)) ?_
         refine sqO_ 16 28 (fb 24 131071) (any_of HT_.out (by kernel_rfl)) ?_
         refine sqO_ 17 29 (fb 24 262143) (any_of HT_.out (by kernel_rfl)) ?_
         refine sqO_ 18 30 (fb 24 524287) (any_of HT_.out (by kernel_rfl)) ?_
         refine sqO_ 19 31 (fb 24 1048575) (any_of HT_.out (by kernel_rfl)) ?_
         refine sqO_ 20 32 (fb 24 2097151) (any_of HT_.out (by kernel_rfl)) ?_
         refine sqO_ 21 33 (fb 24 4194303) (any_of HT_.out (by kernel_rfl)) ?_
         refine sqP_ 22 34 (fb 24 8388607) (any_of HT_.out (by kernel_rfl)) ?_
         refine sqP_ 23 35 (fb 24 16777215) (any_of HT_.out (by kernel_rfl)) ?_
         refine done_ (done_of HT_.out (by kernel_rfl)) ?_
         have BK2 := Aside0.mk g5
         have B2 := Aside0.mk g6
         have k0 := (blk_cell BK2.out 1).trans rfl
         have z0 := blk_frozen BK2.out 1
         go_wp2
         go_roundg (l0.length - (kk + 1))
         case measure => omega
         case rel =>
          refine ⟨kk + 1, n0, n1 + 1, n2, n3, by omega, by omega, by go_num, ⟨below_set B2.out (Nat.le_refl _)⟩, ⟨blk_put BK2.out 1 _ rfl⟩, ⟨?_⟩, ⟨fun j hj h1 hjk => ?_⟩⟩
          · obtain ⟨a0, e0, e1, e2, e3⟩ := A.out
            refine ⟨fun j hj hjk => ?_, ?_, ?_, ?_, ?_⟩
            · by_cases e : j = kk
              · subst e; rw [HX.out]; exact HB.out
              · exact a0 j hj (by omega)
            · rw [STEP.out _ rfl 0, ← e0]; simp
            · rw [STEP.out _ rfl 1, ← e1]; simp
            · rw [STEP.out _ rfl 2, ← e2]; simp
            · rw [STEP.out _ rfl 3, ← e3]; simp
          · by_cases e : j = kk
            · subst e
              omega
            · exact RI.out j hj h1 (by omega)
       · have sw : IntKind.i64.wrap (n2 + 1) = n2 + 1 := IntWalk.i64_in _ (by have := LE.out; omega)
         go_wp2_with fail
         refine start_ (n := 24) (S := fun w' => w'.cell? (ae.add (kk * 5)) = some (.string f0) ∧ w'.cell? ⟨(ae.add (kk * 5)).block, (ae.add (kk * 5)).off + 1, none⟩ = some (.int .i64 2) ∧ w'.cell? ⟨(ae.add (kk * 5)).block, (ae.add (kk * 5)).off + 2, none⟩ = some (.string f2) ∧ w'.cell? ⟨(ae.add (kk * 5)).block, (ae.add (kk * 5)).off + 3, none⟩ = some (.int .i64 f3) ∧ w'.cell? ⟨(ae.add (kk * 5)).block, (ae.add (kk * 5)).off + 4, none⟩ = some (.int .i64 f4) ∧ w'.heap[w.heap.size]? = some (.cells #[.int .i64 n0, .int .i64 n1, .int .i64 n2, .int .i64 n3] 2 (0, 0)) ∧ Below w.heap.size w w') (ds := []) (fb 24 0) (by kernel_rfl) rfl rfl S0.out (fun hHeld => ?_)
         refine with_tabW spec_IsManifest.tab5 spec_IsManifest.bits5 (fun HT_ HW_ => ?_)
         refine sqP_ 0 12 (fb 24 1) (any_of HT_.out (by kernel_rfl)) ?_
         refine sqP_ 1 13 (fb 24 3) (any_of HT_.out (by kernel_rfl)) ?_
         refine sqP_ 2 14 (fb 24 7) (any_of HT_.out (by kernel_rfl)) ?_
         refine sqT_ 3 15 (fb 24 15) (take_ofW HT_.out HW_.out (by kernel_rfl)) hHeld ?_
         refine one_ (i := 4) (N := some 16) (fb 24 31) rfl rfl (one_of HT_.out (by kernel_rfl)) (by decide) (fun K hK => ?_)
         refine goes_ Tryz.func84 (by kernel_rfl) rfl #[.agg #[.string f0, .int .i64 2, .string f2, .int .i64 f3, .int .i64 f4]] (by rfl) rfl rfl (by (try simp only [List.map_toArray, List.map_cons, List.map_nil]); first | done | rfl) ?_
         refine (HC.out _ hbd hbk).mono ?_
         rintro e w18 ⟨rfl, g0, g1, g2, g3, g4, g5, g6⟩
         refine ⟨_, rfl, ?_⟩
         refine hK.out _ _ ⟨g0, g1, g2, g3, g4, g5, g6⟩ (fun hHeld => ?_)
         clear hK K
         refine sqN_ 16 ?_
         refine sqP_ 5 17 (fb 24 63) (any_of HT_.out (by kernel_rfl)) ?_
         refine sqP_ 6 18 (fb 24 127) (any_of HT_.out (by kernel_rfl)) ?_
         refine sqP_ 7 19 (fb 24 255) (any_of HT_.out (by kernel_rfl)) ?_
         refine sqP_ 8 20 (fb 24 511) (any_of HT_.out (by kernel_rfl)) ?_
         refine sqP_ 9 21 (fb 24 1023) (any_of HT_.out (by kernel_rfl)) ?_
         refine sqO_ 10 22 (fb 24 2047) (any_of HT_.out (by kernel_rfl)) ?_
         refine sqO_ 11 23 (fb 24 4095) (any_of HT_.out (by kernel_rfl)) ?_
         refine sqO_ 12 24 (fb 24 8191) (any_of HT_.out (by kernel_rfl)) ?_
         refine sqO_ 13 25 (fb 24 16383) (any_of HT_.out (by kernel_rfl)) ?_
         refine sqO_ 14 26 (fb 24 32767) (any_of HT_.out (by kernel_rfl)) ?_
         refine sqO_ 15 27 (fb 24 65535) (any_of HT_.out (by kernel_rfl)) ?_
         refine sqO_ 16 28 (fb 24 131071) (any_of HT_.out (by kernel_rfl)) ?_
         refine sqO_ 17 29 (fb 24 262143) (any_of HT_.out (by kernel_rfl)) ?_
         refine sqO_ 18 30 (fb 24 524287) (any_of HT_.out (by kernel_rfl)) ?_
         refine sqO_ 19 31 (fb 24 1048575) (any_of HT_.out (by kernel_rfl)) ?_
         refine sqO_ 20 32 (fb 24 2097151) (any_of HT_.out (by kernel_rfl)) ?_
         refine sqO_ 21 33 (fb 24 4194303) (any_of HT_.out (by kernel_rfl)) ?_
         refine sqP_ 22 34 (fb 24 8388607) (any_of HT_.out (by kernel_rfl)) ?_
         refine sqP_ 23 35 (fb 24 16777215) (any_of HT_.out (by kernel_rfl)) ?_
         refine done_ (done_of HT_.out (by kernel_rfl)) ?_
         have BK2 := Aside0.mk g5
         have B2 := Aside0.mk g6
         have k0 := (blk_cell BK2.out 2).trans rfl
         have z0 := blk_frozen BK2.out 2
         go_wp2
         go_roundg (l0.length - (kk + 1))
         case measure => omega
         case rel =>
          refine ⟨kk + 1, n0, n1, n2 + 1, n3, by omega, by omega, by go_num, ⟨below_set B2.out (Nat.le_refl _)⟩, ⟨blk_put BK2.out 2 _ rfl⟩, ⟨?_⟩, ⟨fun j hj h1 hjk => ?_⟩⟩
          · obtain ⟨a0, e0, e1, e2, e3⟩ := A.out
            refine ⟨fun j hj hjk => ?_, ?_, ?_, ?_, ?_⟩
            · by_cases e : j = kk
              · subst e; rw [HX.out]; exact HB.out
              · exact a0 j hj (by omega)
            · rw [STEP.out _ rfl 0, ← e0]; simp
            · rw [STEP.out _ rfl 1, ← e1]; simp
            · rw [STEP.out _ rfl 2, ← e2]; simp
            · rw [STEP.out _ rfl 3, ← e3]; simp
          · by_cases e : j = kk
            · subst e
              omega
            · exact RI.out j hj h1 (by omega)
       · have sw : IntKind.i64.wrap (n3 + 1) = n3 + 1 := IntWalk.i64_in _ (by have := LE.out; omega)
         go_wp2_with fail
         refine start_ (n := 24) (S := fun w' => w'.cell? (ae.add (kk * 5)) = some (.string f0) ∧ w'.cell? ⟨(ae.add (kk * 5)).block, (ae.add (kk * 5)).off + 1, none⟩ = some (.int .i64 3) ∧ w'.cell? ⟨(ae.add (kk * 5)).block, (ae.add (kk * 5)).off + 2, none⟩ = some (.string f2) ∧ w'.cell? ⟨(ae.add (kk * 5)).block, (ae.add (kk * 5)).off + 3, none⟩ = some (.int .i64 f3) ∧ w'.cell? ⟨(ae.add (kk * 5)).block, (ae.add (kk * 5)).off + 4, none⟩ = some (.int .i64 f4) ∧ w'.heap[w.heap.size]? = some (.cells #[.int .i64 n0, .int .i64 n1, .int .i64 n2, .int .i64 n3] 2 (0, 0)) ∧ Below w.heap.size w w') (ds := []) (fb 24 0) (by kernel_rfl) rfl rfl S0.out (fun hHeld => ?_)
         refine with_tabW spec_IsManifest.tab5 spec_IsManifest.bits5 (fun HT_ HW_ => ?_)
         refine sqP_ 0 12 (fb 24 1) (any_of HT_.out (by kernel_rfl)) ?_
         refine sqP_ 1 13 (fb 24 3) (any_of HT_.out (by kernel_rfl)) ?_
         refine sqP_ 2 14 (fb 24 7) (any_of HT_.out (by kernel_rfl)) ?_
         refine sqT_ 3 15 (fb 24 15) (take_ofW HT_.out HW_.out (by kernel_rfl)) hHeld ?_
         refine one_ (i := 4) (N := some 16) (fb 24 31) rfl rfl (one_of HT_.out (by kernel_rfl)) (by decide) (fun K hK => ?_)
         refine goes_ Tryz.func84 (by kernel_rfl) rfl #[.agg #[.string f0, .int .i64 3, .string f2, .int .i64 f3, .int .i64 f4]] (by rfl) rfl rfl (by (try simp only [List.map_toArray, List.map_cons, List.map_nil]); first | done | rfl) ?_
         refine (HC.out _ hbd hbk).mono ?_
         rintro e w18 ⟨rfl, g0, g1, g2, g3, g4, g5, g6⟩
         refine ⟨_, rfl, ?_⟩
         refine hK.out _ _ ⟨g0, g1, g2, g3, g4, g5, g6⟩ (fun hHeld => ?_)
         clear hK K
         refine sqN_ 16 ?_
         refine sqP_ 5 17 (fb 24 63) (any_of HT_.out (by kernel_rfl)) ?_
         refine sqP_ 6 18 (fb 24 127) (any_of HT_.out (by kernel_rfl)) ?_
         refine sqP_ 7 19 (fb 24 255) (any_of HT_.out (by kernel_rfl)) ?_
         refine sqP_ 8 20 (fb 24 511) (any_of HT_.out (by kernel_rfl)) ?_
         refine sqP_ 9 21 (fb 24 1023) (any_of HT_.out (by kernel_rfl)) ?_
         refine sqO_ 10 22 (fb 24 2047) (any_of HT_.out (by kernel_rfl)) ?_
         refine sqO_ 11 23 (fb 24 4095) (any_of HT_.out (by kernel_rfl)) ?_
         refine sqO_ 12 24 (fb 24 8191) (any_of HT_.out (by kernel_rfl)) ?_
         refine sqO_ 13 25 (fb 24 16383) (any_of HT_.out (by kernel_rfl)) ?_
         refine sqO_ 14 26 (fb 24 32767) (any_of HT_.out (by kernel_rfl)) ?_
         refine sqO_ 15 27 (fb 24 65535) (any_of HT_.out (by kernel_rfl)) ?_
         refine sqO_ 16 28 (fb 24 131071) (any_of HT_.out (by kernel_rfl)) ?_
         refine sqO_ 17 29 (fb 24 262143) (any_of HT_.out (by kernel_rfl)) ?_
         refine sqO_ 18 30 (fb 24 524287) (any_of HT_.out (by kernel_rfl)) ?_
         refine sqO_ 19 31 (fb 24 1048575) (any_of HT_.out (by kernel_rfl)) ?_
         refine sqO_ 20 32 (fb 24 2097151) (any_of HT_.out (by kernel_rfl)) ?_
         refine sqO_ 21 33 (fb 24 4194303) (any_of HT_.out (by kernel_rfl)) ?_
         refine sqP_ 22 34 (fb 24 8388607) (any_of HT_.out (by kernel_rfl)) ?_
         refine sqP_ 23 35 (fb 24 16777215) (any_of HT_.out (by kernel_rfl)) ?_
         refine done_ (done_of HT_.out (by kernel_rfl)) ?_
         have BK2 := Aside0.mk g5
         have B2 := Aside0.mk g6
         have k0 := (blk_cell BK2.out 3).trans rfl
         have z0 := blk_frozen BK2.out 3
         go_wp2
         go_roundg (l0.length - (kk + 1))
         case measure => omega
         case rel =>
          refine ⟨kk + 1, n0, n1, n2, n3 + 1, by omega, by omega, by go_num, ⟨below_set B2.out (Nat.le_refl _)⟩, ⟨blk_put BK2.out 3 _ rfl⟩, ⟨?_⟩, ⟨fun j hj h1 hjk => ?_⟩⟩
          · obtain ⟨a0, e0, e1, e2, e3⟩ := A.out
            refine ⟨fun j hj hjk => ?_, ?_, ?_, ?_, ?_⟩
            · by_cases e : j = kk
              · subst e; rw [HX.out]; exact HB.out
              · exact a0 j hj (by omega)
            · rw [STEP.out _ rfl 0, ← e0]; simp
            · rw [STEP.out _ rfl 1, ← e1]; simp
            · rw [STEP.out _ rfl 2, ← e2]; simp
            · rw [STEP.out _ rfl 3, ← e3]; simp
          · by_cases e : j = kk
            · subst e
              omega
            · exact RI.out j hj h1 (by omega)
  · have hltz : ¬ (kk : Int) < (l0.length : Int) := by omega
    have FIN := Aside0.mk (show manifestB l0 = (decide (n0 = 1 ∧ n1 ≤ 1 ∧ n2 ≤ 1) && decide (l0.length ≤ 10)) by
     obtain ⟨a0, e0, e1, e2, e3⟩ := A.out
     rw [List.take_of_length_le (by omega)] at e0 e1 e2
     unfold manifestB
     rw [risingB_yes cmpIn l0 (fun j hj h1 => RI.out j hj h1 (by omega)), ← e0, ← e1, ← e2, Bool.and_true]
     have : l0.all interestB = true := by
      rw [List.all_eq_true]
      intro x hx
      obtain ⟨j, hj, rfl⟩ := List.mem_iff_getElem.1 hx
      exact a0 j hj (by omega)
     rw [this]
     rfl)
    have k0 := (blk_cell BK.out 0).trans rfl
    have k1 := (blk_cell BK.out 1).trans rfl
    have k2 := (blk_cell BK.out 2).trans rfl
    clear A RI HI HR0 hg hkk hlt
    by_cases c3_ : (l0.length : Int) ≤ 10
    · rw [decide_eq_true (show l0.length ≤ 10 by omega), Bool.and_true] at FIN
      by_cases c0_ : n0 = 1
      · have T0 : (n0 == 1) = true := by simpa using c0_
        by_cases c1_ : n1 ≤ 1
        · by_cases c2_ : n2 ≤ 1
          · rw [decide_eq_true ⟨c0_, c1_, c2_⟩] at FIN
            clear c0_
            go_wp2
            go_ret
            exact ⟨by rw [FIN.out]; rfl, BW.out⟩
          · rw [decide_eq_false (show ¬ (n0 = 1 ∧ n1 ≤ 1 ∧ n2 ≤ 1) by omega)] at FIN
            clear c0_
            go_wp2
            go_ret
            exact ⟨by rw [FIN.out]; rfl, BW.out⟩
        · rw [decide_eq_false (show ¬ (n0 = 1 ∧ n1 ≤ 1 ∧ n2 ≤ 1) by omega)] at FIN
          clear c0_
          go_wp2
          go_ret
          exact ⟨by rw [FIN.out]; rfl, BW.out⟩
      · have T0 : (n0 == 1) = false := by simpa using c0_
        rw [decide_eq_false (show ¬ (n0 = 1 ∧ n1 ≤ 1 ∧ n2 ≤ 1) by omega)] at FIN
        clear c0_
        go_wp2
        go_ret
        exact ⟨by rw [FIN.out]; rfl, BW.out⟩
    · rw [decide_eq_false (show ¬ l0.length ≤ 10 by omega), Bool.and_false] at FIN
      go_wp2
      go_ret
      exact ⟨by rw [FIN.out]; rfl, BW.out⟩

end Go.Proofs.YtmfbkbbgokjhnaaGreat.F
namespace Go.Proofs.YtmfbkbbgokjhnaaGreat.F
open Go.RowKit Go.Proofs.YtmfbkbbgokjhnaaGreatW.PrintWords Go.Proofs.YtmfbkbbgokjhnaaGreatW.PrintLast Go.Proofs.YtmfbkbbgokjhnaaGreatW.PrintMore
attribute [local go_sem] max2_int min2_int max_two min_two max_three min_three max_four min_four   -- for this text's walks alone
set_option linter.unusedVariables false
set_option linter.unusedSimpArgs false

/-! ### spec_l02Is: function 41 -/
def spec_l02Is.f (a0 : Int) : Option (Bool) := (spec_l01In.f a0 0 36524).bind fun t124 => (some t124)
set_option maxHeartbeats 8000000 in
set_option maxRecDepth 100000 in
theorem spec_l02Is.calls (a0 : Int) (r : Bool) (w : World) (h : spec_l02Is.f a0 = some r) :
 Calls Tryz.prog 41 #[.int .i64 a0] w fun e w' => e = .returned (.bool r) ∧ Drawn0 w w' := by
 have H : ((spec_l01In.f a0 0 36524).bind fun t124 => (some t124)) = some r := h
 clear h
 replace H := Option.bind_eq_some_iff.mp H
 obtain ⟨t124, A20, H⟩ := H
 replace H : (some t124) = some r := H
 have A2 := Aside0.mk A20
 clear A20
 obtain rfl := Option.some.inj H
 go_enter Tryz.func41, Tryz.ntmps41
 go_wp2_with (first | ((with_reducible refine gate_callee (f := 86) rfl ?_); refine goesL_ (some 4) rfl rfl Tryz.func86 (by kernel_rfl) rfl #[.int .i64 a0, .int .i64 0, .int .i64 36524] rfl (by (try simp only [List.map_toArray, List.map_cons, List.map_nil]); first | done | rfl | (simp only [List.length_drop, List.length_take]; rfl)) ?_; (with_reducible refine (spec_l01In.calls a0 0 36524 t124 _ A2.out).mono ?_); rintro e w' ⟨rfl, ⟨nd, rfl⟩⟩; refine ⟨_, rfl, ?_⟩))
 go_ret
 exact ⟨by first | rfl | (simp; done) | (simp [*]; done), by repeat (first | exact Drawn0.refl _ | apply Drawn0.step)⟩

/-! ### spec_IsEvent: function 85 -/
def spec_IsEvent.f (k : Nat) (a0_0 : Int) (a0_1 : Int) (a0_2 : ByteArray) (a0_3 : Int) (a0_4 : Bool) (a0_5 : Bool) (a0_6 : Bool) : Option (Bool) := (spec_l02Is.f a0_0).bind fun t126 => (if t126 = true then ((spec_l01In.f a0_1 0 6).bind fun t127 => (if t127 = true then ((spec_IsPartyCode.f k a0_2).bind fun t128 => (if t128 = true then ((spec_IsAmount.f a0_3).bind fun t129 => (some t129)) else (some false))) else (some false))) else (some false))
theorem spec_IsEvent.mono : ∀ a0 a1 a2 a3 a4 a5 a6 k, LeO (spec_IsEvent.f k a0 a1 a2 a3 a4 a5 a6) (spec_IsEvent.f (k + 1) a0 a1 a2 a3 a4 a5 a6) := by
 intro a0 a1 a2 a3 a4 a5 a6 k
 unfold spec_IsEvent.f
 repeat' first
  | (with_reducible exact spec_IsPartyCode.mono _ _)
  | (with_reducible exact LeO.refl _)
  | (with_reducible exact LeO.none _)
  | (with_reducible refine LeO.ite ?_ ?_)
  | (with_reducible refine LeO.bind ?_ (fun _ => ?_))
  | exact spec_IsPartyCode.mono _ _
  | exact LeO.none _
  | refine LeO.ite ?_ ?_
  | refine LeO.bind ?_ (fun _ => ?_)
set_option maxHeartbeats 8000000 in
set_option maxRecDepth 100000 in
theorem spec_IsEvent.calls (k : Nat) (a0_0 : Int) (a0_1 : Int) (a0_2 : ByteArray) (a0_3 : Int) (a0_4 : Bool) (a0_5 : Bool) (a0_6 : Bool) (r : Bool) (w : World) (h : spec_IsEvent.f k a0_0 a0_1 a0_2 a0_3 a0_4 a0_5 a0_6 = some r) :
 Calls Tryz.prog 85 #[.agg #[.int .i64 a0_0, .int .i64 a0_1, .string a0_2, .int .i64 a0_3, .bool a0_4, .bool a0_5, .bool a0_6]] w fun e w' => e = .returned (.bool r) ∧ Below w.heap.size w w' := by
 have hu65 := Tryz.underlying65
 have HB := Aside0.mk (Below.refl w.heap.size w)
 have H : ((spec_l02Is.f a0_0).bind fun t126 => (if t126 = true then ((spec_l01In.f a0_1 0 6).bind fun t127 => (if t127 = true then ((spec_IsPartyCode.f k a0_2).bind fun t128 => (if t128 = true then ((spec_IsAmount.f a0_3).bind fun t129 => (some t129)) else (some false))) else (some false))) else (some false))) = some r := h
 clear h
 replace H := Option.bind_eq_some_iff.mp H
 obtain ⟨t126, A20, H⟩ := H
 replace H : (if t126 = true then ((spec_l01In.f a0_1 0 6).bind fun t127 => (if t127 = true then ((spec_IsPartyCode.f k a0_2).bind fun t128 => (if t128 = true then ((spec_IsAmount.f a0_3).bind fun t129 => (some t129)) else (some false))) else (some false))) else (some false)) = some r := H
 have A2 := Aside0.mk A20
 clear A20
 by_cases c3 : t126 = true
 subst c3
 have H1 : ((spec_l01In.f a0_1 0 6).bind fun t127 => (if t127 = true then ((spec_IsPartyCode.f k a0_2).bind fun t128 => (if t128 = true then ((spec_IsAmount.f a0_3).bind fun t129 => (some t129)) else (some false))) else (some false))) = some r := by rw [if_pos rfl] at H; exact H
 clear H
 have H := H1
 clear H1
 replace H := Option.bind_eq_some_iff.mp H
 obtain ⟨t127, A40, H⟩ := H
 replace H : (if t127 = true then ((spec_IsPartyCode.f k a0_2).bind fun t128 => (if t128 = true then ((spec_IsAmount.f a0_3).bind fun t129 => (some t129)) else (some false))) else (some false)) = some r := H
 have A4 := Aside0.mk A40
 clear A40
 by_cases c5 : t127 = true
 subst c5
 have H1 : ((spec_IsPartyCode.f k a0_2).bind fun t128 => (if t128 = true then ((spec_IsAmount.f a0_3).bind fun t129 => (some t129)) else (some false))) = some r := by rw [if_pos rfl] at H; exact H
 clear H
 have H := H1
 clear H1
 replace H := Option.bind_eq_some_iff.mp H
 obtain ⟨t128, A60, H⟩ := H
 replace H : (if t128 = true then ((spec_IsAmount.f a0_3).bind fun t129 => (some t129)) else (some false)) = some r := H
 have A6 := Aside0.mk A60
 clear A60
 by_cases c7 : t128 = true
 subst c7
 have H1 : ((spec_IsAmount.f a0_3).bind fun t129 => (some t129)) = some r := by rw [if_pos rfl] at H; exact H
 clear H
 have H := H1
 clear H1
 replace H := Option.bind_eq_some_iff.mp H
 obtain ⟨t129, A80, H⟩ := H
 replace H : (some t129) = some r := H
 have A8 := Aside0.mk A80
 clear A80
 obtain rfl := Option.some.inj H
 rotate_left
 replace c7 := Bool.eq_false_iff.mpr c7
 subst c7
 have H1 : (some false) = some r := by rw [if_neg (show ¬ (false = true) by decide)] at H; exact H
 clear H
 have H := H1
 clear H1
 obtain rfl := Option.some.inj H
 rotate_left
 replace c5 := Bool.eq_false_iff.mpr c5
 subst c5
 have H1 : (some false) = some r := by rw [if_neg (show ¬ (false = true) by decide)] at H; exact H
 clear H
 have H := H1
 clear H1
 obtain rfl := Option.some.inj H
 rotate_left
 replace c3 := Bool.eq_false_iff.mpr c3
 subst c3
 have H1 : (some false) = some r := by rw [if_neg (show ¬ (false = true) by decide)] at H; exact H
 clear H
 have H := H1
 clear H1
 obtain rfl := Option.some.inj H
 rotate_left
 all_goals
  go_enter Tryz.func85, Tryz.ntmps85
  go_wp2_with (first | ((with_reducible refine gate_dst (N := 1) rfl ?_); refine box_event ?hg (N := 1) ?hd (cs := #[.int .i64 a0_0, .int .i64 a0_1, .string a0_2, .int .i64 a0_3, .bool a0_4, .bool a0_5, .bool a0_6]) (t := 65) ?hr ?_; (case hd => rfl); (case hg => rfl); (case hr => first | (go_simp; done) | (go_simp; rfl)); intro gb125 hg w9 hbox hb; have n0_ := Aside0.mk (bs_ hb); have n1_ := Aside0.mk (hbox); have n2_ := Aside0.mk ((by rw [hg]; exact (bz_) : w.heap.size ≤ gb125)); have n3_ := Aside0.mk ((by rw [hg]; exact (bz_) : w.heap.size ≤ gb125)); clear HB; have HB := n0_; have BK125 := n1_; have GW125 := n2_; have GE125 := n3_; clear n0_ n1_ n2_ n3_; clear hb hbox hg; have hcz10_0 := bk BK125 0; have hcz10_1 := bk BK125 1; have hcz10_2 := bk BK125 2; have hcz10_3 := bk BK125 3; have hcz10_4 := bk BK125 4; have hcz10_5 := bk BK125 5; have hcz10_6 := bk BK125 6; have hfz10_0 := blk_frozen BK125.out 0; have hfz10_1 := blk_frozen BK125.out 1; have hfz10_2 := blk_frozen BK125.out 2; have hfz10_3 := blk_frozen BK125.out 3; have hfz10_4 := blk_frozen BK125.out 4; have hfz10_5 := blk_frozen BK125.out 5; have hfz10_6 := blk_frozen BK125.out 6) | ((with_reducible refine gate_callee (f := 41) rfl ?_); refine goesL_ (some 5) rfl rfl Tryz.func41 (by kernel_rfl) rfl #[.int .i64 a0_0] rfl (by (try simp only [List.map_toArray, List.map_cons, List.map_nil]); first | done | rfl | (simp only [List.length_drop, List.length_take]; rfl)) ?_; (with_reducible refine (spec_l02Is.calls a0_0 _ _ A2.out).mono ?_); rintro e w' ⟨rfl, ⟨nd, rfl⟩⟩; refine ⟨_, rfl, ?_⟩) | (go_at_call 86; (with_reducible refine (spec_l01In.calls a0_1 0 6 _ _ A4.out).mono ?_); rintro e w' ⟨rfl, ⟨nd, rfl⟩⟩) | (go_at_call 136; (with_reducible refine (spec_IsPartyCode.calls k a0_2 _ _ A6.out).mono ?_); rintro e w' ⟨rfl, ⟨nd, rfl⟩⟩) | (go_at_call 125; (with_reducible refine (spec_IsAmount.calls a0_3 t129 _ A8.out).mono ?_); rintro e w' ⟨rfl, ⟨nd, rfl⟩⟩))
  go_ret
  exact ⟨by first | rfl | (simp [errW_none, errW_some] <;> rfl) | (simp [*, errW_none, errW_some] <;> rfl), bb_⟩

end Go.Proofs.YtmfbkbbgokjhnaaGreat.F
