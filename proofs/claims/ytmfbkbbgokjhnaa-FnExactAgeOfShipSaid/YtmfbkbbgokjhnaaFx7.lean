-- Written by this session's program (wip/bin/hp.py) over the kit's print: a function's Lean form, and a proof that the call does what it says.
import Derived.Test.YtmfbkbbgokjhnaaFx0
import Derived.Test.YtmfbkbbgokjhnaaFx3
import Derived.Test.YtmfbkbbgokjhnaaFx6
namespace Go.Proofs.Ytmfbkbbgokjhnaa.F
open Go.RowKit Go.Proofs.YtmfbkbbgokjhnaaW.PrintWords Go.Proofs.YtmfbkbbgokjhnaaW.PrintLast Go.Proofs.YtmfbkbbgokjhnaaW.PrintMore
attribute [local go_sem] max2_int min2_int max_two min_two max_three min_three max_four min_four   -- for this text's walks alone
set_option linter.unusedVariables false
set_option linter.unusedSimpArgs false

/-! ### impl_Interest_88: function 88 -/
def val_T84 (x : S84) : Value := .agg #[.string x.f0, .int .i64 x.f1, .string x.f2, .int .i64 x.f3, .int .i64 x.f4]
theorem rd_at_T84 (l : List S84) (i : Nat) (h : i < l.length) : rd_T84 l (i : Int) = l[i] := by
  simp [rd_T84, List.getD_eq_getElem?_getD, h]
set_option maxHeartbeats 1000000 in
set_option maxRecDepth 100000 in
theorem rising_T84.calls (g : Nat) (lb : Array Value) (q : S84 → S84 → Int) (A0 : Option Addr) (c0 : Nat) (l0 : List S84) (w : World) (hr0 : Kd.C k84 w A0 l0.length l0) (hc0 : l0.length ≤ c0)
    (eg : ∀ args w, (callFunc g args).run Try.prog w = .ok (.enter g args) w) (hp : FnC Try.prog val_T84 g lb q l0 w) :
    Calls Try.prog 88 #[.slice A0 l0.length c0, .func (.func g) #[] lb] w fun e w' => e = .returned (.bool (risingB q l0)) ∧ Below w.heap.size w w' := by
  have hu84 := Try.underlying84
  have hbig : l0.length ≤ 9223372036854775807 := hr0.2.1
  have HR0 := Aside0.mk hr0
  have HP := Aside0.mk hp
  clear hr0 hc0 hp
  go_enter Try.func88, Try.ntmps88
  go_wp2
  go_loopg [5] l0.length (fun gg s5 wr => ∃ kk : Nat, 1 ≤ kk ∧ (kk ≤ l0.length ∨ kk = 1) ∧ l0.length - kk ≤ gg ∧ s5 = .int .i64 kk ∧ Aside0 (Below w.heap.size w wr) ∧ Aside0 (∀ j (hj : j < l0.length) (h1 : 1 ≤ j), j < kk → q l0[j - 1] l0[j] < 0))
  case atStart => exact ⟨1, by omega, .inr rfl, by omega, rfl, ⟨Below.refl _ w⟩, ⟨fun j hj h1 h => by omega⟩⟩
  case round =>
    obtain ⟨kk, hk1, hkk, hg, rfl, BW, A⟩ := hrel
    by_cases hlt : kk < l0.length
    · have hltz : (kk : Int) < (l0.length : Int) := by omega
      have o1 := at_T84 HR0.out ((kk - 1 : Nat) : Int) (by omega) (by omega)
      have o2 := at_T84 HR0.out (kk : Int) (by omega) (by omega)
      rw [rd_at_T84 l0 (kk - 1) (by omega), Int.toNat_natCast] at o1
      rw [rd_at_T84 l0 kk hlt, Int.toNat_natCast] at o2
      obtain ⟨ad, e_ad, hx0, hx1, hx2, hx3, hx4⟩ := o1
      cases e_ad
      obtain ⟨ae, e_ae, hz0, hz1, hz2, hz3, hz4⟩ := o2
      cases e_ae
      replace hx0 := (BW.out.cell (World.block_lt_of_cell? w _ hx0)).trans hx0
      replace hx1 := (BW.out.cell (World.block_lt_of_cell? w _ hx1)).trans hx1
      replace hx2 := (BW.out.cell (World.block_lt_of_cell? w _ hx2)).trans hx2
      replace hx3 := (BW.out.cell (World.block_lt_of_cell? w _ hx3)).trans hx3
      replace hx4 := (BW.out.cell (World.block_lt_of_cell? w _ hx4)).trans hx4
      replace hz0 := (BW.out.cell (World.block_lt_of_cell? w _ hz0)).trans hz0
      replace hz1 := (BW.out.cell (World.block_lt_of_cell? w _ hz1)).trans hz1
      replace hz2 := (BW.out.cell (World.block_lt_of_cell? w _ hz2)).trans hz2
      replace hz3 := (BW.out.cell (World.block_lt_of_cell? w _ hz3)).trans hz3
      replace hz4 := (BW.out.cell (World.block_lt_of_cell? w _ hz4)).trans hz4
      have hcall := HP.out wr.drew l0[kk - 1] l0[kk] (List.getElem_mem (by omega)) (List.getElem_mem hlt) (below_drew BW.out)
      unfold val_T84 at hcall
      generalize hy : l0[kk - 1] = y at hx0 hx1 hx2 hx3 hx4 hcall
      generalize hy2 : l0[kk] = y2 at hz0 hz1 hz2 hz3 hz4 hcall
      have B : Aside0 (l0[kk - 1] = y) := ⟨hy⟩
      have B2 : Aside0 (l0[kk] = y2) := ⟨hy2⟩
      clear hy hy2
      have s1 : IntKind.i64.wrap ((kk : Int) - 1) = (kk : Int) - 1 := IntWalk.i64_in _ (by omega)
      have s2 : 0 ≤ (kk : Int) - 1 := by omega
      have s3 : ((kk : Int) - 1).toNat = kk - 1 := by omega
      have s4 : (kk : Int) - 1 < (l0.length : Int) := by omega
      have s5 : 1 ≤ (kk : Int) := by omega
      have s6 : (kk : Int) < (l0.length : Int) + 1 := by omega
      have s7 : 0 ≤ (kk : Int) := by omega
      have HB2 : Aside0 (Below w.heap.size w wr.drew) := ⟨below_drew BW.out⟩
      have Z := Aside0.mk (rfl : q y y2 = q y y2)
      by_cases hq : 0 ≤ q y y2
      · have N := Aside0.mk (risingB_no q l0 kk hlt hk1 (by rw [B.out, B2.out]; omega))
        generalize q y y2 = z at hcall hq Z
        have Q1 : decide (0 ≤ z) = true := decide_eq_true hq
        clear hq
        go_wp2_with fail
        go_still_tail 10, (by kernel_rfl)
        change wpList _ _ _ _ _ wr.drew
        go_wp2_with (go_at_fn g; refine hcall.mono ?_; rintro e w' ⟨rfl, hb'⟩)
        go_ret
        exact ⟨by rw [N.out]; rfl, below_then HB2.out HB2.out.size hb'⟩
      · have L : Aside0 (q l0[kk - 1] l0[kk] < 0) := ⟨by rw [B.out, B2.out]; omega⟩
        generalize q y y2 = z at hcall hq Z
        have Q1 : decide (0 ≤ z) = false := decide_eq_false hq
        clear hq
        go_wp2_with fail
        go_still_tail 10, (by kernel_rfl)
        change wpList _ _ _ _ _ wr.drew
        go_wp2_with (go_at_fn g; refine hcall.mono ?_; rintro e w' ⟨rfl, hb'⟩)
        go_roundg (l0.length - (kk + 1))
        case measure => omega
        case rel =>
          refine ⟨kk + 1, by omega, by omega, by omega, by go_num, ⟨below_then HB2.out HB2.out.size hb'⟩, ⟨fun j hj h1 hjk => ?_⟩⟩
          by_cases e : j = kk
          · subst e; exact L.out
          · exact A.out j hj h1 (by omega)
    · have hltz : ¬ (kk : Int) < (l0.length : Int) := by omega
      go_wp2
      go_ret
      refine ⟨?_, BW.out⟩
      rw [risingB_yes q l0 (fun j hj h1 => A.out j hj h1 (by omega))]
      rfl

-- NOT PRINTED: function 135 (bytealg_abigen_runtime_cmpstring)

-- NOT PRINTED: function 130 (bytealg_CompareString)

/-! ### strings_Compare: function 114 -/
def strings_Compare.f (a0 : ByteArray) (a1 : ByteArray) : Option Int := some (Lib.compareBytes a0.data.toList a1.data.toList)
theorem strings_Compare.calls (a0 : ByteArray) (a1 : ByteArray) (r : Int) (w : World) (h : strings_Compare.f a0 a1 = some r) :
    Calls Try.prog 114 #[.string a0, .string a1] w fun e w' => e = .returned (.int .i64 r) ∧ Drawn0 w w' := by
  obtain rfl := Option.some.inj h
  refine (Try.strings_Compare a0 a1 w).mono ?_
  rintro e w' ⟨rfl, rfl⟩
  exact ⟨rfl, Drawn0.refl _⟩

/-! ### impl_compareInterests: function 89 -/
def impl_compareInterests.f (a0_0 : ByteArray) (a0_1 : Int) (a0_2 : ByteArray) (a0_3 : Int) (a0_4 : Int) (a1_0 : ByteArray) (a1_1 : Int) (a1_2 : ByteArray) (a1_3 : Int) (a1_4 : Int) : Option (Int) := (strings_Compare.f a0_0 a1_0).bind fun t139 => (some t139)
set_option maxHeartbeats 8000000 in
set_option maxRecDepth 100000 in
theorem impl_compareInterests.calls (a0_0 : ByteArray) (a0_1 : Int) (a0_2 : ByteArray) (a0_3 : Int) (a0_4 : Int) (a1_0 : ByteArray) (a1_1 : Int) (a1_2 : ByteArray) (a1_3 : Int) (a1_4 : Int) (r : Int) (w : World) (h : impl_compareInterests.f a0_0 a0_1 a0_2 a0_3 a0_4 a1_0 a1_1 a1_2 a1_3 a1_4 = some r) :
    Calls Try.prog 89 #[.agg #[.string a0_0, .int .i64 a0_1, .string a0_2, .int .i64 a0_3, .int .i64 a0_4], .agg #[.string a1_0, .int .i64 a1_1, .string a1_2, .int .i64 a1_3, .int .i64 a1_4]] w fun e w' => e = .returned (.int .i64 r) ∧ Below w.heap.size w w' := by
  have hu84 := Try.underlying84
  have HB := Aside0.mk (Below.refl w.heap.size w)
  have H : ((strings_Compare.f a0_0 a1_0).bind fun t139 => (some t139)) = some r := h
  clear h
  replace H := Option.bind_eq_some_iff.mp H
  obtain ⟨t139, A30, H⟩ := H
  replace H : (some t139) = some r := H
  have A3 := Aside0.mk A30
  clear A30
  obtain rfl := Option.some.inj H
  go_enter Try.func89, Try.ntmps89
  go_wp2_with (first | ((with_reducible refine gate_dst (N := 2) rfl ?_); refine box_event ?hg (N := 2) ?hd (cs := #[.string a0_0, .int .i64 a0_1, .string a0_2, .int .i64 a0_3, .int .i64 a0_4]) (t := 84) ?hr ?_; (case hd => rfl); (case hg => rfl); (case hr => first | (go_simp; done) | (go_simp; rfl)); intro gb137 hg w4 hbox hb; have n0_ := Aside0.mk (below_step (by repeat (first | (with_reducible first | exact HB.out | apply below_alloc | apply pw_below_drewN | apply below_drew1) | exact HB.out)) hb); have n1_ := Aside0.mk (hbox); have n2_ := Aside0.mk ((by rw [hg]; exact (below_size (by repeat (first | (with_reducible first | exact HB.out | apply below_alloc | apply pw_below_drewN | apply below_drew1) | exact HB.out))) : w.heap.size ≤ gb137)); have n3_ := Aside0.mk ((by rw [hg]; exact (below_size (by repeat (first | (with_reducible first | exact HB.out | apply below_alloc | apply pw_below_drewN | apply below_drew1) | exact HB.out))) : w.heap.size ≤ gb137)); clear HB; have HB := n0_; have BK137 := n1_; have GW137 := n2_; have GE137 := n3_; clear n0_ n1_ n2_ n3_; clear hb hbox hg) | ((with_reducible refine gate_dst (N := 3) rfl ?_); refine box_event ?hg (N := 3) ?hd (cs := #[.string a1_0, .int .i64 a1_1, .string a1_2, .int .i64 a1_3, .int .i64 a1_4]) (t := 84) ?hr ?_; (case hd => rfl); (case hg => rfl); (case hr => first | (go_simp; done) | (go_simp; rfl)); intro gb138 hg w5 hbox hb; have n0_ := Aside0.mk (blk_below (g := gb137) (o := .cells #[.string a0_0, .int .i64 a0_1, .string a0_2, .int .i64 a0_3, .int .i64 a0_4] 84 (0, 0)) (by (with_reducible repeat (first | refine blk_drewN ?_ _ | refine blk_drew ?_ | refine blk_alloc ?_ _)); exact BK137.out) hb); have n1_ := Aside0.mk (below_step (by repeat (first | (with_reducible first | exact HB.out | apply below_alloc | apply pw_below_drewN | apply below_drew1 | refine below_set ?_ GE137.out) | exact HB.out)) hb); have n2_ := Aside0.mk (hbox); have n3_ := Aside0.mk ((by rw [hg]; exact (below_size (by repeat (first | (with_reducible first | exact HB.out | apply below_alloc | apply pw_below_drewN | apply below_drew1 | refine below_set ?_ GE137.out) | exact HB.out))) : w.heap.size ≤ gb138)); have n4_ := Aside0.mk ((by rw [hg]; exact (below_size (by repeat (first | (with_reducible first | exact HB.out | apply below_alloc | apply pw_below_drewN | apply below_drew1 | refine below_set ?_ GE137.out) | exact HB.out))) : w.heap.size ≤ gb138)); have n5_ := Aside0.mk ((by rw [hg]; exact Nat.ne_of_lt (blk_lt (g := gb137) (o := .cells #[.string a0_0, .int .i64 a0_1, .string a0_2, .int .i64 a0_3, .int .i64 a0_4] 84 (0, 0)) (by (with_reducible repeat (first | refine blk_drewN ?_ _ | refine blk_drew ?_ | refine blk_alloc ?_ _)); exact BK137.out)) : gb137 ≠ gb138)); have n6_ := Aside0.mk ((by rw [hg]; exact Nat.ne_of_gt (blk_lt (g := gb137) (o := .cells #[.string a0_0, .int .i64 a0_1, .string a0_2, .int .i64 a0_3, .int .i64 a0_4] 84 (0, 0)) (by (with_reducible repeat (first | refine blk_drewN ?_ _ | refine blk_drew ?_ | refine blk_alloc ?_ _)); exact BK137.out)) : gb138 ≠ gb137)); clear BK137; clear HB; have BK137 := n0_; have HB := n1_; have BK138 := n2_; have GW138 := n3_; have GE138 := n4_; have NB137_138 := n5_; have NB138_137 := n6_; clear n0_ n1_ n2_ n3_ n4_ n5_ n6_; clear hb hbox hg; have hnb6 := NB137_138.out; have hnc6 := NB138_137.out; have hcz7_0 : w5.cell? ⟨gb137, 0, none⟩ = some (.string a0_0) := (blk_cell BK137.out 0).trans rfl; have hcz7_1 : w5.cell? ⟨gb137, 1, none⟩ = some (.int .i64 a0_1) := (blk_cell BK137.out 1).trans rfl; have hcz7_2 : w5.cell? ⟨gb137, 2, none⟩ = some (.string a0_2) := (blk_cell BK137.out 2).trans rfl; have hcz7_3 : w5.cell? ⟨gb137, 3, none⟩ = some (.int .i64 a0_3) := (blk_cell BK137.out 3).trans rfl; have hcz7_4 : w5.cell? ⟨gb137, 4, none⟩ = some (.int .i64 a0_4) := (blk_cell BK137.out 4).trans rfl; have hfz7_0 := blk_frozen BK137.out 0; have hfz7_1 := blk_frozen BK137.out 1; have hfz7_2 := blk_frozen BK137.out 2; have hfz7_3 := blk_frozen BK137.out 3; have hfz7_4 := blk_frozen BK137.out 4; have hcz8_0 : w5.cell? ⟨gb138, 0, none⟩ = some (.string a1_0) := (blk_cell BK138.out 0).trans rfl; have hcz8_1 : w5.cell? ⟨gb138, 1, none⟩ = some (.int .i64 a1_1) := (blk_cell BK138.out 1).trans rfl; have hcz8_2 : w5.cell? ⟨gb138, 2, none⟩ = some (.string a1_2) := (blk_cell BK138.out 2).trans rfl; have hcz8_3 : w5.cell? ⟨gb138, 3, none⟩ = some (.int .i64 a1_3) := (blk_cell BK138.out 3).trans rfl; have hcz8_4 : w5.cell? ⟨gb138, 4, none⟩ = some (.int .i64 a1_4) := (blk_cell BK138.out 4).trans rfl; have hfz8_0 := blk_frozen BK138.out 0; have hfz8_1 := blk_frozen BK138.out 1; have hfz8_2 := blk_frozen BK138.out 2; have hfz8_3 := blk_frozen BK138.out 3; have hfz8_4 := blk_frozen BK138.out 4) | ((with_reducible refine gate_callee (f := 114) rfl ?_); refine goesL_ (some 9) rfl rfl Try.func114 (by kernel_rfl) rfl #[.string a0_0, .string a1_0] rfl (by (try simp only [List.map_toArray, List.map_cons, List.map_nil]); first | done | rfl | (simp only [List.length_drop, List.length_take]; rfl)) ?_; (with_reducible refine (strings_Compare.calls a0_0 a1_0 t139 _ A3.out).mono ?_); rintro e w' ⟨rfl, ⟨nd, rfl⟩⟩; refine ⟨_, rfl, ?_⟩))
  go_ret
  exact ⟨by first | rfl | (simp [errW_none, errW_some] <;> rfl) | (simp [*, errW_none, errW_some] <;> rfl), by repeat (first | (with_reducible first | exact HB.out | apply below_alloc | apply pw_below_drewN | apply below_drew1 | refine below_set ?_ GE137.out | refine below_set ?_ GE138.out) | exact HB.out)⟩

/-! ### impl_IsManifest: function 50 -/
def interestsAt (k : Nat) (l : List S84) : Bool := l.all fun x => impl_IsInterest.f k x.f0 x.f1 x.f2 x.f3 x.f4 == some (interestB x)
def impl_IsManifest.f (k : Nat) (l0 : List S84) : Option Bool := if interestsAt k l0 = true then some (manifestB l0) else none
theorem impl_IsManifest.mono : ∀ a0 k, LeO (impl_IsManifest.f k a0) (impl_IsManifest.f (k + 1) a0) := by
  intro l k r h
  unfold impl_IsManifest.f at h ⊢
  by_cases hc : interestsAt k l = true
  · rw [if_pos hc] at h
    have hc' : interestsAt (k + 1) l = true := by
      unfold interestsAt at hc ⊢
      rw [List.all_eq_true] at hc ⊢
      intro x hx
      have := beq_iff_eq.1 (hc x hx)
      exact beq_iff_eq.2 (impl_IsInterest.mono _ _ _ _ _ k _ this)
    rw [if_pos hc']
    exact h
  · rw [if_neg hc] at h
    cases h
set_option maxHeartbeats 4000000 in
set_option maxRecDepth 100000 in
theorem impl_IsManifest.calls (k : Nat) (A0 : Option Addr) (c0 : Nat) (l0 : List S84) (r : Bool) (w : World) (hr0 : Kd.C k84 w A0 l0.length l0) (hc0 : l0.length ≤ c0) (h : impl_IsManifest.f k l0 = some r) :
    Calls Try.prog 50 #[.slice A0 l0.length c0] w fun e w' => e = .returned (.bool r) ∧ Below w.heap.size w w' := by
  have hbig : l0.length ≤ 9223372036854775807 := hr0.2.1
  have hu := Try.underlying84
  unfold impl_IsManifest.f at h
  by_cases hcl : interestsAt k l0 = true
  case neg => rw [if_neg hcl] at h; cases h
  rw [if_pos hcl] at h
  obtain rfl := Option.some.inj h
  clear h
  have HI := Aside0.mk (fun (x : S84) (hx : x ∈ l0) (W : World) => impl_IsInterest.calls k x.f0 x.f1 x.f2 x.f3 x.f4 (interestB x) W (beq_iff_eq.1 (List.all_eq_true.1 hcl x hx)))
  have e2 : ∀ args w, (callFunc 89 args).run Try.prog w = .ok (.enter 89 args) w := enters_of Try.func89 (by kernel_rfl) rfl
  have HRS := Aside0.mk (fun (W : World) (hW : Below w.heap.size w W) => rising_T84.calls 89 #[] cmpIn A0 c0 l0 W (Kd.C_below hr0 hW) hc0 e2 (fun W' x y _ _ _ => impl_compareInterests.calls x.f0 x.f1 x.f2 x.f3 x.f4 y.f0 y.f1 y.f2 y.f3 y.f4 (cmpIn x y) W' rfl))
  have HR0 := Aside0.mk hr0
  clear hr0 hc0 hcl e2
  go_enter Try.func50, Try.ntmps50
  go_wp2
  go_loopg [10] l0.length (fun gg s10 wr => ∃ (kk : Nat) (n0 n1 n2 n3 : Int), kk ≤ l0.length ∧ l0.length - kk ≤ gg ∧ s10 = .int .i64 kk ∧ Aside0 (Below w.heap.size w wr) ∧ Aside0 (wr.heap[w.heap.size]? = some (.cells #[.int .i64 n0, .int .i64 n1, .int .i64 n2, .int .i64 n3] 122 (0, 0))) ∧ Aside0 ((∀ j (hj : j < l0.length), j < kk → interestB l0[j] = true) ∧ n0 = kindN 0 (l0.take kk) ∧ n1 = kindN 1 (l0.take kk) ∧ n2 = kindN 2 (l0.take kk) ∧ n3 = kindN 3 (l0.take kk)))
  case atStart => exact ⟨0, 0, 0, 0, 0, by omega, by omega, rfl, ⟨by first | exact below_alloc (Below.refl _ _) _ | (repeat (first | exact below_alloc (Below.refl _ _) _ | refine below_set ?_ (Nat.le_refl _)))⟩, ⟨by first | exact blk_new _ _ | (simp; done)⟩, ⟨fun j hj h => by omega, by simp [kindN], by simp [kindN], by simp [kindN], by simp [kindN]⟩⟩
  case round =>
    obtain ⟨kk, n0, n1, n2, n3, hkk, hg, rfl, BW, BK, A⟩ := hrel
    by_cases hlt : kk < l0.length
    · have hltz : (kk : Int) < (l0.length : Int) := by omega
      have o2 := at_T84 HR0.out (kk : Int) (by omega) (by omega)
      rw [rd_at_In l0 kk hlt, Int.toNat_natCast] at o2
      have s7 : 0 ≤ (kk : Int) := by omega
      have IC := Aside0.mk (HI.out l0[kk] (List.getElem_mem hlt))
      have BAD := Aside0.mk (manifest_bad l0 kk hlt)
      have STEP := Aside0.mk (fun (c : Int) (hc : l0[kk].f1 = c) (j : Int) => kindN_step j l0 kk hlt c hc)
      have X := Aside0.mk (rfl : l0[kk] = l0[kk])
      have LE := Aside0.mk (show (0 ≤ n0 ∧ n0 ≤ kk) ∧ (0 ≤ n1 ∧ n1 ≤ kk) ∧ (0 ≤ n2 ∧ n2 ≤ kk) ∧ (0 ≤ n3 ∧ n3 ≤ kk) by
        obtain ⟨_, e0, e1, e2, e3⟩ := A.out
        rw [e0, e1, e2, e3]
        exact ⟨kindN_le _ _ _, kindN_le _ _ _, kindN_le _ _ _, kindN_le _ _ _⟩)
      generalize hx : l0[kk] = x at o2 IC BAD STEP
      clear X
      have HX := Aside0.mk hx
      clear hx
      obtain ⟨f0, f1, f2, f3, f4⟩ := x
      simp only at o2 IC BAD STEP
      obtain ⟨ae, e_ae, hz0, hz1, hz2, hz3, hz4⟩ := o2
      cases e_ae
      replace hz0 := (BW.out.cell (World.block_lt_of_cell? w _ hz0)).trans hz0
      replace hz1 := (BW.out.cell (World.block_lt_of_cell? w _ hz1)).trans hz1
      replace hz2 := (BW.out.cell (World.block_lt_of_cell? w _ hz2)).trans hz2
      replace hz3 := (BW.out.cell (World.block_lt_of_cell? w _ hz3)).trans hz3
      replace hz4 := (BW.out.cell (World.block_lt_of_cell? w _ hz4)).trans hz4
      have BA := Aside0.mk (blk_alloc BK.out (.cells #[.string f0, .int .i64 f1, .string f2, .int .i64 f3, .int .i64 f4] 84))
      have B1 := Aside0.mk (below_alloc BW.out (.cells #[.string f0, .int .i64 f1, .string f2, .int .i64 f3, .int .i64 f4] 84))
      have GE := Aside0.mk (Nat.le_refl w.heap.size)
      cases hb : interestB ⟨f0, f1, f2, f3, f4⟩ with
      | false =>
        have FIN := Aside0.mk (BAD.out hb)
        rw [hb] at IC
        clear hb
        go_wp2_with (go_at_call 87; refine (IC.out _).mono ?_; rintro e w2 ⟨rfl, hb⟩)
        go_ret
        exact ⟨by rw [FIN.out]; rfl, below_then B1.out B1.out.size hb⟩
      | true =>
        have HB := Aside0.mk hb
        rw [hb] at IC
        clear hb
        have hf : f1 = 0 ∨ f1 = 1 ∨ f1 = 2 ∨ f1 = 3 := by
          have := HB.out
          unfold interestB at this
          simp only [Bool.and_eq_true, decide_eq_true_eq] at this
          omega
        rcases hf with rfl | rfl | rfl | rfl
        · have sw : IntKind.i64.wrap (n0 + 1) = n0 + 1 := IntWalk.i64_in _ (by have := LE.out; omega)
          go_wp2_with (go_at_call 87; refine (IC.out _).mono ?_; rintro e w2 ⟨rfl, hb⟩; have BK2 := Aside0.mk (blk_below BA.out hb); have g1 := (hb.cell (p := ⟨wr.heap.size, 1, none⟩) (by simp)).trans (by simp : _ = some (Value.int .i64 0)); have B2 := Aside0.mk (below_then B1.out B1.out.size hb); clear hb; have k0 := (blk_cell BK2.out 0).trans rfl; have z0 := blk_frozen BK2.out 0)
          go_roundg (l0.length - (kk + 1))
          case measure => omega
          case rel =>
            refine ⟨kk + 1, n0 + 1, n1, n2, n3, by omega, by omega, by go_num, ⟨below_set B2.out (Nat.le_refl _)⟩, ⟨blk_put BK2.out 0 _ rfl⟩, ⟨?_⟩⟩
            obtain ⟨a0, e0, e1, e2, e3⟩ := A.out
            refine ⟨fun j hj hjk => ?_, ?_, ?_, ?_, ?_⟩
            · by_cases e : j = kk
              · subst e; rw [HX.out]; exact HB.out
              · exact a0 j hj (by omega)
            · rw [STEP.out _ rfl 0, ← e0]; simp
            · rw [STEP.out _ rfl 1, ← e1]; simp
            · rw [STEP.out _ rfl 2, ← e2]; simp
            · rw [STEP.out _ rfl 3, ← e3]; simp
        · have sw : IntKind.i64.wrap (n1 + 1) = n1 + 1 := IntWalk.i64_in _ (by have := LE.out; omega)
          go_wp2_with (go_at_call 87; refine (IC.out _).mono ?_; rintro e w2 ⟨rfl, hb⟩; have BK2 := Aside0.mk (blk_below BA.out hb); have g1 := (hb.cell (p := ⟨wr.heap.size, 1, none⟩) (by simp)).trans (by simp : _ = some (Value.int .i64 1)); have B2 := Aside0.mk (below_then B1.out B1.out.size hb); clear hb; have k0 := (blk_cell BK2.out 1).trans rfl; have z0 := blk_frozen BK2.out 1)
          go_roundg (l0.length - (kk + 1))
          case measure => omega
          case rel =>
            refine ⟨kk + 1, n0, n1 + 1, n2, n3, by omega, by omega, by go_num, ⟨below_set B2.out (Nat.le_refl _)⟩, ⟨blk_put BK2.out 1 _ rfl⟩, ⟨?_⟩⟩
            obtain ⟨a0, e0, e1, e2, e3⟩ := A.out
            refine ⟨fun j hj hjk => ?_, ?_, ?_, ?_, ?_⟩
            · by_cases e : j = kk
              · subst e; rw [HX.out]; exact HB.out
              · exact a0 j hj (by omega)
            · rw [STEP.out _ rfl 0, ← e0]; simp
            · rw [STEP.out _ rfl 1, ← e1]; simp
            · rw [STEP.out _ rfl 2, ← e2]; simp
            · rw [STEP.out _ rfl 3, ← e3]; simp
        · have sw : IntKind.i64.wrap (n2 + 1) = n2 + 1 := IntWalk.i64_in _ (by have := LE.out; omega)
          go_wp2_with (go_at_call 87; refine (IC.out _).mono ?_; rintro e w2 ⟨rfl, hb⟩; have BK2 := Aside0.mk (blk_below BA.out hb); have g1 := (hb.cell (p := ⟨wr.heap.size, 1, none⟩) (by simp)).trans (by simp : _ = some (Value.int .i64 2)); have B2 := Aside0.mk (below_then B1.out B1.out.size hb); clear hb; have k0 := (blk_cell BK2.out 2).trans rfl; have z0 := blk_frozen BK2.out 2)
          go_roundg (l0.length - (kk + 1))
          case measure => omega
          case rel =>
            refine ⟨kk + 1, n0, n1, n2 + 1, n3, by omega, by omega, by go_num, ⟨below_set B2.out (Nat.le_refl _)⟩, ⟨blk_put BK2.out 2 _ rfl⟩, ⟨?_⟩⟩
            obtain ⟨a0, e0, e1, e2, e3⟩ := A.out
            refine ⟨fun j hj hjk => ?_, ?_, ?_, ?_, ?_⟩
            · by_cases e : j = kk
              · subst e; rw [HX.out]; exact HB.out
              · exact a0 j hj (by omega)
            · rw [STEP.out _ rfl 0, ← e0]; simp
            · rw [STEP.out _ rfl 1, ← e1]; simp
            · rw [STEP.out _ rfl 2, ← e2]; simp
            · rw [STEP.out _ rfl 3, ← e3]; simp
        · have sw : IntKind.i64.wrap (n3 + 1) = n3 + 1 := IntWalk.i64_in _ (by have := LE.out; omega)
          go_wp2_with (go_at_call 87; refine (IC.out _).mono ?_; rintro e w2 ⟨rfl, hb⟩; have BK2 := Aside0.mk (blk_below BA.out hb); have g1 := (hb.cell (p := ⟨wr.heap.size, 1, none⟩) (by simp)).trans (by simp : _ = some (Value.int .i64 3)); have B2 := Aside0.mk (below_then B1.out B1.out.size hb); clear hb; have k0 := (blk_cell BK2.out 3).trans rfl; have z0 := blk_frozen BK2.out 3)
          go_roundg (l0.length - (kk + 1))
          case measure => omega
          case rel =>
            refine ⟨kk + 1, n0, n1, n2, n3 + 1, by omega, by omega, by go_num, ⟨below_set B2.out (Nat.le_refl _)⟩, ⟨blk_put BK2.out 3 _ rfl⟩, ⟨?_⟩⟩
            obtain ⟨a0, e0, e1, e2, e3⟩ := A.out
            refine ⟨fun j hj hjk => ?_, ?_, ?_, ?_, ?_⟩
            · by_cases e : j = kk
              · subst e; rw [HX.out]; exact HB.out
              · exact a0 j hj (by omega)
            · rw [STEP.out _ rfl 0, ← e0]; simp
            · rw [STEP.out _ rfl 1, ← e1]; simp
            · rw [STEP.out _ rfl 2, ← e2]; simp
            · rw [STEP.out _ rfl 3, ← e3]; simp
    · have hltz : ¬ (kk : Int) < (l0.length : Int) := by omega
      have CNT := Aside0.mk (show l0.all interestB = true ∧ n0 = kindN 0 l0 ∧ n1 = kindN 1 l0 ∧ n2 = kindN 2 l0 by
        obtain ⟨a0, e0, e1, e2, e3⟩ := A.out
        rw [List.take_of_length_le (by omega)] at e0 e1 e2
        refine ⟨?_, e0, e1, e2⟩
        rw [List.all_eq_true]
        intro x hx
        obtain ⟨j, hj, rfl⟩ := List.mem_iff_getElem.1 hx
        exact a0 j hj (by omega))
      have FIN := Aside0.mk (show manifestB l0 = (decide (n0 = 1 ∧ n1 ≤ 1 ∧ n2 ≤ 1) && decide (l0.length ≤ 10) && risingB cmpIn l0) by
        obtain ⟨a0, e0, e1, e2⟩ := CNT.out
        unfold manifestB
        rw [a0, e0, e1, e2]
        rfl)
      have HR := Aside0.mk (HRS.out wr BW.out)
      have k0 := (blk_cell BK.out 0).trans rfl
      have k1 := (blk_cell BK.out 1).trans rfl
      have k2 := (blk_cell BK.out 2).trans rfl
      clear A CNT HI HRS HR0 hg hkk hlt
      generalize risingB cmpIn l0 = q at FIN HR
      by_cases c0_ : n0 = 1
      · have T0 : (n0 == 1) = true := by simpa using c0_
        by_cases c1_ : n1 ≤ 1
        · by_cases c2_ : n2 ≤ 1
          · by_cases c3_ : (l0.length : Int) ≤ 10
            · have FIN2 := Aside0.mk (show manifestB l0 = q by rw [FIN.out, decide_eq_true ⟨c0_, c1_, c2_⟩, decide_eq_true (by omega)]; rfl)
              clear c0_ FIN
              go_wp2_with (go_at_call 88; refine HR.out.mono ?_; rintro e w2 ⟨rfl, hb⟩)
              go_ret
              exact ⟨by rw [FIN2.out]; rfl, below_then BW.out BW.out.size hb⟩
            · have FIN2 := Aside0.mk (show manifestB l0 = false by rw [FIN.out, decide_eq_false (show ¬ l0.length ≤ 10 by omega)]; simp)
              clear c0_ FIN HR
              go_wp2
              go_ret
              exact ⟨by rw [FIN2.out]; rfl, BW.out⟩
          · have FIN2 := Aside0.mk (show manifestB l0 = false by rw [FIN.out, decide_eq_false (show ¬ (n0 = 1 ∧ n1 ≤ 1 ∧ n2 ≤ 1) by omega)]; simp)
            clear c0_ FIN HR
            go_wp2
            go_ret
            exact ⟨by rw [FIN2.out]; rfl, BW.out⟩
        · have FIN2 := Aside0.mk (show manifestB l0 = false by rw [FIN.out, decide_eq_false (show ¬ (n0 = 1 ∧ n1 ≤ 1 ∧ n2 ≤ 1) by omega)]; simp)
          clear c0_ FIN HR
          go_wp2
          go_ret
          exact ⟨by rw [FIN2.out]; rfl, BW.out⟩
      · have T0 : (n0 == 1) = false := by simpa using c0_
        have FIN2 := Aside0.mk (show manifestB l0 = false by rw [FIN.out, decide_eq_false (show ¬ (n0 = 1 ∧ n1 ≤ 1 ∧ n2 ≤ 1) by omega)]; simp)
        clear c0_ FIN HR
        go_wp2
        go_ret
        exact ⟨by rw [FIN2.out]; rfl, BW.out⟩

end Go.Proofs.Ytmfbkbbgokjhnaa.F
