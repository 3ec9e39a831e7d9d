-- Written by this session's program (wip/bin/hp.py) over the kit's print: a function's Lean form, and a proof that the call does what it says.
import Derived.Test.YtmfbkbbgokjhnaaGreatFx0
import Derived.Test.YtmfbkbbgokjhnaaGreatSq
import Derived.Test.YtmfbkbbgokjhnaaGreatFx4
import Derived.Test.YtmfbkbbgokjhnaaGreatFx18
namespace Go.Proofs.YtmfbkbbgokjhnaaGreat.F
open Go.RowKit Go.Proofs.YtmfbkbbgokjhnaaGreatW.PrintWords Go.Proofs.YtmfbkbbgokjhnaaGreatW.PrintLast Go.Proofs.YtmfbkbbgokjhnaaGreatW.PrintMore
attribute [local go_sem] max2_int min2_int max_two min_two max_three min_three max_four min_four   -- for this text's walks alone
set_option linter.unusedVariables false
set_option linter.unusedSimpArgs false

/-! ### impl_Interest_96: function 96 -/
def val_T103 (x : S103) : Value := .agg #[.string x.f0, .int .i64 x.f1, .string x.f2, .int .i64 x.f3, .int .i64 x.f4]
theorem rd_at_T103 (l : List S103) (i : Nat) (h : i < l.length) : rd_T103 l (i : Int) = l[i] := by
 simp [rd_T103, List.getD_eq_getElem?_getD, h]
set_option maxHeartbeats 1000000 in
set_option maxRecDepth 100000 in
theorem rising_T103.calls (g : Nat) (lb : Array Value) (q : S103 → S103 → Int) (A0 : Option Addr) (c0 : Nat) (l0 : List S103) (w : World) (hr0 : Kd.C k103 w A0 l0.length l0) (hc0 : l0.length ≤ c0)
 (eg : ∀ args w, (callFunc g args).run Tryz.prog w = .ok (.enter g args) w) (hp : FnC Tryz.prog val_T103 g lb q l0 w) :
 Calls Tryz.prog 96 #[.slice A0 l0.length c0, .func (.func g) #[] lb] w fun e w' => e = .returned (.bool (risingB q l0)) ∧ Below w.heap.size w w' := by
 have hu103 := Tryz.underlying103
 have hbig : l0.length ≤ 9223372036854775807 := hr0.2.1
 have HR0 := Aside0.mk hr0
 have HP := Aside0.mk hp
 clear hr0 hc0 hp
 go_enter Tryz.func96, Tryz.ntmps96
 go_wp2
 go_loopg [5] l0.length (fun gg s5 wr => ∃ kk : Nat, 1 ≤ kk ∧ (kk ≤ l0.length ∨ kk = 1) ∧ l0.length - kk ≤ gg ∧ s5 = .int .i64 kk ∧ Aside0 (Below w.heap.size w wr) ∧ Aside0 (∀ j (hj : j < l0.length) (h1 : 1 ≤ j), j < kk → q l0[j - 1] l0[j] < 0))
 case atStart => exact ⟨1, by omega, .inr rfl, by omega, rfl, ⟨Below.refl _ w⟩, ⟨fun j hj h1 h => by omega⟩⟩
 case round =>
  obtain ⟨kk, hk1, hkk, hg, rfl, BW, A⟩ := hrel
  by_cases hlt : kk < l0.length
  · have hltz : (kk : Int) < (l0.length : Int) := by omega
    have o1 := at_T103 HR0.out ((kk - 1 : Nat) : Int) (by omega) (by omega)
    have o2 := at_T103 HR0.out (kk : Int) (by omega) (by omega)
    rw [rd_at_T103 l0 (kk - 1) (by omega), Int.toNat_natCast] at o1
    rw [rd_at_T103 l0 kk hlt, Int.toNat_natCast] at o2
    obtain ⟨ad, e_ad, hx0, hx1, hx2, hx3, hx4⟩ := o1
    cases e_ad
    obtain ⟨ae, e_ae, hz0, hz1, hz2, hz3, hz4⟩ := o2
    cases e_ae
    replace hx0 := (BW.out.cell (World.block_lt_of_cell? w _ hx0)).trans hx0
    replace hx1 := (BW.out.cell (World.block_lt_of_cell? w _ hx1)).trans hx1
    replace hx2 := (BW.out.cell (World.block_lt_of_cell? w _ hx2)).trans hx2
    replace hx3 := (BW.out.cell (World.block_lt_of_cell? w _ hx3)).trans hx3
    replace hx4 := (BW.out.cell (World.block_lt_of_cell? w _ hx4)).trans hx4
    replace hz0 := (BW.out.cell (World.block_lt_of_cell? w _ hz0)).trans hz0
    replace hz1 := (BW.out.cell (World.block_lt_of_cell? w _ hz1)).trans hz1
    replace hz2 := (BW.out.cell (World.block_lt_of_cell? w _ hz2)).trans hz2
    replace hz3 := (BW.out.cell (World.block_lt_of_cell? w _ hz3)).trans hz3
    replace hz4 := (BW.out.cell (World.block_lt_of_cell? w _ hz4)).trans hz4
    have hcall := HP.out wr.drew l0[kk - 1] l0[kk] (List.getElem_mem (by omega)) (List.getElem_mem hlt) (below_drew BW.out)
    unfold val_T103 at hcall
    generalize hy : l0[kk - 1] = y at hx0 hx1 hx2 hx3 hx4 hcall
    generalize hy2 : l0[kk] = y2 at hz0 hz1 hz2 hz3 hz4 hcall
    have B : Aside0 (l0[kk - 1] = y) := ⟨hy⟩
    have B2 : Aside0 (l0[kk] = y2) := ⟨hy2⟩
    clear hy hy2
    have s1 : IntKind.i64.wrap ((kk : Int) - 1) = (kk : Int) - 1 := IntWalk.i64_in _ (by omega)
    have s2 : 0 ≤ (kk : Int) - 1 := by omega
    have s3 : ((kk : Int) - 1).toNat = kk - 1 := by omega
    have s4 : (kk : Int) - 1 < (l0.length : Int) := by omega
    have s5 : 1 ≤ (kk : Int) := by omega
    have s6 : (kk : Int) < (l0.length : Int) + 1 := by omega
    have s7 : 0 ≤ (kk : Int) := by omega
    have HB2 : Aside0 (Below w.heap.size w wr.drew) := ⟨below_drew BW.out⟩
    have Z := Aside0.mk (rfl : q y y2 = q y y2)
    by_cases hq : 0 ≤ q y y2
    · have N := Aside0.mk (risingB_no q l0 kk hlt hk1 (by rw [B.out, B2.out]; omega))
      generalize q y y2 = z at hcall hq Z
      have Q1 : decide (0 ≤ z) = true := decide_eq_true hq
      clear hq
      go_wp2_with fail
      go_still_tail 10, (by kernel_rfl)
      change wpList _ _ _ _ _ wr.drew
      go_wp2_with (go_at_fn g; refine hcall.mono ?_; rintro e w' ⟨rfl, hb'⟩)
      go_ret
      exact ⟨by rw [N.out]; rfl, below_then HB2.out HB2.out.size hb'⟩
    · have L : Aside0 (q l0[kk - 1] l0[kk] < 0) := ⟨by rw [B.out, B2.out]; omega⟩
      generalize q y y2 = z at hcall hq Z
      have Q1 : decide (0 ≤ z) = false := decide_eq_false hq
      clear hq
      go_wp2_with fail
      go_still_tail 10, (by kernel_rfl)
      change wpList _ _ _ _ _ wr.drew
      go_wp2_with (go_at_fn g; refine hcall.mono ?_; rintro e w' ⟨rfl, hb'⟩)
      go_roundg (l0.length - (kk + 1))
      case measure => omega
      case rel =>
       refine ⟨kk + 1, by omega, by omega, by omega, by go_num, ⟨below_then HB2.out HB2.out.size hb'⟩, ⟨fun j hj h1 hjk => ?_⟩⟩
       by_cases e : j = kk
       · subst e; exact L.out
       · exact A.out j hj h1 (by omega)
  · have hltz : ¬ (kk : Int) < (l0.length : Int) := by omega
    go_wp2
    go_ret
    refine ⟨?_, BW.out⟩
    rw [risingB_yes q l0 (fun j hj h1 => A.out j hj h1 (by omega))]
    rfl

-- NOT PRINTED: function 177 (bytealg_abigen_runtime_cmpstring)

-- NOT PRINTED: function 167 (bytealg_CompareString)

/-! ### strings_Compare: function 139 -/
def strings_Compare.f (a0 : ByteArray) (a1 : ByteArray) : Option Int := some (Lib.compareBytes a0.data.toList a1.data.toList)
theorem strings_Compare.calls (a0 : ByteArray) (a1 : ByteArray) (r : Int) (w : World) (h : strings_Compare.f a0 a1 = some r) :
 Calls Tryz.prog 139 #[.string a0, .string a1] w fun e w' => e = .returned (.int .i64 r) ∧ Drawn0 w w' := by
 obtain rfl := Option.some.inj h
 refine (Tryz.strings_Compare a0 a1 w).mono ?_
 rintro e w' ⟨rfl, rfl⟩
 exact ⟨rfl, Drawn0.refl _⟩

/-! ### impl_compareInterests: function 97 -/
def impl_compareInterests.f (a0_0 : ByteArray) (a0_1 : Int) (a0_2 : ByteArray) (a0_3 : Int) (a0_4 : Int) (a1_0 : ByteArray) (a1_1 : Int) (a1_2 : ByteArray) (a1_3 : Int) (a1_4 : Int) : Option (Int) := (strings_Compare.f a0_0 a1_0).bind fun t254 => (some t254)
set_option maxHeartbeats 8000000 in
set_option maxRecDepth 100000 in
theorem impl_compareInterests.calls (a0_0 : ByteArray) (a0_1 : Int) (a0_2 : ByteArray) (a0_3 : Int) (a0_4 : Int) (a1_0 : ByteArray) (a1_1 : Int) (a1_2 : ByteArray) (a1_3 : Int) (a1_4 : Int) (r : Int) (w : World) (h : impl_compareInterests.f a0_0 a0_1 a0_2 a0_3 a0_4 a1_0 a1_1 a1_2 a1_3 a1_4 = some r) :
 Calls Tryz.prog 97 #[.agg #[.string a0_0, .int .i64 a0_1, .string a0_2, .int .i64 a0_3, .int .i64 a0_4], .agg #[.string a1_0, .int .i64 a1_1, .string a1_2, .int .i64 a1_3, .int .i64 a1_4]] w fun e w' => e = .returned (.int .i64 r) ∧ Below w.heap.size w w' := by
 have hu103 := Tryz.underlying103
 have HB := Aside0.mk (Below.refl w.heap.size w)
 have H : ((strings_Compare.f a0_0 a1_0).bind fun t254 => (some t254)) = some r := h
 clear h
 replace H := Option.bind_eq_some_iff.mp H
 obtain ⟨t254, A30, H⟩ := H
 replace H : (some t254) = some r := H
 have A3 := Aside0.mk A30
 clear A30
 obtain rfl := Option.some.inj H
 go_enter Tryz.func97, Tryz.ntmps97
 go_wp2_with (first | ((with_reducible refine gate_dst (N := 2) rfl ?_); refine box_event ?hg (N := 2) ?hd (cs := #[.string a0_0, .int .i64 a0_1, .string a0_2, .int .i64 a0_3, .int .i64 a0_4]) (t := 103) ?hr ?_; (case hd => rfl); (case hg => rfl); (case hr => first | (go_simp; done) | (go_simp; rfl)); intro gb252 hg w4 hbox hb; have n0_ := Aside0.mk (bs_ hb); have n1_ := Aside0.mk (hbox); have n2_ := Aside0.mk ((by rw [hg]; exact (bz_) : w.heap.size ≤ gb252)); have n3_ := Aside0.mk ((by rw [hg]; exact (bz_) : w.heap.size ≤ gb252)); clear HB; have HB := n0_; have BK252 := n1_; have GW252 := n2_; have GE252 := n3_; clear n0_ n1_ n2_ n3_; clear hb hbox hg) | ((with_reducible refine gate_dst (N := 3) rfl ?_); refine box_event ?hg (N := 3) ?hd (cs := #[.string a1_0, .int .i64 a1_1, .string a1_2, .int .i64 a1_3, .int .i64 a1_4]) (t := 103) ?hr ?_; (case hd => rfl); (case hg => rfl); (case hr => first | (go_simp; done) | (go_simp; rfl)); intro gb253 hg w5 hbox hb; have n0_ := Aside0.mk (blk_below (g := gb252) (o := .cells #[.string a0_0, .int .i64 a0_1, .string a0_2, .int .i64 a0_3, .int .i64 a0_4] 103 (0, 0)) (by (with_reducible repeat (first | refine blk_drewN ?_ _ | refine blk_drew ?_ | refine blk_alloc ?_ _)); exact BK252.out) hb); have n1_ := Aside0.mk (bs_ hb); have n2_ := Aside0.mk (hbox); have n3_ := Aside0.mk ((by rw [hg]; exact (bz_) : w.heap.size ≤ gb253)); have n4_ := Aside0.mk ((by rw [hg]; exact (bz_) : w.heap.size ≤ gb253)); have n5_ := Aside0.mk ((by rw [hg]; exact Nat.ne_of_lt (blk_lt (g := gb252) (o := .cells #[.string a0_0, .int .i64 a0_1, .string a0_2, .int .i64 a0_3, .int .i64 a0_4] 103 (0, 0)) (by (with_reducible repeat (first | refine blk_drewN ?_ _ | refine blk_drew ?_ | refine blk_alloc ?_ _)); exact BK252.out)) : gb252 ≠ gb253)); have n6_ := Aside0.mk ((by rw [hg]; exact Nat.ne_of_gt (blk_lt (g := gb252) (o := .cells #[.string a0_0, .int .i64 a0_1, .string a0_2, .int .i64 a0_3, .int .i64 a0_4] 103 (0, 0)) (by (with_reducible repeat (first | refine blk_drewN ?_ _ | refine blk_drew ?_ | refine blk_alloc ?_ _)); exact BK252.out)) : gb253 ≠ gb252)); clear BK252; clear HB; have BK252 := n0_; have HB := n1_; have BK253 := n2_; have GW253 := n3_; have GE253 := n4_; have NB252_253 := n5_; have NB253_252 := n6_; clear n0_ n1_ n2_ n3_ n4_ n5_ n6_; clear hb hbox hg; have hnb6 := NB252_253.out; have hnc6 := NB253_252.out; have hcz7_0 := bk BK252 0; have hcz7_1 := bk BK252 1; have hcz7_2 := bk BK252 2; have hcz7_3 := bk BK252 3; have hcz7_4 := bk BK252 4; have hfz7_0 := blk_frozen BK252.out 0; have hfz7_1 := blk_frozen BK252.out 1; have hfz7_2 := blk_frozen BK252.out 2; have hfz7_3 := blk_frozen BK252.out 3; have hfz7_4 := blk_frozen BK252.out 4; have hcz8_0 := bk BK253 0; have hcz8_1 := bk BK253 1; have hcz8_2 := bk BK253 2; have hcz8_3 := bk BK253 3; have hcz8_4 := bk BK253 4; have hfz8_0 := blk_frozen BK253.out 0; have hfz8_1 := blk_frozen BK253.out 1; have hfz8_2 := blk_frozen BK253.out 2; have hfz8_3 := blk_frozen BK253.out 3; have hfz8_4 := blk_frozen BK253.out 4) | ((with_reducible refine gate_callee (f := 139) rfl ?_); refine goesL_ (some 9) rfl rfl Tryz.func139 (by kernel_rfl) rfl #[.string a0_0, .string a1_0] rfl (by (try simp only [List.map_toArray, List.map_cons, List.map_nil]); first | done | rfl | (simp only [List.length_drop, List.length_take]; rfl)) ?_; (with_reducible refine (strings_Compare.calls a0_0 a1_0 t254 _ A3.out).mono ?_); rintro e w' ⟨rfl, ⟨nd, rfl⟩⟩; refine ⟨_, rfl, ?_⟩))
 go_ret
 exact ⟨by first | rfl | (simp [errW_none, errW_some] <;> rfl) | (simp [*, errW_none, errW_some] <;> rfl), bb_⟩

/-! ### impl_IsManifest: function 47 -/
def interestsAt (k : Nat) (l : List S103) : Bool := l.all fun x => impl_IsInterest.f k x.f0 x.f1 x.f2 x.f3 x.f4 == some (interestB x)
def impl_IsManifest.f (k : Nat) (l0 : List S103) : Option Bool := if interestsAt k l0 = true then some (manifestB l0) else none
theorem impl_IsManifest.mono : ∀ a0 k, LeO (impl_IsManifest.f k a0) (impl_IsManifest.f (k + 1) a0) := by
 intro l k r h
 unfold impl_IsManifest.f at h ⊢
 by_cases hc : interestsAt k l = true
 · rw [if_pos hc] at h
   have hc' : interestsAt (k + 1) l = true := by
    unfold interestsAt at hc ⊢
    rw [List.all_eq_true] at hc ⊢
    intro x hx
    have := beq_iff_eq.1 (hc x hx)
    exact beq_iff_eq.2 (impl_IsInterest.mono _ _ _ _ _ k _ this)
   rw [if_pos hc']
   exact h
 · rw [if_neg hc] at h
   cases h
set_option maxHeartbeats 4000000 in
set_option maxRecDepth 100000 in
theorem impl_IsManifest.calls (k : Nat) (A0 : Option Addr) (c0 : Nat) (l0 : List S103) (r : Bool) (w : World) (hr0 : Kd.C k103 w A0 l0.length l0) (hc0 : l0.length ≤ c0) (h : impl_IsManifest.f k l0 = some r) :
 Calls Tryz.prog 47 #[.slice A0 l0.length c0] w fun e w' => e = .returned (.bool r) ∧ Below w.heap.size w w' := by
 have hbig : l0.length ≤ 9223372036854775807 := hr0.2.1
 have hu := Tryz.underlying103
 unfold impl_IsManifest.f at h
 by_cases hcl : interestsAt k l0 = true
 case neg => rw [if_neg hcl] at h; cases h
 rw [if_pos hcl] at h
 obtain rfl := Option.some.inj h
 clear h
 have HI := Aside0.mk (fun (x : S103) (hx : x ∈ l0) (W : World) => impl_IsInterest.calls k x.f0 x.f1 x.f2 x.f3 x.f4 (interestB x) W (beq_iff_eq.1 (List.all_eq_true.1 hcl x hx)))
 have e2 : ∀ args w, (callFunc 97 args).run Tryz.prog w = .ok (.enter 97 args) w := enters_of Tryz.func97 (by kernel_rfl) rfl
 have HRS := Aside0.mk (fun (W : World) (hW : Below w.heap.size w W) => rising_T103.calls 97 #[] cmpIn A0 c0 l0 W (Kd.C_below hr0 hW) hc0 e2 (fun W' x y _ _ _ => impl_compareInterests.calls x.f0 x.f1 x.f2 x.f3 x.f4 y.f0 y.f1 y.f2 y.f3 y.f4 (cmpIn x y) W' rfl))
 have HR0 := Aside0.mk hr0
 clear hr0 hc0 hcl e2
 go_enter Tryz.func47, Tryz.ntmps47
 go_wp2
 go_loopg [10] l0.length (fun gg s10 wr => ∃ (kk : Nat) (n0 n1 n2 n3 : Int), kk ≤ l0.length ∧ l0.length - kk ≤ gg ∧ s10 = .int .i64 kk ∧ Aside0 (Below w.heap.size w wr) ∧ Aside0 (wr.heap[w.heap.size]? = some (.cells #[.int .i64 n0, .int .i64 n1, .int .i64 n2, .int .i64 n3] 120 (0, 0))) ∧ Aside0 ((∀ j (hj : j < l0.length), j < kk → interestB l0[j] = true) ∧ n0 = kindN 0 (l0.take kk) ∧ n1 = kindN 1 (l0.take kk) ∧ n2 = kindN 2 (l0.take kk) ∧ n3 = kindN 3 (l0.take kk)))
 case atStart => exact ⟨0, 0, 0, 0, 0, by omega, by omega, rfl, ⟨by first | exact below_alloc (Below.refl _ _) _ | (repeat (first | exact below_alloc (Below.refl _ _) _ | refine below_set ?_ (Nat.le_refl _)))⟩, ⟨by first | exact blk_new _ _ | (simp; done)⟩, ⟨fun j hj h => by omega, by simp [kindN], by simp [kindN], by simp [kindN], by simp [kindN]⟩⟩
 case round =>
  obtain ⟨kk, n0, n1, n2, n3, hkk, hg, rfl, BW, BK, A⟩ := hrel
  by_cases hlt : kk < l0.length
  · have hltz : (kk : Int) < (l0.length : Int) := by omega
    have o2 := at_T103 HR0.out (kk : Int) (by omega) (by omega)
    rw [rd_at_In l0 kk hlt, Int.toNat_natCast] at o2
    have s7 : 0 ≤ (kk : Int) := by omega
    have IC := Aside0.mk (HI.out l0[kk] (List.getElem_mem hlt))
    have BAD := Aside0.mk (manifest_bad l0 kk hlt)
    have STEP := Aside0.mk (fun (c : Int) (hc : l0[kk].f1 = c) (j : Int) => kindN_step j l0 kk hlt c hc)
    have X := Aside0.mk (rfl : l0[kk] = l0[kk])
    have LE := Aside0.mk (show (0 ≤ n0 ∧ n0 ≤ kk) ∧ (0 ≤ n1 ∧ n1 ≤ kk) ∧ (0 ≤ n2 ∧ n2 ≤ kk) ∧ (0 ≤ n3 ∧ n3 ≤ kk) by
     obtain ⟨_, e0, e1, e2, e3⟩ := A.out
     rw [e0, e1, e2, e3]
     exact ⟨kindN_le _ _ _, kindN_le _ _ _, kindN_le _ _ _, kindN_le _ _ _⟩)
    generalize hx : l0[kk] = x at o2 IC BAD STEP
    clear X
    have HX := Aside0.mk hx
    clear hx
    obtain ⟨f0, f1, f2, f3, f4⟩ := x
    simp only at o2 IC BAD STEP
    obtain ⟨ae, e_ae, hz0, hz1, hz2, hz3, hz4⟩ := o2
    cases e_ae
    replace hz0 := (BW.out.cell (World.block_lt_of_cell? w _ hz0)).trans hz0
    replace hz1 := (BW.out.cell (World.block_lt_of_cell? w _ hz1)).trans hz1
    replace hz2 := (BW.out.cell (World.block_lt_of_cell? w _ hz2)).trans hz2
    replace hz3 := (BW.out.cell (World.block_lt_of_cell? w _ hz3)).trans hz3
    replace hz4 := (BW.out.cell (World.block_lt_of_cell? w _ hz4)).trans hz4
    have BA := Aside0.mk (blk_alloc BK.out (.cells #[.string f0, .int .i64 f1, .string f2, .int .i64 f3, .int .i64 f4] 103))
    have B1 := Aside0.mk (below_alloc BW.out (.cells #[.string f0, .int .i64 f1, .string f2, .int .i64 f3, .int .i64 f4] 103))
    have GE := Aside0.mk (Nat.le_refl w.heap.size)
    cases hb : interestB ⟨f0, f1, f2, f3, f4⟩ with
    | false =>
     have FIN := Aside0.mk (BAD.out hb)
     rw [hb] at IC
     clear hb
     go_wp2_with (go_at_call 95; refine (IC.out _).mono ?_; rintro e w2 ⟨rfl, hb⟩)
     go_ret
     exact ⟨by rw [FIN.out]; rfl, below_then B1.out B1.out.size hb⟩
    | true =>
     have HB := Aside0.mk hb
     rw [hb] at IC
     clear hb
     have hf : f1 = 0 ∨ f1 = 1 ∨ f1 = 2 ∨ f1 = 3 := by
      have := HB.out
      unfold interestB at this
      simp only [Bool.and_eq_true, decide_eq_true_eq] at this
      omega
     rcases hf with rfl | rfl | rfl | rfl
     · have sw : IntKind.i64.wrap (n0 + 1) = n0 + 1 := IntWalk.i64_in _ (by have := LE.out; omega)
       go_wp2_with (go_at_call 95; refine (IC.out _).mono ?_; rintro e w2 ⟨rfl, hb⟩; have BK2 := Aside0.mk (blk_below BA.out hb); have g1 := (hb.cell (p := ⟨wr.heap.size, 1, none⟩) (by simp)).trans (by simp : _ = some (Value.int .i64 0)); have B2 := Aside0.mk (below_then B1.out B1.out.size hb); clear hb; have k0 := (blk_cell BK2.out 0).trans rfl; have z0 := blk_frozen BK2.out 0)
       go_roundg (l0.length - (kk + 1))
       case measure => omega
       case rel =>
        refine ⟨kk + 1, n0 + 1, n1, n2, n3, by omega, by omega, by go_num, ⟨below_set B2.out (Nat.le_refl _)⟩, ⟨blk_put BK2.out 0 _ rfl⟩, ⟨?_⟩⟩
        obtain ⟨a0, e0, e1, e2, e3⟩ := A.out
        refine ⟨fun j hj hjk => ?_, ?_, ?_, ?_, ?_⟩
        · by_cases e : j = kk
          · subst e; rw [HX.out]; exact HB.out
          · exact a0 j hj (by omega)
        · rw [STEP.out _ rfl 0, ← e0]; simp
        · rw [STEP.out _ rfl 1, ← e1]; simp
        · rw [STEP.out _ rfl 2, ← e2]; simp
        · rw [STEP.out _ rfl 3, ← e3]; simp
     · have sw : IntKind.i64.wrap (n1 + 1) = n1 + 1 := IntWalk.i64_in _ (by have := LE.out; omega)
       go_wp2_with (go_at_call 95; refine (IC.out _).mono ?_; rintro e w2 ⟨rfl, hb⟩; have BK2 := Aside0.mk (blk_below BA.out hb); have g1 := (hb.cell (p := ⟨wr.heap.size, 1, none⟩) (by simp)).trans (by simp : _ = some (Value.int .i64 1)); have B2 := Aside0.mk (below_then B1.out B1.out.size hb); clear hb; have k0 := (blk_cell BK2.out 1).trans rfl; have z0 := blk_frozen BK2.out 1)
       go_roundg (l0.length - (kk + 1))
       case measure => omega
       case rel =>
        refine ⟨kk + 1, n0, n1 + 1, n2, n3, by omega, by omega, by go_num, ⟨below_set B2.out (Nat.le_refl _)⟩, ⟨blk_put BK2.out 1 _ rfl⟩, ⟨?_⟩⟩
        obtain ⟨a0, e0, e1, e2, e3⟩ := A.out
        refine ⟨fun j hj hjk => ?_, ?_, ?_, ?_, ?_⟩
        · by_cases e : j = kk
          · subst e; rw [HX.out]; exact HB.out
          · exact a0 j hj (by omega)
        · rw [STEP.out _ rfl 0, ← e0]; simp
        · rw [STEP.out _ rfl 1, ← e1]; simp
        · rw [STEP.out _ rfl 2, ← e2]; simp
        · rw [STEP.out _ rfl 3, ← e3]; simp
     · have sw : IntKind.i64.wrap (n2 + 1) = n2 + 1 := IntWalk.i64_in _ (by have := LE.out; omega)
       go_wp2_with (go_at_call 95; refine (IC.out _).mono ?_; rintro e w2 ⟨rfl, hb⟩; have BK2 := Aside0.mk (blk_below BA.out hb); have g1 := (hb.cell (p := ⟨wr.heap.size, 1, none⟩) (by simp)).trans (by simp : _ = some (Value.int .i64 2)); have B2 := Aside0.mk (below_then B1.out B1.out.size hb); clear hb; have k0 := (blk_cell BK2.out 2).trans rfl; have z0 := blk_frozen BK2.out 2)
       go_roundg (l0.length - (kk + 1))
       case measure => omega
       case rel =>
        refine ⟨kk + 1, n0, n1, n2 + 1, n3, by omega, by omega, by go_num, ⟨below_set B2.out (Nat.le_refl _)⟩, ⟨blk_put BK2.out 2 _ rfl⟩, ⟨?_⟩⟩
        obtain ⟨a0, e0, e1, e2, e3⟩ := A.out
        refine ⟨fun j hj hjk => ?_, ?_, ?_, ?_, ?_⟩
        · by_cases e : j = kk
          · subst e; rw [HX.out]; exact HB.out
          · exact a0 j hj (by omega)
        · rw [STEP.out _ rfl 0, ← e0]; simp
        · rw [STEP.out _ rfl 1, ← e1]; simp
        · rw [STEP.out _ rfl 2, ← e2]; simp
        · rw [STEP.out _ rfl 3, ← e3]; simp
     · have sw : IntKind.i64.wrap (n3 + 1) = n3 + 1 := IntWalk.i64_in _ (by have := LE.out; omega)
       go_wp2_with (go_at_call 95; refine (IC.out _).mono ?_; rintro e w2 ⟨rfl, hb⟩; have BK2 := Aside0.mk (blk_below BA.out hb); have g1 := (hb.cell (p := ⟨wr.heap.size, 1, none⟩) (by simp)).trans (by simp : _ = some (Value.int .i64 3)); have B2 := Aside0.mk (below_then B1.out B1.out.size hb); clear hb; have k0 := (blk_cell BK2.out 3).trans rfl; have z0 := blk_frozen BK2.out 3)
       go_roundg (l0.length - (kk + 1))
       case measure => omega
       case rel =>
        refine ⟨kk + 1, n0, n1, n2, n3 + 1, by omega, by omega, by go_num, ⟨below_set B2.out (Nat.le_refl _)⟩, ⟨blk_put BK2.out 3 _ rfl⟩, ⟨?_⟩⟩
        obtain ⟨a0, e0, e1, e2, e3⟩ := A.out
        refine ⟨fun j hj hjk => ?_, ?_, ?_, ?_, ?_⟩
        · by_cases e : j = kk
          · subst e; rw [HX.out]; exact HB.out
          · exact a0 j hj (by omega)
        · rw [STEP.out _ rfl 0, ← e0]; simp
        · rw [STEP.out _ rfl 1, ← e1]; simp
        · rw [STEP.out _ rfl 2, ← e2]; simp
        · rw [STEP.out _ rfl 3, ← e3]; simp
  · have hltz : ¬ (kk : Int) < (l0.length : Int) := by omega
    have CNT := Aside0.mk (show l0.all interestB = true ∧ n0 = kindN 0 l0 ∧ n1 = kindN 1 l0 ∧ n2 = kindN 2 l0 by
     obtain ⟨a0, e0, e1, e2, e3⟩ := A.out
     rw [List.take_of_length_le (by omega)] at e0 e1 e2
     refine ⟨?_, e0, e1, e2⟩
     rw [List.all_eq_true]
     intro x hx
     obtain ⟨j, hj, rfl⟩ := List.mem_iff_getElem.1 hx
     exact a0 j hj (by omega))
    have FIN := Aside0.mk (show manifestB l0 = (decide (n0 = 1 ∧ n1 ≤ 1 ∧ n2 ≤ 1) && decide (l0.length ≤ 10) && risingB cmpIn l0) by
     obtain ⟨a0, e0, e1, e2⟩ := CNT.out
     unfold manifestB
     rw [a0, e0, e1, e2]
     rfl)
    have HR := Aside0.mk (HRS.out wr BW.out)
    have k0 := (blk_cell BK.out 0).trans rfl
    have k1 := (blk_cell BK.out 1).trans rfl
    have k2 := (blk_cell BK.out 2).trans rfl
    clear A CNT HI HRS HR0 hg hkk hlt
    generalize risingB cmpIn l0 = q at FIN HR
    by_cases c0_ : n0 = 1
    · have T0 : (n0 == 1) = true := by simpa using c0_
      by_cases c1_ : n1 ≤ 1
      · by_cases c2_ : n2 ≤ 1
        · by_cases c3_ : (l0.length : Int) ≤ 10
          · have FIN2 := Aside0.mk (show manifestB l0 = q by rw [FIN.out, decide_eq_true ⟨c0_, c1_, c2_⟩, decide_eq_true (by omega)]; rfl)
            clear c0_ FIN
            go_wp2_with (go_at_call 96; refine HR.out.mono ?_; rintro e w2 ⟨rfl, hb⟩)
            go_ret
            exact ⟨by rw [FIN2.out]; rfl, below_then BW.out BW.out.size hb⟩
          · have FIN2 := Aside0.mk (show manifestB l0 = false by rw [FIN.out, decide_eq_false (show ¬ l0.length ≤ 10 by omega)]; simp)
            clear c0_ FIN HR
            go_wp2
            go_ret
            exact ⟨by rw [FIN2.out]; rfl, BW.out⟩
        · have FIN2 := Aside0.mk (show manifestB l0 = false by rw [FIN.out, decide_eq_false (show ¬ (n0 = 1 ∧ n1 ≤ 1 ∧ n2 ≤ 1) by omega)]; simp)
          clear c0_ FIN HR
          go_wp2
          go_ret
          exact ⟨by rw [FIN2.out]; rfl, BW.out⟩
      · have FIN2 := Aside0.mk (show manifestB l0 = false by rw [FIN.out, decide_eq_false (show ¬ (n0 = 1 ∧ n1 ≤ 1 ∧ n2 ≤ 1) by omega)]; simp)
        clear c0_ FIN HR
        go_wp2
        go_ret
        exact ⟨by rw [FIN2.out]; rfl, BW.out⟩
    · have T0 : (n0 == 1) = false := by simpa using c0_
      have FIN2 := Aside0.mk (show manifestB l0 = false by rw [FIN.out, decide_eq_false (show ¬ (n0 = 1 ∧ n1 ≤ 1 ∧ n2 ≤ 1) by omega)]; simp)
      clear c0_ FIN HR
      go_wp2
      go_ret
      exact ⟨by rw [FIN2.out]; rfl, BW.out⟩

end Go.Proofs.YtmfbkbbgokjhnaaGreat.F
namespace Go.Proofs.YtmfbkbbgokjhnaaGreat.F
open Go.RowKit Go.Proofs.YtmfbkbbgokjhnaaGreatW.PrintWords Go.Proofs.YtmfbkbbgokjhnaaGreatW.PrintLast Go.Proofs.YtmfbkbbgokjhnaaGreatW.PrintMore
attribute [local go_sem] max2_int min2_int max_two min_two max_three min_three max_four min_four   -- for this text's walks alone
set_option linter.unusedVariables false
set_option linter.unusedSimpArgs false

/-! ### impl_daysIn: function 151 -/
def impl_daysIn.j0 : Nat → Int → Bool → Option (Int)
 | 0, _, _ => none
 | k + 1, x1, x5 => if x5 = true then (some 29) else (if x1 = 2 then (some 28) else (if x1 = 4 then (some 30) else (if x1 = 6 then (some 30) else (if x1 = 9 then (some 30) else (if x1 = 11 then (some 30) else (some 31))))))
def impl_daysIn.f (k : Nat) (a0 : Int) (a1 : Int) : Option (Int) := if a1 = 2 then (impl_daysIn.j0 k a1 ((Int.tmod a0 4) == 0)) else (impl_daysIn.j0 k a1 false)
theorem impl_daysIn.mono_l : ∀ k, (∀ y0 y1, LeO (impl_daysIn.j0 k y0 y1) (impl_daysIn.j0 (k + 1) y0 y1))
 | 0 => fun _ _ r h => by simp [impl_daysIn.j0] at h
 | k + 1 => by
  have ih0 := impl_daysIn.mono_l k
  · intro y0 y1
    unfold impl_daysIn.j0
    repeat' first
    | (with_reducible exact ih0 _ _)
    | (with_reducible exact LeO.refl _)
    | (with_reducible exact LeO.none _)
    | (with_reducible refine LeO.ite ?_ ?_)
    | (with_reducible refine LeO.bind ?_ (fun _ => ?_))
    | exact ih0 _ _
    | exact LeO.none _
    | refine LeO.ite ?_ ?_
    | refine LeO.bind ?_ (fun _ => ?_)
theorem impl_daysIn.mono : ∀ a0 a1 k, LeO (impl_daysIn.f k a0 a1) (impl_daysIn.f (k + 1) a0 a1) := by
 intro a0 a1 k
 have ih0 := impl_daysIn.mono_l k
 unfold impl_daysIn.f
 repeat' first
  | (with_reducible exact ih0 _ _)
  | (with_reducible exact LeO.refl _)
  | (with_reducible exact LeO.none _)
  | (with_reducible refine LeO.ite ?_ ?_)
  | (with_reducible refine LeO.bind ?_ (fun _ => ?_))
  | exact ih0 _ _
  | exact LeO.none _
  | refine LeO.ite ?_ ?_
  | refine LeO.bind ?_ (fun _ => ?_)
set_option maxHeartbeats 8000000 in
set_option maxRecDepth 100000 in
theorem impl_daysIn.calls (k : Nat) (a0 : Int) (a1 : Int) (r : Int) (w : World) (h : impl_daysIn.f k a0 a1 = some r) :
 Calls Tryz.prog 151 #[.int .i64 a0, .int .i64 a1] w fun e w' => e = .returned (.int .i64 r) ∧ Drawn0 w w' := by
 have H : (if a1 = 2 then (impl_daysIn.j0 k a1 ((Int.tmod a0 4) == 0)) else (impl_daysIn.j0 k a1 false)) = some r := h
 clear h
 have HC3 := Aside0.mk H
 clear H
 go_enter Tryz.func151, Tryz.ntmps151
 go_upto_region 1 with (fail)
 go_cut [5] (fun v5 wc => ∃ (kq : Nat) (x5_2 : Bool), v5 = .bool x5_2 ∧ Aside0 (impl_daysIn.j0 kq a1 x5_2 = some r) ∧ Aside0 (kq ≤ k) ∧ Drawn0 w wc)
 case first =>
  have H := HC3.out
  clear HC3
  by_cases c4 : a1 = 2
  · rw [if_pos c4] at H
    have c4b0 : (a1 == 2) = true := beq_iff_eq.mpr c4
    have c4b1 : (a1 != 2) = false := bne_eq_false_iff_eq.mpr c4
    clear c4
    (first | rw [c4b0] | (simp only [i64_w, i32_w]; rw [c4b0]) | skip)
    have H' := Aside0.mk H
    clear H
    go_wp2
    go_meet
    case rel => exact ⟨_, (((Int.tmod a0 4) == 0)), (by first | rfl | (simp; done) | (simp [*]; done)), H', ⟨by first | omega | exact Nat.le_refl _⟩, by repeat (first | exact Drawn0.refl _ | apply Drawn0.step)⟩
  · rw [if_neg c4] at H
    have c4b0 : (a1 == 2) = false := beq_eq_false_iff_ne.mpr c4
    have c4b1 : (a1 != 2) = true := bne_iff_ne.mpr c4
    (first | rw [c4b0] | (simp only [i64_w, i32_w]; rw [c4b0]) | skip)
    have H' := Aside0.mk H
    clear H
    go_wp2
    go_meet
    case rel => exact ⟨_, (false), (by first | rfl | (simp; done) | (simp [*]; done)), H', ⟨by first | omega | exact Nat.le_refl _⟩, by repeat (first | exact Drawn0.refl _ | apply Drawn0.step)⟩
 case rest =>
  clear HC3
  try clear c1
  try clear p2
  try clear c4
  try clear c4b0
  try clear c4b1
  obtain ⟨kq, x5_2, rfl, HA, HJ2, ⟨mc2, rfl⟩⟩ := hcut
  cases kq with
  | zero => exact absurd HA.out (by simp [impl_daysIn.j0])
  | succ kj2 =>
   have H := HA.out
   clear HA
   simp only [impl_daysIn.j0] at H
   by_cases c5 : x5_2 = true
   · subst c5
     have H1 : (some 29) = some r := by rw [if_pos rfl] at H; exact H
     clear H
     have H := H1
     clear H1
     obtain rfl := Option.some.inj H
     go_wp2
     go_ret
     exact ⟨by first | rfl | (simp; done) | (simp [*]; done), by repeat (first | exact Drawn0.refl _ | apply Drawn0.step)⟩
   · replace c5 := Bool.eq_false_iff.mpr c5
     subst c5
     have H1 : (if a1 = 2 then (some 28) else (if a1 = 4 then (some 30) else (if a1 = 6 then (some 30) else (if a1 = 9 then (some 30) else (if a1 = 11 then (some 30) else (some 31)))))) = some r := by rw [if_neg (show ¬ (false = true) by decide)] at H; exact H
     clear H
     have H := H1
     clear H1
     by_cases c6 : a1 = 2
     · rw [if_pos c6] at H
       have c6b0 : (a1 == 2) = true := beq_iff_eq.mpr c6
       have c6b1 : (a1 != 2) = false := bne_eq_false_iff_eq.mpr c6
       clear c6
       obtain rfl := Option.some.inj H
       go_wp2
       go_ret
       exact ⟨by first | rfl | (simp; done) | (simp [*]; done), by repeat (first | exact Drawn0.refl _ | apply Drawn0.step)⟩
     · rw [if_neg c6] at H
       have c6b0 : (a1 == 2) = false := beq_eq_false_iff_ne.mpr c6
       have c6b1 : (a1 != 2) = true := bne_iff_ne.mpr c6
       by_cases c7 : a1 = 4
       · rw [if_pos c7] at H
         have c7b0 : (a1 == 4) = true := beq_iff_eq.mpr c7
         have c7b1 : (a1 != 4) = false := bne_eq_false_iff_eq.mpr c7
         clear c7
         obtain rfl := Option.some.inj H
         go_wp2
         go_ret
         exact ⟨by first | rfl | (simp; done) | (simp [*]; done), by repeat (first | exact Drawn0.refl _ | apply Drawn0.step)⟩
       · rw [if_neg c7] at H
         have c7b0 : (a1 == 4) = false := beq_eq_false_iff_ne.mpr c7
         have c7b1 : (a1 != 4) = true := bne_iff_ne.mpr c7
         by_cases c8 : a1 = 6
         · rw [if_pos c8] at H
           have c8b0 : (a1 == 6) = true := beq_iff_eq.mpr c8
           have c8b1 : (a1 != 6) = false := bne_eq_false_iff_eq.mpr c8
           clear c8
           obtain rfl := Option.some.inj H
           go_wp2
           go_ret
           exact ⟨by first | rfl | (simp; done) | (simp [*]; done), by repeat (first | exact Drawn0.refl _ | apply Drawn0.step)⟩
         · rw [if_neg c8] at H
           have c8b0 : (a1 == 6) = false := beq_eq_false_iff_ne.mpr c8
           have c8b1 : (a1 != 6) = true := bne_iff_ne.mpr c8
           by_cases c9 : a1 = 9
           · rw [if_pos c9] at H
             have c9b0 : (a1 == 9) = true := beq_iff_eq.mpr c9
             have c9b1 : (a1 != 9) = false := bne_eq_false_iff_eq.mpr c9
             clear c9
             obtain rfl := Option.some.inj H
             go_wp2
             go_ret
             exact ⟨by first | rfl | (simp; done) | (simp [*]; done), by repeat (first | exact Drawn0.refl _ | apply Drawn0.step)⟩
           · rw [if_neg c9] at H
             have c9b0 : (a1 == 9) = false := beq_eq_false_iff_ne.mpr c9
             have c9b1 : (a1 != 9) = true := bne_iff_ne.mpr c9
             by_cases c10 : a1 = 11
             · rw [if_pos c10] at H
               have c10b0 : (a1 == 11) = true := beq_iff_eq.mpr c10
               have c10b1 : (a1 != 11) = false := bne_eq_false_iff_eq.mpr c10
               clear c10
               obtain rfl := Option.some.inj H
               go_wp2
               go_ret
               exact ⟨by first | rfl | (simp; done) | (simp [*]; done), by repeat (first | exact Drawn0.refl _ | apply Drawn0.step)⟩
             · rw [if_neg c10] at H
               have c10b0 : (a1 == 11) = false := beq_eq_false_iff_ne.mpr c10
               have c10b1 : (a1 != 11) = true := bne_iff_ne.mpr c10
               obtain rfl := Option.some.inj H
               go_wp2
               go_ret
               exact ⟨by first | rfl | (simp; done) | (simp [*]; done), by repeat (first | exact Drawn0.refl _ | apply Drawn0.step)⟩

/-! ### impl_dayOf: function 111 -/
def impl_dayOf.l0 : Nat → Int → Int → Int → Int → Int → Option (Int)
 | 0, _, _, _, _, _ => none
 | k + 1, x4, x5, x256000, x256001, x256002 => if x5 < x256001 then ((impl_daysIn.f k x256000 x5).bind fun t256 => (impl_dayOf.l0 k (wrap64 (x4 + t256)) (wrap64 (x5 + 1)) x256000 x256001 x256002)) else (some x4)
def impl_dayOf.f (k : Nat) (a0_0 : Int) (a0_1 : Int) (a0_2 : Int) : Option (Int) := impl_dayOf.l0 k (wrap64 ((wrap64 ((wrap64 ((wrap64 (365 * (wrap64 (a0_0 - 1970)))) + (wrap64 (Int.tdiv (wrap64 ((wrap64 (a0_0 - 1970)) + 1)) 4)))) + a0_2)) - 1)) 1 a0_0 a0_1 a0_2
theorem impl_dayOf.mono_l : ∀ k, (∀ y0 y1 y2 y3 y4, LeO (impl_dayOf.l0 k y0 y1 y2 y3 y4) (impl_dayOf.l0 (k + 1) y0 y1 y2 y3 y4))
 | 0 => fun _ _ _ _ _ r h => by simp [impl_dayOf.l0] at h
 | k + 1 => by
  have ih0 := impl_dayOf.mono_l k
  · intro y0 y1 y2 y3 y4
    unfold impl_dayOf.l0
    repeat' first
    | (with_reducible exact ih0 _ _ _ _ _)
    | (with_reducible exact impl_daysIn.mono _ _ _)
    | (with_reducible exact LeO.refl _)
    | (with_reducible exact LeO.none _)
    | (with_reducible refine LeO.ite ?_ ?_)
    | (with_reducible refine LeO.bind ?_ (fun _ => ?_))
    | exact ih0 _ _ _ _ _
    | exact impl_daysIn.mono _ _ _
    | exact LeO.none _
    | refine LeO.ite ?_ ?_
    | refine LeO.bind ?_ (fun _ => ?_)
theorem impl_dayOf.mono : ∀ a0 a1 a2 k, LeO (impl_dayOf.f k a0 a1 a2) (impl_dayOf.f (k + 1) a0 a1 a2) := by
 intro a0 a1 a2 k
 have ih0 := impl_dayOf.mono_l k
 unfold impl_dayOf.f
 repeat' first
  | (with_reducible exact ih0 _ _ _ _ _)
  | (with_reducible exact impl_daysIn.mono _ _ _)
  | (with_reducible exact LeO.refl _)
  | (with_reducible exact LeO.none _)
  | (with_reducible refine LeO.ite ?_ ?_)
  | (with_reducible refine LeO.bind ?_ (fun _ => ?_))
  | exact ih0 _ _ _ _ _
  | exact impl_daysIn.mono _ _ _
  | exact LeO.none _
  | refine LeO.ite ?_ ?_
  | refine LeO.bind ?_ (fun _ => ?_)
set_option maxHeartbeats 8000000 in
set_option maxRecDepth 100000 in
theorem impl_dayOf.calls (k : Nat) (a0_0 : Int) (a0_1 : Int) (a0_2 : Int) (r : Int) (w : World) (h : impl_dayOf.f k a0_0 a0_1 a0_2 = some r) :
 Calls Tryz.prog 111 #[.agg #[.int .i64 a0_0, .int .i64 a0_1, .int .i64 a0_2]] w fun e w' => e = .returned (.int .i64 r) ∧ Below w.heap.size w w' := by
 have hu133 := Tryz.underlying133
 have HB := Aside0.mk (Below.refl w.heap.size w)
 have H : (impl_dayOf.l0 k (wrap64 ((wrap64 ((wrap64 ((wrap64 (365 * (wrap64 (a0_0 - 1970)))) + (wrap64 (Int.tdiv (wrap64 ((wrap64 (a0_0 - 1970)) + 1)) 4)))) + a0_2)) - 1)) 1 a0_0 a0_1 a0_2) = some r := h
 clear h
 have H' := Aside0.mk H
 clear H
 go_enter Tryz.func111, Tryz.ntmps111
 go_wp2_with (first | ((with_reducible refine gate_dst (N := 1) rfl ?_); refine box_event ?hg (N := 1) ?hd (cs := #[.int .i64 a0_0, .int .i64 a0_1, .int .i64 a0_2]) (t := 133) ?hr ?_; (case hd => rfl); (case hg => rfl); (case hr => first | (go_simp; done) | (go_simp; rfl)); intro gb255 hg w2 hbox hb; have n0_ := Aside0.mk (bs_ hb); have n1_ := Aside0.mk (hbox); have n2_ := Aside0.mk ((by rw [hg]; exact (bz_) : w.heap.size ≤ gb255)); have n3_ := Aside0.mk ((by rw [hg]; exact (bz_) : w.heap.size ≤ gb255)); clear HB; have HB := n0_; have BK255 := n1_; have GW255 := n2_; have GE255 := n3_; clear n0_ n1_ n2_ n3_; clear hb hbox hg; have hcz3_0 := bk BK255 0; have hcz3_1 := bk BK255 1; have hcz3_2 := bk BK255 2; have hfz3_0 := blk_frozen BK255.out 0; have hfz3_1 := blk_frozen BK255.out 1; have hfz3_2 := blk_frozen BK255.out 2))
 go_loopg [4, 5] k (fun kq v4 v5 w' => ∃ (x4_1 : Int) (x5_1 : Int), v4 = .int .i64 x4_1 ∧ v5 = .int .i64 x5_1 ∧ Aside0 (impl_dayOf.l0 kq x4_1 x5_1 a0_0 a0_1 a0_2 = some r) ∧ Aside0 (kq ≤ k) ∧ Aside0 (w'.heap[gb255]? = some (.cells #[.int .i64 a0_0, .int .i64 a0_1, .int .i64 a0_2] 133 (0, 0))) ∧ Aside0 (Below w.heap.size w w'))
 case atStart => exact ⟨(wrap64 ((wrap64 ((wrap64 ((wrap64 (365 * (wrap64 (a0_0 - 1970)))) + (wrap64 (Int.tdiv (wrap64 ((wrap64 (a0_0 - 1970)) + 1)) 4)))) + a0_2)) - 1)), (1), (by first | rfl | (simp; done) | (simp [*]; done)), (by first | rfl | (simp; done) | (simp [*]; done)), H', ⟨Nat.le_refl _⟩, ⟨by (with_reducible repeat (first | refine blk_drewN ?_ _ | refine blk_drew ?_ | refine blk_alloc ?_ _)); exact BK255.out⟩, ⟨bb_⟩⟩
 case round =>
  clear H'
  try clear c1
  try clear p2
  try clear hcz3_0
  try clear hcz3_1
  try clear hcz3_2
  try clear hfz3_0
  try clear hfz3_1
  try clear hfz3_2
  obtain ⟨x4_1, x5_1, rfl, rfl, HA, HK1, BK255, HB⟩ := hrel
  cases gk with
  | zero => exact absurd HA.out (by simp [impl_dayOf.l0])
  | succ k1 =>
   have H := HA.out
   clear HA
   simp only [impl_dayOf.l0] at H
   by_cases c4 : x5_1 < a0_1
   · rw [if_pos c4] at H
     have c4b0 : decide (x5_1 < a0_1) = true := decide_eq_true c4
     clear c4
     replace H := Option.bind_eq_some_iff.mp H
     obtain ⟨t256, A50, H⟩ := H
     replace H : (impl_dayOf.l0 k1 (wrap64 (x4_1 + t256)) (wrap64 (x5_1 + 1)) a0_0 a0_1 a0_2) = some r := H
     have A5 := Aside0.mk A50
     clear A50
     have H' := Aside0.mk H
     clear H
     have hcz6_0 := bk BK255 0
     have hcz6_1 := bk BK255 1
     have hcz6_2 := bk BK255 2
     have hfz6_0 := blk_frozen BK255.out 0
     have hfz6_1 := blk_frozen BK255.out 1
     have hfz6_2 := blk_frozen BK255.out 2
     go_wp2_with (first | ((with_reducible refine gate_callee (f := 151) rfl ?_); refine goesL_ (some 29) rfl rfl Tryz.func151 (by kernel_rfl) rfl #[.int .i64 a0_0, .int .i64 x5_1] rfl (by (try simp only [List.map_toArray, List.map_cons, List.map_nil]); first | done | rfl | (simp only [List.length_drop, List.length_take]; rfl)) ?_; (with_reducible refine (impl_daysIn.calls k1 a0_0 x5_1 t256 _ A5.out).mono ?_); rintro e w' ⟨rfl, ⟨nd, rfl⟩⟩; refine ⟨_, rfl, ?_⟩))
     go_roundg k1
     case measure => have := HK1.out; omega
     case rel => exact ⟨(wrap64 (x4_1 + t256)), (wrap64 (x5_1 + 1)), (by first | rfl | (simp; done) | (simp [*]; done)), (by first | rfl | (simp; done) | (simp [*]; done)), H', ⟨by have := HK1.out; omega⟩, ⟨by (with_reducible repeat (first | refine blk_drewN ?_ _ | refine blk_drew ?_ | refine blk_alloc ?_ _)); exact BK255.out⟩, ⟨bb_⟩⟩
   · rw [if_neg c4] at H
     have c4b0 : decide (x5_1 < a0_1) = false := decide_eq_false c4
     clear c4
     obtain rfl := Option.some.inj H
     have hcz7_0 := bk BK255 0
     have hcz7_1 := bk BK255 1
     have hcz7_2 := bk BK255 2
     have hfz7_0 := blk_frozen BK255.out 0
     have hfz7_1 := blk_frozen BK255.out 1
     have hfz7_2 := blk_frozen BK255.out 2
     go_wp2
     go_ret
     exact ⟨by first | rfl | (simp [errW_none, errW_some] <;> rfl) | (simp [*, errW_none, errW_some] <;> rfl), bb_⟩

/-! ### impl_isDay: function 54 -/
def impl_isDay.f (k : Nat) (a0 : Int) : Option (Bool) := (impl_dayOf.f k 2069 12 31).bind fun t257 => ((impl_in.f a0 0 t257).bind fun t258 => (some t258))
theorem impl_isDay.mono : ∀ a0 k, LeO (impl_isDay.f k a0) (impl_isDay.f (k + 1) a0) := by
 intro a0 k
 unfold impl_isDay.f
 repeat' first
  | (with_reducible exact impl_dayOf.mono _ _ _ _)
  | (with_reducible exact LeO.refl _)
  | (with_reducible exact LeO.none _)
  | (with_reducible refine LeO.ite ?_ ?_)
  | (with_reducible refine LeO.bind ?_ (fun _ => ?_))
  | exact impl_dayOf.mono _ _ _ _
  | exact LeO.none _
  | refine LeO.ite ?_ ?_
  | refine LeO.bind ?_ (fun _ => ?_)
set_option maxHeartbeats 8000000 in
set_option maxRecDepth 100000 in
theorem impl_isDay.calls (k : Nat) (a0 : Int) (r : Bool) (w : World) (h : impl_isDay.f k a0 = some r) :
 Calls Tryz.prog 54 #[.int .i64 a0] w fun e w' => e = .returned (.bool r) ∧ Below w.heap.size w w' := by
 have hu133 := Tryz.underlying133
 have HB := Aside0.mk (Below.refl w.heap.size w)
 have H : ((impl_dayOf.f k 2069 12 31).bind fun t257 => ((impl_in.f a0 0 t257).bind fun t258 => (some t258))) = some r := h
 clear h
 replace H := Option.bind_eq_some_iff.mp H
 obtain ⟨t257, A20, H⟩ := H
 replace H : ((impl_in.f a0 0 t257).bind fun t258 => (some t258)) = some r := H
 have A2 := Aside0.mk A20
 clear A20
 replace H := Option.bind_eq_some_iff.mp H
 obtain ⟨t258, A30, H⟩ := H
 replace H : (some t258) = some r := H
 have A3 := Aside0.mk A30
 clear A30
 obtain rfl := Option.some.inj H
 go_enter Tryz.func54, Tryz.ntmps54
 go_wp2_with (first | ((with_reducible refine gate_callee (f := 111) rfl ?_); refine goesL_ (some 5) rfl rfl Tryz.func111 (by kernel_rfl) rfl #[.agg #[.int .i64 2069, .int .i64 12, .int .i64 31]] rfl (by (try simp only [List.map_toArray, List.map_cons, List.map_nil]); first | done | rfl | (simp only [List.length_drop, List.length_take]; rfl)) ?_; (with_reducible refine (impl_dayOf.calls k 2069 12 31 t257 _ A2.out).mono ?_); rintro e w4 ⟨rfl, hb⟩; refine ⟨_, rfl, ?_⟩; have n0_ := Aside0.mk (bs_ hb); clear HB; have HB := n0_; clear n0_; (try clear hb); (try clear hb2); (try clear hk); (try clear hi)) | ((with_reducible refine gate_callee (f := 110) rfl ?_); refine goesL_ (some 6) rfl rfl Tryz.func110 (by kernel_rfl) rfl #[.int .i64 a0, .int .i64 0, .int .i64 t257] rfl (by (try simp only [List.map_toArray, List.map_cons, List.map_nil]); first | done | rfl | (simp only [List.length_drop, List.length_take]; rfl)) ?_; (with_reducible refine (impl_in.calls a0 0 t257 t258 _ A3.out).mono ?_); rintro e w' ⟨rfl, ⟨nd, rfl⟩⟩; refine ⟨_, rfl, ?_⟩))
 go_ret
 exact ⟨by first | rfl | (simp [errW_none, errW_some] <;> rfl) | (simp [*, errW_none, errW_some] <;> rfl), bb_⟩

/-! ### impl_isEventKind: function 140 -/
def impl_isEventKind.f (a0 : Int) : Option (Bool) := (impl_in.f a0 0 6).bind fun t259 => (some t259)
set_option maxHeartbeats 8000000 in
set_option maxRecDepth 100000 in
theorem impl_isEventKind.calls (a0 : Int) (r : Bool) (w : World) (h : impl_isEventKind.f a0 = some r) :
 Calls Tryz.prog 140 #[.int .i64 a0] w fun e w' => e = .returned (.bool r) ∧ Drawn0 w w' := by
 have H : ((impl_in.f a0 0 6).bind fun t259 => (some t259)) = some r := h
 clear h
 replace H := Option.bind_eq_some_iff.mp H
 obtain ⟨t259, A20, H⟩ := H
 replace H : (some t259) = some r := H
 have A2 := Aside0.mk A20
 clear A20
 obtain rfl := Option.some.inj H
 go_enter Tryz.func140, Tryz.ntmps140
 go_wp2_with (first | ((with_reducible refine gate_callee (f := 110) rfl ?_); refine goesL_ (some 4) rfl rfl Tryz.func110 (by kernel_rfl) rfl #[.int .i64 a0, .int .i64 0, .int .i64 6] rfl (by (try simp only [List.map_toArray, List.map_cons, List.map_nil]); first | done | rfl | (simp only [List.length_drop, List.length_take]; rfl)) ?_; (with_reducible refine (impl_in.calls a0 0 6 t259 _ A2.out).mono ?_); rintro e w' ⟨rfl, ⟨nd, rfl⟩⟩; refine ⟨_, rfl, ?_⟩))
 go_ret
 exact ⟨by first | rfl | (simp; done) | (simp [*]; done), by repeat (first | exact Drawn0.refl _ | apply Drawn0.step)⟩

end Go.Proofs.YtmfbkbbgokjhnaaGreat.F
namespace Go.Proofs.YtmfbkbbgokjhnaaGreat.F
open Go.RowKit Go.Proofs.YtmfbkbbgokjhnaaGreatW.PrintWords Go.Proofs.YtmfbkbbgokjhnaaGreatW.PrintLast Go.Proofs.YtmfbkbbgokjhnaaGreatW.PrintMore
attribute [local go_sem] max2_int min2_int max_two min_two max_three min_three max_four min_four   -- for this text's walks alone
set_option linter.unusedVariables false
set_option linter.unusedSimpArgs false

/-! ### impl_IsEvent: function 98 -/
def impl_IsEvent.f (k : Nat) (a0_0 : Int) (a0_1 : Int) (a0_2 : ByteArray) (a0_3 : Int) (a0_4 : Bool) (a0_5 : Bool) (a0_6 : Bool) : Option (Bool) := (impl_isDay.f k a0_0).bind fun t261 => (if t261 = true then ((impl_isEventKind.f a0_1).bind fun t262 => (if t262 = true then ((impl_IsPartyCode.f k a0_2).bind fun t263 => (if t263 = true then ((impl_IsAmount.f a0_3).bind fun t264 => (some t264)) else (some false))) else (some false))) else (some false))
theorem impl_IsEvent.mono : ∀ a0 a1 a2 a3 a4 a5 a6 k, LeO (impl_IsEvent.f k a0 a1 a2 a3 a4 a5 a6) (impl_IsEvent.f (k + 1) a0 a1 a2 a3 a4 a5 a6) := by
 intro a0 a1 a2 a3 a4 a5 a6 k
 unfold impl_IsEvent.f
 repeat' first
  | (with_reducible exact impl_IsPartyCode.mono _ _)
  | (with_reducible exact impl_isDay.mono _ _)
  | (with_reducible exact LeO.refl _)
  | (with_reducible exact LeO.none _)
  | (with_reducible refine LeO.ite ?_ ?_)
  | (with_reducible refine LeO.bind ?_ (fun _ => ?_))
  | exact impl_IsPartyCode.mono _ _
  | exact impl_isDay.mono _ _
  | exact LeO.none _
  | refine LeO.ite ?_ ?_
  | refine LeO.bind ?_ (fun _ => ?_)
set_option maxHeartbeats 8000000 in
set_option maxRecDepth 100000 in
theorem impl_IsEvent.calls (k : Nat) (a0_0 : Int) (a0_1 : Int) (a0_2 : ByteArray) (a0_3 : Int) (a0_4 : Bool) (a0_5 : Bool) (a0_6 : Bool) (r : Bool) (w : World) (h : impl_IsEvent.f k a0_0 a0_1 a0_2 a0_3 a0_4 a0_5 a0_6 = some r) :
 Calls Tryz.prog 98 #[.agg #[.int .i64 a0_0, .int .i64 a0_1, .string a0_2, .int .i64 a0_3, .bool a0_4, .bool a0_5, .bool a0_6]] w fun e w' => e = .returned (.bool r) ∧ Below w.heap.size w w' := by
 have hu65 := Tryz.underlying65
 have HB := Aside0.mk (Below.refl w.heap.size w)
 have H : ((impl_isDay.f k a0_0).bind fun t261 => (if t261 = true then ((impl_isEventKind.f a0_1).bind fun t262 => (if t262 = true then ((impl_IsPartyCode.f k a0_2).bind fun t263 => (if t263 = true then ((impl_IsAmount.f a0_3).bind fun t264 => (some t264)) else (some false))) else (some false))) else (some false))) = some r := h
 clear h
 replace H := Option.bind_eq_some_iff.mp H
 obtain ⟨t261, A20, H⟩ := H
 replace H : (if t261 = true then ((impl_isEventKind.f a0_1).bind fun t262 => (if t262 = true then ((impl_IsPartyCode.f k a0_2).bind fun t263 => (if t263 = true then ((impl_IsAmount.f a0_3).bind fun t264 => (some t264)) else (some false))) else (some false))) else (some false)) = some r := H
 have A2 := Aside0.mk A20
 clear A20
 by_cases c3 : t261 = true
 subst c3
 have H1 : ((impl_isEventKind.f a0_1).bind fun t262 => (if t262 = true then ((impl_IsPartyCode.f k a0_2).bind fun t263 => (if t263 = true then ((impl_IsAmount.f a0_3).bind fun t264 => (some t264)) else (some false))) else (some false))) = some r := by rw [if_pos rfl] at H; exact H
 clear H
 have H := H1
 clear H1
 replace H := Option.bind_eq_some_iff.mp H
 obtain ⟨t262, A40, H⟩ := H
 replace H : (if t262 = true then ((impl_IsPartyCode.f k a0_2).bind fun t263 => (if t263 = true then ((impl_IsAmount.f a0_3).bind fun t264 => (some t264)) else (some false))) else (some false)) = some r := H
 have A4 := Aside0.mk A40
 clear A40
 by_cases c5 : t262 = true
 subst c5
 have H1 : ((impl_IsPartyCode.f k a0_2).bind fun t263 => (if t263 = true then ((impl_IsAmount.f a0_3).bind fun t264 => (some t264)) else (some false))) = some r := by rw [if_pos rfl] at H; exact H
 clear H
 have H := H1
 clear H1
 replace H := Option.bind_eq_some_iff.mp H
 obtain ⟨t263, A60, H⟩ := H
 replace H : (if t263 = true then ((impl_IsAmount.f a0_3).bind fun t264 => (some t264)) else (some false)) = some r := H
 have A6 := Aside0.mk A60
 clear A60
 by_cases c7 : t263 = true
 subst c7
 have H1 : ((impl_IsAmount.f a0_3).bind fun t264 => (some t264)) = some r := by rw [if_pos rfl] at H; exact H
 clear H
 have H := H1
 clear H1
 replace H := Option.bind_eq_some_iff.mp H
 obtain ⟨t264, A80, H⟩ := H
 replace H : (some t264) = some r := H
 have A8 := Aside0.mk A80
 clear A80
 obtain rfl := Option.some.inj H
 rotate_left
 replace c7 := Bool.eq_false_iff.mpr c7
 subst c7
 have H1 : (some false) = some r := by rw [if_neg (show ¬ (false = true) by decide)] at H; exact H
 clear H
 have H := H1
 clear H1
 obtain rfl := Option.some.inj H
 rotate_left
 replace c5 := Bool.eq_false_iff.mpr c5
 subst c5
 have H1 : (some false) = some r := by rw [if_neg (show ¬ (false = true) by decide)] at H; exact H
 clear H
 have H := H1
 clear H1
 obtain rfl := Option.some.inj H
 rotate_left
 replace c3 := Bool.eq_false_iff.mpr c3
 subst c3
 have H1 : (some false) = some r := by rw [if_neg (show ¬ (false = true) by decide)] at H; exact H
 clear H
 have H := H1
 clear H1
 obtain rfl := Option.some.inj H
 rotate_left
 all_goals
  go_enter Tryz.func98, Tryz.ntmps98
  go_wp2_with (first | ((with_reducible refine gate_dst (N := 1) rfl ?_); refine box_event ?hg (N := 1) ?hd (cs := #[.int .i64 a0_0, .int .i64 a0_1, .string a0_2, .int .i64 a0_3, .bool a0_4, .bool a0_5, .bool a0_6]) (t := 65) ?hr ?_; (case hd => rfl); (case hg => rfl); (case hr => first | (go_simp; done) | (go_simp; rfl)); intro gb260 hg w9 hbox hb; have n0_ := Aside0.mk (bs_ hb); have n1_ := Aside0.mk (hbox); have n2_ := Aside0.mk ((by rw [hg]; exact (bz_) : w.heap.size ≤ gb260)); have n3_ := Aside0.mk ((by rw [hg]; exact (bz_) : w.heap.size ≤ gb260)); clear HB; have HB := n0_; have BK260 := n1_; have GW260 := n2_; have GE260 := n3_; clear n0_ n1_ n2_ n3_; clear hb hbox hg; have hcz10_0 := bk BK260 0; have hcz10_1 := bk BK260 1; have hcz10_2 := bk BK260 2; have hcz10_3 := bk BK260 3; have hcz10_4 := bk BK260 4; have hcz10_5 := bk BK260 5; have hcz10_6 := bk BK260 6; have hfz10_0 := blk_frozen BK260.out 0; have hfz10_1 := blk_frozen BK260.out 1; have hfz10_2 := blk_frozen BK260.out 2; have hfz10_3 := blk_frozen BK260.out 3; have hfz10_4 := blk_frozen BK260.out 4; have hfz10_5 := blk_frozen BK260.out 5; have hfz10_6 := blk_frozen BK260.out 6) | ((with_reducible refine gate_callee (f := 54) rfl ?_); refine goesL_ (some 5) rfl rfl Tryz.func54 (by kernel_rfl) rfl #[.int .i64 a0_0] rfl (by (try simp only [List.map_toArray, List.map_cons, List.map_nil]); first | done | rfl | (simp only [List.length_drop, List.length_take]; rfl)) ?_; (with_reducible refine (impl_isDay.calls k a0_0 _ _ A2.out).mono ?_); rintro e w11 ⟨rfl, hb⟩; refine ⟨_, rfl, ?_⟩; have n0_ := Aside0.mk (blk_below (g := gb260) (o := .cells #[.int .i64 a0_0, .int .i64 a0_1, .string a0_2, .int .i64 a0_3, .bool a0_4, .bool a0_5, .bool a0_6] 65 (0, 0)) (by (with_reducible repeat (first | refine blk_drewN ?_ _ | refine blk_drew ?_ | refine blk_alloc ?_ _)); exact BK260.out) hb); have n1_ := Aside0.mk (bs_ hb); clear BK260; clear HB; have BK260 := n0_; have HB := n1_; clear n0_ n1_; (try clear hb); (try clear hb2); (try clear hk); (try clear hi); have hcz12_0 := bk BK260 0; have hcz12_1 := bk BK260 1; have hcz12_2 := bk BK260 2; have hcz12_3 := bk BK260 3; have hcz12_4 := bk BK260 4; have hcz12_5 := bk BK260 5; have hcz12_6 := bk BK260 6; have hfz12_0 := blk_frozen BK260.out 0; have hfz12_1 := blk_frozen BK260.out 1; have hfz12_2 := blk_frozen BK260.out 2; have hfz12_3 := blk_frozen BK260.out 3; have hfz12_4 := blk_frozen BK260.out 4; have hfz12_5 := blk_frozen BK260.out 5; have hfz12_6 := blk_frozen BK260.out 6) | (go_at_call 140; (with_reducible refine (impl_isEventKind.calls a0_1 _ _ A4.out).mono ?_); rintro e w' ⟨rfl, ⟨nd, rfl⟩⟩) | (go_at_call 138; (with_reducible refine (impl_IsPartyCode.calls k a0_2 _ _ A6.out).mono ?_); rintro e w' ⟨rfl, ⟨nd, rfl⟩⟩) | (go_at_call 129; (with_reducible refine (impl_IsAmount.calls a0_3 t264 _ A8.out).mono ?_); rintro e w' ⟨rfl, ⟨nd, rfl⟩⟩))
  go_ret
  exact ⟨by first | rfl | (simp [errW_none, errW_some] <;> rfl) | (simp [*, errW_none, errW_some] <;> rfl), bb_⟩

end Go.Proofs.YtmfbkbbgokjhnaaGreat.F
