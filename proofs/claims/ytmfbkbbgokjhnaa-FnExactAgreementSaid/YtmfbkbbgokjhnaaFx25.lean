-- Written by this session's program (wip/bin/hp.py) over the kit's print: a function's Lean form, and a proof that the call does what it says.
import Derived.Test.YtmfbkbbgokjhnaaFx0
import Derived.Test.YtmfbkbbgokjhnaaSq
import Derived.Test.YtmfbkbbgokjhnaaFx18
import Derived.Test.YtmfbkbbgokjhnaaFx21
import Derived.Test.YtmfbkbbgokjhnaaFx23
namespace Go.Proofs.Ytmfbkbbgokjhnaa.F
open Go.RowKit Go.Proofs.YtmfbkbbgokjhnaaW.PrintWords Go.Proofs.YtmfbkbbgokjhnaaW.PrintLast Go.Proofs.YtmfbkbbgokjhnaaW.PrintMore
attribute [local go_sem] max2_int min2_int max_two min_two max_three min_three max_four min_four   -- for this text's walks alone
set_option linter.unusedVariables false
set_option linter.unusedSimpArgs false

/-! ### impl_Agreement: function 36 -/
theorem rd_at_Ev (l : List S43) (i : Nat) (h : i < l.length) : rd_T43 l (i : Int) = l[i] := by
 simp [rd_T43, List.getD_eq_getElem?_getD, h]
def val_Ev (x : S43) : Value := .agg #[.int .i64 x.f0, .int .i64 x.f1, .string x.f2, .int .i64 x.f3, .bool x.f4, .bool x.f5, .bool x.f6]
theorem infoI64 : (Try.prog.info? 2).map (fun i => (i.zero, i.size, i.bytes)) = some (some (.int .i64 0), 1, 8) := by kernel_rfl
set_option maxHeartbeats 4000000 in
set_option maxRecDepth 100000 in
theorem indices_Ev.calls (g : Nat) (lb : Array Value) (p : S43 → Bool) (A0 : Option Addr) (c0 : Nat) (l0 : List S43) (w : World) (hr0 : Kd.C k43 w A0 l0.length l0) (hc0 : l0.length ≤ c0) (hfew : l0.length ≤ 1000000)
 (eg : ∀ args w, (callFunc g args).run Try.prog w = .ok (.enter g args) w) (hp : FnP Try.prog val_Ev g lb p l0 w) :
 Calls Try.prog 73 #[.slice A0 l0.length c0, .func (.func g) #[] lb] w fun e w' => ∃ v0 : Value, e = .returned v0 ∧ ∃ xs : List Int, Kd.R (Kd.int .i64) 2 w' w.heap.size (fun _ => True) v0 xs ∧ xs.length = l0.countP p ∧ Below w.heap.size w w' := by
 have hu := Try.underlying43
 have hbig : l0.length ≤ 9223372036854775807 := hr0.2.1
 have HR0 := Aside0.mk hr0
 have HP := Aside0.mk hp
 clear hr0 hc0 hp
 go_enter Try.func73, Try.ntmps73
 go_wp2_with ((with_reducible refine gate_dst (N := 8) rfl ?_); refine Kd.R_lit (Kd.int .i64) _ 2 ?hg (N := 8) ?hd (xs := ([] : List Int)) (inner := []) (ok := fun _ => True) (okp := fun _ => True) ?hr ?hp (fun _ hk => hk) trivial (Below.refl _ _) (Nat.le_refl _) (by simp) ?_; (case hd => rfl); (case hg => rfl); (case hr => first | (go_simp; done) | (go_simp; rfl)); (case hp => exact (Reps.none _ _)); intro v1 w1 ho5 hb hg_ hnew_; clear hg_ hnew_; have HO := Aside0.mk ho5; have HB := Aside0.mk hb; clear ho5 hb)
 go_loopg [5, 11] l0.length (fun gg v5 s11 wr => ∃ (kk : Nat) (xs : List Int), kk ≤ l0.length ∧ l0.length - kk ≤ gg ∧ s11 = .int .i64 kk ∧ Aside0 (xs.length = (l0.take kk).countP p) ∧ Aside0 (Kd.R (Kd.int .i64) 2 wr w.heap.size (fun _ => True) v5 xs) ∧ Aside0 (Below w.heap.size w wr))
 case atStart => exact ⟨0, [], Nat.zero_le _, by omega, rfl, ⟨by simp⟩, HO, HB⟩
 case round =>
  clear HO HB
  obtain ⟨kk, xs, hkk, hg, rfl, LN, HO, HB⟩ := hrel
  by_cases hlt : kk < l0.length
  · have hltz : (kk : Int) < (l0.length : Int) := by omega
    have o2 := at_T43 HR0.out (kk : Int) (by omega) (by omega)
    rw [rd_at_Ev l0 kk hlt, Int.toNat_natCast] at o2
    have STEP := Aside0.mk (show (l0.take (kk + 1)).countP p = (l0.take kk).countP p + if p l0[kk] = true then 1 else 0 by
     rw [List.take_succ_eq_append_getElem hlt, List.countP_append, List.countP_singleton])
    have LE := Aside0.mk (show xs.length ≤ kk by
     rw [LN.out]
     have h1 := List.countP_le_length (p := p) (l := l0.take kk)
     have h2 : (l0.take kk).length ≤ kk := by rw [List.length_take]; omega
     omega)
    have hcall := Aside0.mk (fun (W : World) (hW : Below w.heap.size w W) => HP.out W l0[kk] (List.getElem_mem hlt) hW)
    generalize l0[kk] = y at o2 STEP hcall
    obtain ⟨f0, f1, f2, f3, f4, f5, f6⟩ := y
    unfold val_Ev at hcall
    simp only at o2 hcall
    obtain ⟨ad, e_ad, hx0, hx1, hx2, hx3, hx4, hx5, hx6⟩ := o2
    cases e_ad
    replace hx0 := cel HB hx0
    replace hx1 := cel HB hx1
    replace hx2 := cel HB hx2
    replace hx3 := cel HB hx3
    replace hx4 := cel HB hx4
    replace hx5 := cel HB hx5
    replace hx6 := cel HB hx6
    have BA := Aside0.mk (below_alloc HB.out (.cells #[.int .i64 f0, .int .i64 f1, .string f2, .int .i64 f3, .bool f4, .bool f5, .bool f6] 43))
    have HA := Aside0.mk (Kd.R_alloc HO.out (.cells #[.int .i64 f0, .int .i64 f1, .string f2, .int .i64 f3, .bool f4, .bool f5, .bool f6] 43))
    cases hq : p ⟨f0, f1, f2, f3, f4, f5, f6⟩ with
    | true =>
     rw [hq] at hcall STEP
     clear hq
     go_wp2_with (first | (go_at_fn g; refine (hcall.out _ BA.out).mono ?_; rintro e w2 ⟨rfl, hb'⟩; have HO2 := Aside0.mk (Kd.R_below HA.out hb'); have B2 := Aside0.mk (below_then BA.out BA.out.size hb'); clear hb') | ((with_reducible refine gate_builtin (b := .append) (xs := #[.tmp 19, .tmp 21]) rfl ?_); at_builtin; refine Kd.R_append (Kd.int .i64) (w0 := w) w.heap.size rfl (.tmp 19) (.tmp 21) 69 2 (.int .i64 0) 8 rfl Try.underlying69 infoI64 rfl (by decide) (by omega) u5 xs (kk : Int) [.int .i64 (kk : Int)] (fun _ => True) (fun _ => False) rfl rfl ?aP (fun _ hk => hk.elim) ?aF ?aO ?aB ?aS ?aL ?_; (case aP => exact rfl); (case aB => exact B2.out); (case aF => exact (fun _ _ => trivial)); (case aO => exact HO2.out); (case aS => exact B2.out.size); (case aL => have := LE.out; omega); intro v9 w9 ho hb hg_ hat; have HO3 := Aside0.mk ho; have B3 := Aside0.mk hb; clear ho hb hg_ hat))
     go_roundg (l0.length - (kk + 1))
     case measure => omega
     case rel => exact ⟨kk + 1, xs ++ [(kk : Int)], by omega, by omega, by go_num, ⟨by rw [STEP.out, List.length_append, LN.out]; rfl⟩, HO3, B3⟩
    | false =>
     rw [hq] at hcall STEP
     clear hq
     go_wp2_with (go_at_fn g; refine (hcall.out _ BA.out).mono ?_; rintro e w2 ⟨rfl, hb'⟩; have HO2 := Aside0.mk (Kd.R_below HA.out hb'); have B2 := Aside0.mk (below_then BA.out BA.out.size hb'); clear hb')
     go_roundg (l0.length - (kk + 1))
     case measure => omega
     case rel => exact ⟨kk + 1, xs, by omega, by omega, by go_num, ⟨by rw [STEP.out, LN.out]; rfl⟩, HO2, B2⟩
  · have hltz : ¬ (kk : Int) < (l0.length : Int) := by omega
    have FIN := Aside0.mk (show xs.length = l0.countP p by rw [LN.out, List.take_of_length_le (by omega)])
    go_wp2
    go_ret
    exact ⟨_, rfl, xs, HO.out, FIN.out, HB.out⟩
/-- What two rulebooks answer to an event. -/
def agreeB (k : Nat) (a b : List S94) (e : S43) : Bool := ((impl_decide.f k a e.f0 e.f1 e.f2 e.f3 e.f4 e.f5 e.f6).map (·.1)) == ((impl_decide.f k b e.f0 e.f1 e.f2 e.f3 e.f4 e.f5 e.f6).map (·.1))
def agreeAt (k : Nat) (a b : List S94) (log : List S43) : Bool := log.all fun e => (impl_decide.f k a e.f0 e.f1 e.f2 e.f3 e.f4 e.f5 e.f6).isSome && (impl_decide.f k b e.f0 e.f1 e.f2 e.f3 e.f4 e.f5 e.f6).isSome
set_option maxHeartbeats 4000000 in
set_option maxRecDepth 100000 in
attribute [local go_sem] Instr.field asAgg in
theorem Agreement_1.calls (k : Nat) (Ba Bb : Nat) (A0 : Option Addr) (c0 : Nat) (l0 : List S94) (A1 : Option Addr) (c1 : Nat) (l1 : List S94) (x : S43) (ra rb : Int) (ta tb : List ByteArray) (w : World) (hr0 : Kd.C k94 w A0 l0.length l0) (hc0 : l0.length ≤ c0) (hr1 : Kd.C k94 w A1 l1.length l1) (hc1 : l1.length ≤ c1) (ha : w.cell? ⟨Ba, 0, none⟩ = some (.slice A0 l0.length c0)) (hb : w.cell? ⟨Bb, 0, none⟩ = some (.slice A1 l1.length c1)) (ea : impl_decide.f k l0 x.f0 x.f1 x.f2 x.f3 x.f4 x.f5 x.f6 = some (ra, ta)) (eb : impl_decide.f k l1 x.f0 x.f1 x.f2 x.f3 x.f4 x.f5 x.f6 = some (rb, tb)) :
 Calls Try.prog 74 #[val_Ev x, .pointer (some ⟨Ba, 0, none⟩), .pointer (some ⟨Bb, 0, none⟩)] w fun e w' => e = .returned (.bool (ra == rb)) ∧ Below w.heap.size w w' := by
 have hu := Try.underlying43
 have hu2 := Try.underlying45
 obtain ⟨f0, f1, f2, f3, f4, f5, f6⟩ := x
 unfold val_Ev
 simp only at ea eb
 have B0 := Aside0.mk (below_alloc (Below.refl w.heap.size w) (.cells #[.int .i64 f0, .int .i64 f1, .string f2, .int .i64 f3, .bool f4, .bool f5, .bool f6] 43))
 have K0 := Aside0.mk (blk_new w (.cells #[.int .i64 f0, .int .i64 f1, .string f2, .int .i64 f3, .bool f4, .bool f5, .bool f6] 43))
 have hn0 : w.heap.size < (w.alloc (.cells #[.int .i64 f0, .int .i64 f1, .string f2, .int .i64 f3, .bool f4, .bool f5, .bool f6] 43)).heap.size := by simp
 have Ha := Aside0.mk (cel B0 ha)
 have Hb := Aside0.mk (cel B0 hb)
 have HCa := Aside0.mk (Kd.C_below hr0 B0.out)
 have HCb := Aside0.mk (Kd.C_below hr1 B0.out)
 clear ha hb hr0 hr1
 go_enter Try.func74, Try.ntmps74
 go_upto_region 1 with fail
 generalize hw1 : w.alloc (.cells #[.int .i64 f0, .int .i64 f1, .string f2, .int .i64 f3, .bool f4, .bool f5, .bool f6] 43) = w1 at B0 K0 hn0 Ha Hb HCa HCb ⊢
 generalize hn : w.heap.size = n0 at K0 hn0 ⊢
 have KEEP : ∀ w', Below w1.heap.size w1 w' → Below w1.heap.size w1 w' ∧ w'.cell? ⟨Ba, 0, none⟩ = some (.slice A0 l0.length c0) ∧ w'.cell? ⟨Bb, 0, none⟩ = some (.slice A1 l1.length c1) ∧ w'.cell? ⟨n0, 0, none⟩ = some (.int .i64 f0) ∧ w'.cell? ⟨n0, 1, none⟩ = some (.int .i64 f1) ∧ w'.cell? ⟨n0, 2, none⟩ = some (.string f2) ∧ w'.cell? ⟨n0, 3, none⟩ = some (.int .i64 f3) ∧ w'.cell? ⟨n0, 4, none⟩ = some (.bool f4) ∧ w'.cell? ⟨n0, 5, none⟩ = some (.bool f5) ∧ w'.cell? ⟨n0, 6, none⟩ = some (.bool f6) := fun w' hb => ⟨hb, (hb.cell (World.block_lt_of_cell? w1 _ Ha.out)).trans Ha.out, (hb.cell (World.block_lt_of_cell? w1 _ Hb.out)).trans Hb.out, (blk_cell (blk_below K0.out hb) 0).trans rfl, (blk_cell (blk_below K0.out hb) 1).trans rfl, (blk_cell (blk_below K0.out hb) 2).trans rfl, (blk_cell (blk_below K0.out hb) 3).trans rfl, (blk_cell (blk_below K0.out hb) 4).trans rfl, (blk_cell (blk_below K0.out hb) 5).trans rfl, (blk_cell (blk_below K0.out hb) 6).trans rfl⟩
 have HDa := Aside0.mk (show ∀ W : World, Below w1.heap.size w1 W ∧ W.cell? ⟨Ba, 0, none⟩ = some (.slice A0 l0.length c0) ∧ W.cell? ⟨Bb, 0, none⟩ = some (.slice A1 l1.length c1) ∧ W.cell? ⟨n0, 0, none⟩ = some (.int .i64 f0) ∧ W.cell? ⟨n0, 1, none⟩ = some (.int .i64 f1) ∧ W.cell? ⟨n0, 2, none⟩ = some (.string f2) ∧ W.cell? ⟨n0, 3, none⟩ = some (.int .i64 f3) ∧ W.cell? ⟨n0, 4, none⟩ = some (.bool f4) ∧ W.cell? ⟨n0, 5, none⟩ = some (.bool f5) ∧ W.cell? ⟨n0, 6, none⟩ = some (.bool f6) → Calls Try.prog 75 #[.slice A0 l0.length c0, .agg #[.int .i64 f0, .int .i64 f1, .string f2, .int .i64 f3, .bool f4, .bool f5, .bool f6]] W fun e w' => ∃ v, e = .returned (.agg #[.int .i64 ra, v]) ∧ Below w1.heap.size w1 w' ∧ w'.cell? ⟨Ba, 0, none⟩ = some (.slice A0 l0.length c0) ∧ w'.cell? ⟨Bb, 0, none⟩ = some (.slice A1 l1.length c1) ∧ w'.cell? ⟨n0, 0, none⟩ = some (.int .i64 f0) ∧ w'.cell? ⟨n0, 1, none⟩ = some (.int .i64 f1) ∧ w'.cell? ⟨n0, 2, none⟩ = some (.string f2) ∧ w'.cell? ⟨n0, 3, none⟩ = some (.int .i64 f3) ∧ w'.cell? ⟨n0, 4, none⟩ = some (.bool f4) ∧ w'.cell? ⟨n0, 5, none⟩ = some (.bool f5) ∧ w'.cell? ⟨n0, 6, none⟩ = some (.bool f6) from fun W hW => (impl_decide.calls k A0 c0 l0 f0 f1 f2 f3 f4 f5 f6 ra ta W (Kd.C_below HCa.out hW.1) hc0 ea).mono fun e w' ⟨v, he, _, hb⟩ => ⟨v, he, KEEP w' (below_then hW.1 hW.1.size hb)⟩)
 have HDb := Aside0.mk (show ∀ W : World, Below w1.heap.size w1 W ∧ W.cell? ⟨Ba, 0, none⟩ = some (.slice A0 l0.length c0) ∧ W.cell? ⟨Bb, 0, none⟩ = some (.slice A1 l1.length c1) ∧ W.cell? ⟨n0, 0, none⟩ = some (.int .i64 f0) ∧ W.cell? ⟨n0, 1, none⟩ = some (.int .i64 f1) ∧ W.cell? ⟨n0, 2, none⟩ = some (.string f2) ∧ W.cell? ⟨n0, 3, none⟩ = some (.int .i64 f3) ∧ W.cell? ⟨n0, 4, none⟩ = some (.bool f4) ∧ W.cell? ⟨n0, 5, none⟩ = some (.bool f5) ∧ W.cell? ⟨n0, 6, none⟩ = some (.bool f6) → Calls Try.prog 75 #[.slice A1 l1.length c1, .agg #[.int .i64 f0, .int .i64 f1, .string f2, .int .i64 f3, .bool f4, .bool f5, .bool f6]] W fun e w' => ∃ v, e = .returned (.agg #[.int .i64 rb, v]) ∧ Below w1.heap.size w1 w' ∧ w'.cell? ⟨Ba, 0, none⟩ = some (.slice A0 l0.length c0) ∧ w'.cell? ⟨Bb, 0, none⟩ = some (.slice A1 l1.length c1) ∧ w'.cell? ⟨n0, 0, none⟩ = some (.int .i64 f0) ∧ w'.cell? ⟨n0, 1, none⟩ = some (.int .i64 f1) ∧ w'.cell? ⟨n0, 2, none⟩ = some (.string f2) ∧ w'.cell? ⟨n0, 3, none⟩ = some (.int .i64 f3) ∧ w'.cell? ⟨n0, 4, none⟩ = some (.bool f4) ∧ w'.cell? ⟨n0, 5, none⟩ = some (.bool f5) ∧ w'.cell? ⟨n0, 6, none⟩ = some (.bool f6) from fun W hW => (impl_decide.calls k A1 c1 l1 f0 f1 f2 f3 f4 f5 f6 rb tb W (Kd.C_below HCb.out hW.1) hc1 eb).mono fun e w' ⟨v, he, _, hb⟩ => ⟨v, he, KEEP w' (below_then hW.1 hW.1.size hb)⟩)
 have S0 := Aside0.mk (KEEP w1.drew (below_drew (Below.refl _ _)))
 clear KEEP ea eb HCa HCb Ha Hb K0 hn0 hw1 hn
 refine start_ (n := 10) (S := fun w' => Below w1.heap.size w1 w' ∧ w'.cell? ⟨Ba, 0, none⟩ = some (.slice A0 l0.length c0) ∧ w'.cell? ⟨Bb, 0, none⟩ = some (.slice A1 l1.length c1) ∧ w'.cell? ⟨n0, 0, none⟩ = some (.int .i64 f0) ∧ w'.cell? ⟨n0, 1, none⟩ = some (.int .i64 f1) ∧ w'.cell? ⟨n0, 2, none⟩ = some (.string f2) ∧ w'.cell? ⟨n0, 3, none⟩ = some (.int .i64 f3) ∧ w'.cell? ⟨n0, 4, none⟩ = some (.bool f4) ∧ w'.cell? ⟨n0, 5, none⟩ = some (.bool f5) ∧ w'.cell? ⟨n0, 6, none⟩ = some (.bool f6)) (ds := []) (fb 10 0) (by kernel_rfl) rfl rfl ⟨S0.out.1, S0.out.2.1, S0.out.2.2.1, S0.out.2.2.2.1, S0.out.2.2.2.2.1, S0.out.2.2.2.2.2.1, S0.out.2.2.2.2.2.2.1, S0.out.2.2.2.2.2.2.2.1, S0.out.2.2.2.2.2.2.2.2.1, S0.out.2.2.2.2.2.2.2.2.2⟩ (fun hHeld => ?_)
 refine sqT_ 0 5 (fb 10 1) (by kernel_rfl) hHeld ?_
 refine sqT_ 1 6 (fb 10 3) (by kernel_rfl) hHeld ?_
 refine sqT_ 4 9 (fb 10 19) (by kernel_rfl) hHeld ?_
 refine sqT_ 5 10 (fb 10 51) (by kernel_rfl) hHeld ?_
 refine one_ (i := 2) (N := some 7) (fb 10 55) rfl rfl (by kernel_rfl) (by decide) (fun K hK => ?_)
 refine goes_ Try.func75 (by kernel_rfl) rfl #[.slice A0 l0.length c0, .agg #[.int .i64 f0, .int .i64 f1, .string f2, .int .i64 f3, .bool f4, .bool f5, .bool f6]] (by rfl) rfl rfl (by simp only [List.map_toArray, List.map_cons, List.map_nil]; rfl) ?_
 with_reducible refine (HDa.out _ (by assumption)).mono ?_
 rintro e w3 ⟨v1, rfl, hb, g0, g1, g2, g3, g4, g5, g6, g7, g8⟩
 refine ⟨_, rfl, ?_⟩
 refine hK.out _ _ ⟨hb, g0, g1, g2, g3, g4, g5, g6, g7, g8⟩ (fun hHeld => ?_)
 clear hK K
 refine sqN_ 7 ?_
 refine sqP_ 3 8 (fb 10 63) (by kernel_rfl) ?_
 refine one_ (i := 6) (N := some 11) (fb 10 127) rfl rfl (by kernel_rfl) (by decide) (fun K hK => ?_)
 refine goes_ Try.func75 (by kernel_rfl) rfl #[.slice A1 l1.length c1, .agg #[.int .i64 f0, .int .i64 f1, .string f2, .int .i64 f3, .bool f4, .bool f5, .bool f6]] (by rfl) rfl rfl (by simp only [List.map_toArray, List.map_cons, List.map_nil]; rfl) ?_
 with_reducible refine (HDb.out _ (by assumption)).mono ?_
 rintro e w3 ⟨v1, rfl, hb, g0, g1, g2, g3, g4, g5, g6, g7, g8⟩
 refine ⟨_, rfl, ?_⟩
 refine hK.out _ _ ⟨hb, g0, g1, g2, g3, g4, g5, g6, g7, g8⟩ (fun hHeld => ?_)
 clear hK K
 refine sqN_ 11 ?_
 refine sqP_ 7 12 (fb 10 255) (by kernel_rfl) ?_
 refine sqP_ 8 13 (fb 10 511) (by kernel_rfl) ?_
 refine sqP_ 9 4 (fb 10 1023) (by kernel_rfl) ?_
 refine done_ (by kernel_rfl) ?_
 have BE := Aside0.mk hHeld.1
 clear hHeld
 go_wp2
 go_ret
 exact ⟨rfl, below_then B0.out B0.out.size BE.out⟩
def impl_Agreement.f (k : Nat) (l0 l1 : List S94) (l2 : List S43) : Option (Int × Int) :=
 (impl_IsRulebook.f k l0).bind fun t0 => if t0 = true then ((impl_IsRulebook.f k l1).bind fun t1 => if t1 = true then ((impl_IsLog.f k l2).bind fun t2 => if t2 = true then (if l2.length ≤ 1000000 ∧ agreeAt k l0 l1 l2 = true then some (((l2.countP (agreeB k l0 l1) : Nat) : Int), 0) else none) else some (0, 1)) else some (0, 1)) else some (0, 1)
theorem agree_mono (k : Nat) (a b : List S94) (log : List S43) (h : agreeAt k a b log = true) : agreeAt (k + 1) a b log = true ∧ log.countP (agreeB (k + 1) a b) = log.countP (agreeB k a b) := by
 unfold agreeAt at h ⊢
 rw [List.all_eq_true] at h
 have key : ∀ e ∈ log, impl_decide.f (k + 1) a e.f0 e.f1 e.f2 e.f3 e.f4 e.f5 e.f6 = impl_decide.f k a e.f0 e.f1 e.f2 e.f3 e.f4 e.f5 e.f6 ∧ impl_decide.f (k + 1) b e.f0 e.f1 e.f2 e.f3 e.f4 e.f5 e.f6 = impl_decide.f k b e.f0 e.f1 e.f2 e.f3 e.f4 e.f5 e.f6 := by
  intro e he
  have := h e he
  rw [Bool.and_eq_true] at this
  obtain ⟨x, hx⟩ := Option.isSome_iff_exists.1 this.1
  obtain ⟨y, hy⟩ := Option.isSome_iff_exists.1 this.2
  exact ⟨by rw [hx]; exact impl_decide.mono _ _ _ _ _ _ _ _ k _ hx, by rw [hy]; exact impl_decide.mono _ _ _ _ _ _ _ _ k _ hy⟩
 refine ⟨?_, ?_⟩
 · rw [List.all_eq_true]
   intro e he
   rw [(key e he).1, (key e he).2]
   exact h e he
 · apply List.countP_congr
   intro e he
   unfold agreeB
   rw [(key e he).1, (key e he).2]
theorem impl_Agreement.mono : ∀ a0 a1 a2 k, LeO (impl_Agreement.f k a0 a1 a2) (impl_Agreement.f (k + 1) a0 a1 a2) := by
 intro a0 a1 a2 k
 unfold impl_Agreement.f
 refine LeO.bind (impl_IsRulebook.mono _ _) fun _ => LeO.ite (LeO.bind (impl_IsRulebook.mono _ _) fun _ => LeO.ite (LeO.bind (impl_IsLog.mono _ _) fun _ => LeO.ite ?_ (LeO.refl _)) (LeO.refl _)) (LeO.refl _)
 intro r h
 by_cases hc : a2.length ≤ 1000000 ∧ agreeAt k a0 a1 a2 = true
 · rw [if_pos hc] at h
   obtain ⟨h1, h2⟩ := agree_mono k a0 a1 a2 hc.2
   rw [if_pos ⟨hc.1, h1⟩, h2]
   exact h
 · rw [if_neg hc] at h; cases h
set_option maxHeartbeats 8000000 in
set_option maxRecDepth 100000 in
theorem impl_Agreement.calls (k : Nat) (A0 : Option Addr) (c0 : Nat) (l0 : List S94) (A1 : Option Addr) (c1 : Nat) (l1 : List S94) (A2 : Option Addr) (c2 : Nat) (l2 : List S43) (r1 : Int) (r2 : Int) (w : World) (hr0 : Kd.C k94 w A0 l0.length l0) (hc0 : l0.length ≤ c0) (hr1 : Kd.C k94 w A1 l1.length l1) (hc1 : l1.length ≤ c1) (hr2 : Kd.C k43 w A2 l2.length l2) (hc2 : l2.length ≤ c2) (h : impl_Agreement.f k l0 l1 l2 = some (r1, r2)) :
 Calls Try.prog 36 #[.slice A0 l0.length c0, .slice A1 l1.length c1, .slice A2 l2.length c2] w fun e w' => e = .returned (.tuple #[.int .i64 r1, .int .i64 r2]) ∧ Below w.heap.size w w' := by
 have hbig0 : l0.length ≤ 9223372036854775807 := hr0.2.1
 have hbig1 : l1.length ≤ 9223372036854775807 := hr1.2.1
 have hbig2 : l2.length ≤ 9223372036854775807 := hr2.2.1
 have HB0 := Aside0.mk (below_alloc (below_alloc (Below.refl w.heap.size w) (.cells #[.slice A0 l0.length c0] 41)) (.cells #[.slice A1 l1.length c1] 41))
 have KA0 := Aside0.mk (blk_alloc (blk_new w (.cells #[.slice A0 l0.length c0] 41)) (.cells #[.slice A1 l1.length c1] 41))
 have KB0 := Aside0.mk (blk_new (w.alloc (.cells #[.slice A0 l0.length c0] 41)) (.cells #[.slice A1 l1.length c1] 41))
 have hsz : (w.alloc (.cells #[.slice A0 l0.length c0] 41)).heap.size = w.heap.size + 1 := by simp
 rw [hsz] at KB0
 clear hsz
 unfold impl_Agreement.f at h
 rcases e0 : impl_IsRulebook.f k l0 with _ | t0
 · rw [e0] at h; cases h
 rw [e0, Option.bind_some] at h
 have H0 := Aside0.mk (fun (W : World) (hW : Below w.heap.size w W) => impl_IsRulebook.calls k A0 c0 l0 t0 W (Kd.C_below hr0 hW) hc0 e0)
 clear e0
 cases t0 with
 | false =>
  rw [if_neg (by simp)] at h
  simp only [Option.some.injEq, Prod.mk.injEq] at h
  obtain ⟨rfl, rfl⟩ := h
  clear hr0 hc0 hr1 hc1 hr2 hc2
  go_enter Try.func36, Try.ntmps36
  go_wp2_with (first | (go_at_call_of 66 (Value.slice A0 l0.length c0); refine (H0.out _ (by first | exact HB0.out | exact below_drew HB0.out)).mono ?_; rintro e w1 ⟨rfl, hb⟩; have KA1 := Aside0.mk (blk_below (by first | exact KA0.out | exact blk_drew KA0.out) (by first | exact hb | exact hb.below)); have KB1 := Aside0.mk (blk_below (by first | exact KB0.out | exact blk_drew KB0.out) (by first | exact hb | exact hb.below)); have HB1 := Aside0.mk (below_then (show Below w.heap.size w _ by first | exact HB0.out | exact below_drew HB0.out) (by first | exact HB0.out.size | exact (below_drew HB0.out).size) (by first | exact hb | exact hb.below)); clear hb))
  go_ret2
  exact ⟨by first | rfl | simp, HB1.out⟩
 | true =>
 rw [if_pos rfl] at h
 rcases e1 : impl_IsRulebook.f k l1 with _ | t1
 · rw [e1] at h; cases h
 rw [e1, Option.bind_some] at h
 have H1 := Aside0.mk (fun (W : World) (hW : Below w.heap.size w W) => impl_IsRulebook.calls k A1 c1 l1 t1 W (Kd.C_below hr1 hW) hc1 e1)
 clear e1
 cases t1 with
 | false =>
  rw [if_neg (by simp)] at h
  simp only [Option.some.injEq, Prod.mk.injEq] at h
  obtain ⟨rfl, rfl⟩ := h
  clear hr0 hc0 hr1 hc1 hr2 hc2
  go_enter Try.func36, Try.ntmps36
  go_wp2_with (first | (go_at_call_of 66 (Value.slice A0 l0.length c0); refine (H0.out _ (by first | exact HB0.out | exact below_drew HB0.out)).mono ?_; rintro e w1 ⟨rfl, hb⟩; have KA1 := Aside0.mk (blk_below (by first | exact KA0.out | exact blk_drew KA0.out) (by first | exact hb | exact hb.below)); have KB1 := Aside0.mk (blk_below (by first | exact KB0.out | exact blk_drew KB0.out) (by first | exact hb | exact hb.below)); have HB1 := Aside0.mk (below_then (show Below w.heap.size w _ by first | exact HB0.out | exact below_drew HB0.out) (by first | exact HB0.out.size | exact (below_drew HB0.out).size) (by first | exact hb | exact hb.below)); clear hb; have g1 := (blk_cell KB1.out 0).trans rfl) | (go_at_call_of 66 (Value.slice A1 l1.length c1); refine (H1.out _ (by first | exact HB1.out | exact below_drew HB1.out)).mono ?_; rintro e w2 ⟨rfl, hb⟩; have KA2 := Aside0.mk (blk_below (by first | exact KA1.out | exact blk_drew KA1.out) (by first | exact hb | exact hb.below)); have KB2 := Aside0.mk (blk_below (by first | exact KB1.out | exact blk_drew KB1.out) (by first | exact hb | exact hb.below)); have HB2 := Aside0.mk (below_then (show Below w.heap.size w _ by first | exact HB1.out | exact below_drew HB1.out) (by first | exact HB1.out.size | exact (below_drew HB1.out).size) (by first | exact hb | exact hb.below)); clear hb))
  go_ret2
  exact ⟨by first | rfl | simp, HB2.out⟩
 | true =>
 rw [if_pos rfl] at h
 rcases e2 : impl_IsLog.f k l2 with _ | t2
 · rw [e2] at h; cases h
 rw [e2, Option.bind_some] at h
 have H2 := Aside0.mk (fun (W : World) (hW : Below w.heap.size w W) => impl_IsLog.calls k A2 c2 l2 t2 W (Kd.C_below hr2 hW) hc2 e2)
 clear e2
 cases t2 with
 | false =>
  rw [if_neg (by simp)] at h
  simp only [Option.some.injEq, Prod.mk.injEq] at h
  obtain ⟨rfl, rfl⟩ := h
  clear hr0 hc0 hr1 hc1 hr2 hc2
  go_enter Try.func36, Try.ntmps36
  go_wp2_with (first | (go_at_call_of 66 (Value.slice A0 l0.length c0); refine (H0.out _ (by first | exact HB0.out | exact below_drew HB0.out)).mono ?_; rintro e w1 ⟨rfl, hb⟩; have KA1 := Aside0.mk (blk_below (by first | exact KA0.out | exact blk_drew KA0.out) (by first | exact hb | exact hb.below)); have KB1 := Aside0.mk (blk_below (by first | exact KB0.out | exact blk_drew KB0.out) (by first | exact hb | exact hb.below)); have HB1 := Aside0.mk (below_then (show Below w.heap.size w _ by first | exact HB0.out | exact below_drew HB0.out) (by first | exact HB0.out.size | exact (below_drew HB0.out).size) (by first | exact hb | exact hb.below)); clear hb; have g1 := (blk_cell KB1.out 0).trans rfl) | (go_at_call_of 66 (Value.slice A1 l1.length c1); refine (H1.out _ (by first | exact HB1.out | exact below_drew HB1.out)).mono ?_; rintro e w2 ⟨rfl, hb⟩; have KA2 := Aside0.mk (blk_below (by first | exact KA1.out | exact blk_drew KA1.out) (by first | exact hb | exact hb.below)); have KB2 := Aside0.mk (blk_below (by first | exact KB1.out | exact blk_drew KB1.out) (by first | exact hb | exact hb.below)); have HB2 := Aside0.mk (below_then (show Below w.heap.size w _ by first | exact HB1.out | exact below_drew HB1.out) (by first | exact HB1.out.size | exact (below_drew HB1.out).size) (by first | exact hb | exact hb.below)); clear hb) | (go_at_call_of 67 (Value.slice A2 l2.length c2); refine (H2.out _ (by first | exact HB2.out | exact below_drew HB2.out)).mono ?_; rintro e w3 ⟨rfl, hb⟩; have KA3 := Aside0.mk (blk_below (by first | exact KA2.out | exact blk_drew KA2.out) (by first | exact hb | exact hb.below)); have KB3 := Aside0.mk (blk_below (by first | exact KB2.out | exact blk_drew KB2.out) (by first | exact hb | exact hb.below)); have HB3 := Aside0.mk (below_then (show Below w.heap.size w _ by first | exact HB2.out | exact below_drew HB2.out) (by first | exact HB2.out.size | exact (below_drew HB2.out).size) (by first | exact hb | exact hb.below)); clear hb))
  go_ret2
  exact ⟨by first | rfl | simp, HB3.out⟩
 | true =>
 rw [if_pos rfl] at h
 by_cases hok : l2.length ≤ 1000000 ∧ agreeAt k l0 l1 l2 = true
 case neg => rw [if_neg hok] at h; cases h
 rw [if_pos hok] at h
 simp only [Option.some.injEq, Prod.mk.injEq] at h
 obtain ⟨rfl, rfl⟩ := h
 have ef : ∀ args w, (callFunc 74 args).run Try.prog w = .ok (.enter 74 args) w := enters_of Try.func74 (by kernel_rfl) rfl
 have HI := Aside0.mk (fun (W : World) (hW : Below w.heap.size w W) (ka : W.heap[w.heap.size]? = some (.cells #[.slice A0 l0.length c0] 41 (0, 0))) (kb : W.heap[w.heap.size + 1]? = some (.cells #[.slice A1 l1.length c1] 41 (0, 0))) => indices_Ev.calls 74 #[.pointer (some ⟨w.heap.size, 0, none⟩), .pointer (some ⟨w.heap.size + 1, 0, none⟩)] (agreeB k l0 l1) A2 c2 l2 W (Kd.C_below hr2 hW) hc2 hok.1 ef (fun W2 x hx hW2 => by
  have hx2 := List.all_eq_true.1 hok.2 x hx
  rw [Bool.and_eq_true] at hx2
  obtain ⟨⟨ra, ta⟩, ea⟩ := Option.isSome_iff_exists.1 hx2.1
  obtain ⟨⟨rb, tb⟩, eb⟩ := Option.isSome_iff_exists.1 hx2.2
  have e : agreeB k l0 l1 x = (ra == rb) := by unfold agreeB; rw [ea, eb]; rfl
  rw [e]
  exact Agreement_1.calls k w.heap.size (w.heap.size + 1) A0 c0 l0 A1 c1 l1 x ra rb ta tb W2 (Kd.C_below hr0 (below_then hW hW.size hW2)) hc0 (Kd.C_below hr1 (below_then hW hW.size hW2)) hc1 ((blk_cell (blk_below ka hW2) 0).trans rfl) ((blk_cell (blk_below kb hW2) 0).trans rfl) ea eb))
 clear hr0 hc0 hr1 hc1 hr2 hc2 hok ef
 generalize l2.countP (agreeB k l0 l1) = q at HI ⊢
 go_enter Try.func36, Try.ntmps36
 go_wp2_with (first | (go_at_call_of 66 (Value.slice A0 l0.length c0); refine (H0.out _ (by first | exact HB0.out | exact below_drew HB0.out)).mono ?_; rintro e w1 ⟨rfl, hb⟩; have KA1 := Aside0.mk (blk_below (by first | exact KA0.out | exact blk_drew KA0.out) (by first | exact hb | exact hb.below)); have KB1 := Aside0.mk (blk_below (by first | exact KB0.out | exact blk_drew KB0.out) (by first | exact hb | exact hb.below)); have HB1 := Aside0.mk (below_then (show Below w.heap.size w _ by first | exact HB0.out | exact below_drew HB0.out) (by first | exact HB0.out.size | exact (below_drew HB0.out).size) (by first | exact hb | exact hb.below)); clear hb; have g1 := (blk_cell KB1.out 0).trans rfl) | (go_at_call_of 66 (Value.slice A1 l1.length c1); refine (H1.out _ (by first | exact HB1.out | exact below_drew HB1.out)).mono ?_; rintro e w2 ⟨rfl, hb⟩; have KA2 := Aside0.mk (blk_below (by first | exact KA1.out | exact blk_drew KA1.out) (by first | exact hb | exact hb.below)); have KB2 := Aside0.mk (blk_below (by first | exact KB1.out | exact blk_drew KB1.out) (by first | exact hb | exact hb.below)); have HB2 := Aside0.mk (below_then (show Below w.heap.size w _ by first | exact HB1.out | exact below_drew HB1.out) (by first | exact HB1.out.size | exact (below_drew HB1.out).size) (by first | exact hb | exact hb.below)); clear hb) | (go_at_call_of 67 (Value.slice A2 l2.length c2); refine (H2.out _ (by first | exact HB2.out | exact below_drew HB2.out)).mono ?_; rintro e w3 ⟨rfl, hb⟩; have KA3 := Aside0.mk (blk_below (by first | exact KA2.out | exact blk_drew KA2.out) (by first | exact hb | exact hb.below)); have KB3 := Aside0.mk (blk_below (by first | exact KB2.out | exact blk_drew KB2.out) (by first | exact hb | exact hb.below)); have HB3 := Aside0.mk (below_then (show Below w.heap.size w _ by first | exact HB2.out | exact below_drew HB2.out) (by first | exact HB2.out.size | exact (below_drew HB2.out).size) (by first | exact hb | exact hb.below)); clear hb) | (go_at_call 73; refine (HI.out _ HB3.out KA3.out KB3.out).mono ?_; rintro e w4 ⟨v4, rfl, xs, hxs, hlen, hb⟩; obtain ⟨A4, c4, rfl, hc4, hC4⟩ := Kd.R_reads hxs; have HC4 := Aside0.mk hC4; have LC4 := Aside0.mk hc4; have LN4 := Aside0.mk hlen; have HB4 := Aside0.mk (below_then HB3.out HB3.out.size hb); clear hxs hc4 hC4 hlen hb) | (go_at_call 72; refine (impl_count_int64.calls A4 c4 xs (xs.length : Int) _ (by first | exact HC4.out | exact Kd.C_below HC4.out (below_drew (Below.refl _ _))) LC4.out rfl).mono ?_; rintro e w5 ⟨rfl, ⟨nd, rfl⟩⟩))
 go_ret2
 exact ⟨by rw [← LN4.out]; first | rfl | simp, by first | exact HB4.out | exact pw_below_drewN HB4.out _⟩

end Go.Proofs.Ytmfbkbbgokjhnaa.F
