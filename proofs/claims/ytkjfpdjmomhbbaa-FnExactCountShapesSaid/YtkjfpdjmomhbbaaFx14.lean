-- Written by this session's program (wip/bin/hp.py) over the kit's print: a function's Lean form, and a proof that the call does what it says.
import Derived.Test.YtkjfpdjmomhbbaaFx0
import Derived.Test.YtkjfpdjmomhbbaaFx11
import Derived.Test.YtkjfpdjmomhbbaaFx13
namespace Go.Proofs.Ytkjfpdjmomhbbaa.F
open Go.RowKit Go.Proofs.YtkjfpdjmomhbbaaW.PrintWords Go.Proofs.YtkjfpdjmomhbbaaW.PrintLast Go.Proofs.YtkjfpdjmomhbbaaW.PrintMore
attribute [local go_sem] max2_int min2_int max_two min_two max_three min_three max_four min_four   -- for this text's walks alone
set_option linter.unusedVariables false
set_option linter.unusedSimpArgs false

/-! ### impl_Clause_159: function 159 -/
theorem ContainsFunc_T84.calls (g : Nat) (lb : Array Value) (p : S84 → Bool) (A0 : Option Addr) (c0 : Nat) (l0 : List S84) (w : World) (hr0 : Kd.C k84 w A0 l0.length l0) (hc0 : l0.length ≤ c0)
    (eg : ∀ args w, (callFunc g args).run Try.prog w = .ok (.enter g args) w) (hp : FnP Try.prog val_T84 g lb p l0 w) :
    Calls Try.prog 159 #[.slice A0 l0.length c0, .func (.func g) #[] lb] w fun e w' => e = .returned (.bool (l0.any p)) ∧ Below w.heap.size w w' := by
  have HC := Aside0.mk (IndexFunc_T84.calls g lb p A0 c0 l0 w hr0 hc0 eg hp)
  clear hr0 hc0 hp
  rw [← idxP_any]
  go_enter Try.func159, Try.ntmps159
  go_wp2_with (go_at_call 144; refine HC.out.mono ?_; rintro e w' ⟨rfl, hb'⟩)
  go_ret
  exact ⟨rfl, hb'⟩

-- NOT PRINTED: function 160 (impl_Clause_1)

/-! ### impl_Clause_130: function 130 -/
theorem all_1_T84.calls (g : Nat) (lb : Array Value) (p : S84 → Bool) (B : Nat) (x : S84) (w : World) (hB : B < w.heap.size) (hc : w.cell? ⟨B, 0, none⟩ = some (.func (.func g) #[] lb))
    (eg : ∀ args w, (callFunc g args).run Try.prog w = .ok (.enter g args) w) (hp : ∀ W, Below w.heap.size w W → Calls Try.prog g (#[val_T84 x] ++ lb) W fun e w' => e = .returned (.bool (p x)) ∧ Below W.heap.size W w') :
    Calls Try.prog 160 #[val_T84 x, .pointer (some ⟨B, 0, none⟩)] w fun e w' => e = .returned (.bool (!p x)) ∧ Below w.heap.size w w' := by
  have hu84 := Try.underlying84
  have HP := Aside0.mk hp
  clear hp
  unfold val_T84 at HP ⊢
  go_enter Try.func160, Try.ntmps160
  go_wp2_with (go_at_fn g; refine (HP.out _ (below_alloc (Below.refl _ _) _)).mono ?_; rintro e w' ⟨rfl, hb'⟩)
  go_ret
  exact ⟨rfl, below_then (below_alloc (Below.refl _ _) _) (below_alloc (Below.refl _ _) _).size hb'⟩
theorem all_T84.calls (g : Nat) (lb : Array Value) (p : S84 → Bool) (A0 : Option Addr) (c0 : Nat) (l0 : List S84) (w : World) (hr0 : Kd.C k84 w A0 l0.length l0) (hc0 : l0.length ≤ c0)
    (eg : ∀ args w, (callFunc g args).run Try.prog w = .ok (.enter g args) w) (hp : FnP Try.prog val_T84 g lb p l0 w) :
    Calls Try.prog 130 #[.slice A0 l0.length c0, .func (.func g) #[] lb] w fun e w' => e = .returned (.bool (l0.all p)) ∧ Below w.heap.size w w' := by
  have hb0 : Below w.heap.size w (w.alloc (.cells #[.func (.func g) #[] lb] 140)) := below_alloc (Below.refl _ _) _
  have e1 : ∀ args w, (callFunc 160 args).run Try.prog w = .ok (.enter 160 args) w := enters_of Try.func160 (by kernel_rfl) rfl
  have HC := Aside0.mk (ContainsFunc_T84.calls 160 #[.pointer (some ⟨w.heap.size, 0, none⟩)] (fun x => !p x) A0 c0 l0 (w.alloc (.cells #[.func (.func g) #[] lb] 140)) (Kd.C_below hr0 hb0) hc0 e1 (by
    intro W x hx hW
    have hsz : w.heap.size < W.heap.size := by have := hW.size; simp at this; omega
    exact all_1_T84.calls g lb p w.heap.size x W hsz ((hW.cell (p := ⟨w.heap.size, 0, none⟩) (by simp)).trans (by simp)) eg (fun W' hW' => hp W' x hx (below_then (below_then hb0 hb0.size hW) (by omega) hW'))))
  clear hr0 hc0 hp
  rw [← any_not_all]
  go_enter Try.func130, Try.ntmps130
  go_wp2_with (go_at_call 159; refine HC.out.mono ?_; rintro e w' ⟨rfl, hb'⟩)
  go_ret
  exact ⟨rfl, below_then hb0 hb0.size hb'⟩

/-! ### impl_IsRulebook: function 68 -/
def needB (n : Int) : Bool := decide (0 ≤ n ∧ n ≤ 2)
def clauseB (c : S84) : Bool := codeB c.f0 && decide (-1 ≤ c.f1 ∧ c.f1 ≤ 6) && needB c.f2 && needB c.f3 && needB c.f4 && decide (0 ≤ c.f5 ∧ c.f5 ≤ 3) && (if c.f5 = 3 then codeB c.f6 else c.f6.toList == [])
def linkB (l : List S84) (i : Nat) : Bool := decide (idxP (hasCode (l.getD i z84).f0) l = i) && decide ((l.getD i z84).f5 = 3 → (i : Int) < idxP (hasCode (l.getD i z84).f6) l)
def lastB (c : S84) : Bool := decide (c.f1 = -1 ∧ c.f2 + c.f3 + c.f4 = 0 ∧ c.f5 ≠ 3)
def rulebookB (l : List S84) : Bool := decide (1 ≤ l.length ∧ l.length ≤ 12) && l.all clauseB && decide (∀ i, i < l.length → linkB l i = true) && lastB (l.getD (l.length - 1) z84)
def clausesAt (k : Nat) (l : List S84) : Bool := l.all fun c => impl_IsClause.f k c.f0 c.f1 c.f2 c.f3 c.f4 c.f5 c.f6 == some (clauseB c)
def impl_IsRulebook.f (k : Nat) (l0 : List S84) : Option Bool := if clausesAt k l0 = true then some (rulebookB l0) else none
theorem impl_IsRulebook.mono : ∀ a0 k, LeO (impl_IsRulebook.f k a0) (impl_IsRulebook.f (k + 1) a0) := by
  intro a0 k r h
  unfold impl_IsRulebook.f at h ⊢
  by_cases hc : clausesAt k a0 = true
  · rw [if_pos hc] at h
    have : clausesAt (k + 1) a0 = true := by
      unfold clausesAt at hc ⊢
      rw [List.all_eq_true] at hc ⊢
      intro x hx
      have := hc x hx
      rw [beq_iff_eq] at this ⊢
      exact impl_IsClause.mono _ _ _ _ _ _ _ k _ this
    rw [if_pos this]; exact h
  · rw [if_neg hc] at h; cases h
theorem rd_at_C (l : List S84) (i : Nat) (h : i < l.length) : rd_T84 l (i : Int) = l[i] := by
  simp [rd_T84, List.getD_eq_getElem?_getD, h]
theorem getD_C (l : List S84) (i : Nat) (h : i < l.length) (x : S84) (hx : l[i] = x) : l.getD i z84 = x := by simp [List.getD_eq_getElem?_getD, h, hx]
theorem rulebook_bad (l : List S84) (i : Nat) (h : i < l.length) (hb : linkB l i = false) : rulebookB l = false := by
  unfold rulebookB
  have : decide (∀ i, i < l.length → linkB l i = true) = false := by
    rw [decide_eq_false_iff_not]; intro H; rw [H i h] at hb; cases hb
  rw [this]; simp
set_option maxHeartbeats 2000000 in
set_option maxRecDepth 100000 in
theorem impl_IsRulebook.calls (k : Nat) (A0 : Option Addr) (c0 : Nat) (l0 : List S84) (r : Bool) (w : World) (hr0 : Kd.C k84 w A0 l0.length l0) (hc0 : l0.length ≤ c0) (h : impl_IsRulebook.f k l0 = some r) :
    Calls Try.prog 68 #[.slice A0 l0.length c0] w fun e w' => e = .returned (.bool r) ∧ Below w.heap.size w w' := by
  have hbig : l0.length ≤ 9223372036854775807 := hr0.2.1
  have hu := Try.underlying84
  unfold impl_IsRulebook.f at h
  by_cases hcl : clausesAt k l0 = true
  · rw [if_pos hcl] at h
    obtain rfl := Option.some.inj h
    clear h
    have hcl' : ∀ x, x ∈ l0 → impl_IsClause.f k x.f0 x.f1 x.f2 x.f3 x.f4 x.f5 x.f6 = some (clauseB x) := fun x hx => by
      have := List.all_eq_true.1 hcl x hx
      exact beq_iff_eq.1 this
    have e1 : ∀ args w, (callFunc 120 args).run Try.prog w = .ok (.enter 120 args) w := enters_of Try.func120 (by kernel_rfl) rfl
    have HA := Aside0.mk (all_T84.calls 120 #[] clauseB A0 c0 l0 w hr0 hc0 e1 (fun W x hx hW => impl_IsClause.calls k x.f0 x.f1 x.f2 x.f3 x.f4 x.f5 x.f6 (clauseB x) W (hcl' x hx)))
    have HF := Aside0.mk (fun (W : World) (hW : Below w.heap.size w W) (a : ByteArray) => impl_findClause.calls A0 c0 l0 a (idxP (hasCode a) l0) W (Kd.C_below hr0 hW) hc0 rfl)
    have HR0 := Aside0.mk hr0
    clear hr0 hc0 hcl hcl' e1
    by_cases hlen : 1 ≤ l0.length ∧ l0.length ≤ 12
    · have s1 : ¬ (l0.length : Int) < 1 := by omega
      have s2 : ¬ (12 : Int) < (l0.length : Int) := by omega
      cases hall : l0.all clauseB with
      | false =>
        have FIN := Aside0.mk (show rulebookB l0 = false by unfold rulebookB; rw [hall]; simp)
        rw [hall] at HA
        clear hall hlen
        go_enter Try.func68, Try.ntmps68
        go_wp2_with (go_at_call 130; refine HA.out.mono ?_; rintro e w' ⟨rfl, hb⟩)
        go_ret
        exact ⟨by rw [FIN.out]; rfl, hb⟩
      | true =>
        have ALL := Aside0.mk hall
        have HLEN := Aside0.mk hlen
        rw [hall] at HA
        clear hall hlen
        go_enter Try.func68, Try.ntmps68
        go_wp2_with (go_at_call 130; refine HA.out.mono ?_; rintro e w1 ⟨rfl, hb⟩)
        have HB1 := Aside0.mk hb
        clear hb
        go_loopg [21] l0.length (fun gg s21 wr => ∃ kk : Nat, kk ≤ l0.length ∧ l0.length - kk ≤ gg ∧ s21 = .int .i64 kk ∧ Aside0 (Below w.heap.size w wr) ∧ Aside0 (∀ j, j < kk → linkB l0 j = true))
        case atStart => exact ⟨0, by omega, by omega, rfl, HB1, ⟨fun j h => by omega⟩⟩
        case round =>
          clear HB1
          obtain ⟨kk, hkk, hg, rfl, BW, A⟩ := hrel
          by_cases hlt : kk < l0.length
          · have hltz : (kk : Int) < (l0.length : Int) := by omega
            have o2 := at_T84 HR0.out (kk : Int) (by omega) (by omega)
            rw [rd_at_C l0 kk hlt, Int.toNat_natCast] at o2
            have s7 : 0 ≤ (kk : Int) := by omega
            have X := Aside0.mk (getD_C l0 kk hlt l0[kk] rfl)
            generalize l0[kk] = x at o2 X
            obtain ⟨ae, e_ae, hz0, hz1, hz2, hz3, hz4, hz5, hz6⟩ := o2
            cases e_ae
            replace hz0 := (BW.out.cell (World.block_lt_of_cell? w _ hz0)).trans hz0
            replace hz1 := (BW.out.cell (World.block_lt_of_cell? w _ hz1)).trans hz1
            replace hz2 := (BW.out.cell (World.block_lt_of_cell? w _ hz2)).trans hz2
            replace hz3 := (BW.out.cell (World.block_lt_of_cell? w _ hz3)).trans hz3
            replace hz4 := (BW.out.cell (World.block_lt_of_cell? w _ hz4)).trans hz4
            replace hz5 := (BW.out.cell (World.block_lt_of_cell? w _ hz5)).trans hz5
            replace hz6 := (BW.out.cell (World.block_lt_of_cell? w _ hz6)).trans hz6
            have B1 := Aside0.mk (below_alloc BW.out (.cells #[.string x.f0, .int .i64 x.f1, .int .i64 x.f2, .int .i64 x.f3, .int .i64 x.f4, .int .i64 x.f5, .string x.f6] 84))
            have F1 := Aside0.mk (HF.out _ B1.out x.f0)
            have rq := idxP_range (hasCode x.f0) l0
            have rq2 := idxP_range (hasCode x.f6) l0
            have L0 := Aside0.mk (show linkB l0 kk = (decide (idxP (hasCode x.f0) l0 = kk) && decide (x.f5 = 3 → (kk : Int) < idxP (hasCode x.f6) l0)) by unfold linkB; rw [X.out])
            have F2 := Aside0.mk (fun (W : World) (hW : Below w.heap.size w W) => HF.out W hW x.f6)
            generalize idxP (hasCode x.f0) l0 = q at F1 rq L0
            generalize idxP (hasCode x.f6) l0 = q2 at F2 rq2 L0
            by_cases hq : q = (kk : Int)
            · subst hq
              by_cases h3 : x.f5 = 3
              · have T3 : (x.f5 == 3) = true := by simpa using h3
                have L1 := Aside0.mk (show linkB l0 kk = decide ((kk : Int) < q2) by rw [L0.out]; simp [h3])
                clear h3 L0
                by_cases h4 : q2 ≤ (kk : Int)
                · have BAD := Aside0.mk (rulebook_bad l0 kk hlt (by rw [L1.out]; exact decide_eq_false (by omega)))
                  go_wp2_with (first | (go_at_call 96; refine F1.out.mono ?_; rintro e w2 ⟨rfl, hb⟩; clear F1; have g5 := (hb.cell (p := ⟨wr.heap.size, 5, none⟩) (by simp)).trans (by simp : _ = some (Value.int .i64 x.f5)); have g6 := (hb.cell (p := ⟨wr.heap.size, 6, none⟩) (by simp)).trans (by simp : _ = some (Value.string x.f6)); have B2 := Aside0.mk (below_then B1.out B1.out.size hb); clear hb) | (go_at_call 96; refine (F2.out _ B2.out).mono ?_; rintro e w3 ⟨rfl, hb⟩; have B3 := Aside0.mk (below_then B2.out B2.out.size hb); clear hb))
                  go_ret
                  exact ⟨by rw [BAD.out]; rfl, B3.out⟩
                · have GOOD := Aside0.mk (show linkB l0 kk = true by rw [L1.out]; exact decide_eq_true (by omega))
                  go_wp2_with (first | (go_at_call 96; refine F1.out.mono ?_; rintro e w2 ⟨rfl, hb⟩; clear F1; have g5 := (hb.cell (p := ⟨wr.heap.size, 5, none⟩) (by simp)).trans (by simp : _ = some (Value.int .i64 x.f5)); have g6 := (hb.cell (p := ⟨wr.heap.size, 6, none⟩) (by simp)).trans (by simp : _ = some (Value.string x.f6)); have B2 := Aside0.mk (below_then B1.out B1.out.size hb); clear hb) | (go_at_call 96; refine (F2.out _ B2.out).mono ?_; rintro e w3 ⟨rfl, hb⟩; have B3 := Aside0.mk (below_then B2.out B2.out.size hb); clear hb))
                  go_roundg (l0.length - (kk + 1))
                  case measure => omega
                  case rel =>
                    refine ⟨kk + 1, by omega, by omega, by go_num, B3, ⟨fun j hjk => ?_⟩⟩
                    by_cases e : j = kk
                    · subst e; exact GOOD.out
                    · exact A.out j (by omega)
              · have T3 : (x.f5 == 3) = false := by simpa using h3
                have GOOD := Aside0.mk (show linkB l0 kk = true by rw [L0.out]; simp [h3])
                clear h3 L0 F2
                go_wp2_with (go_at_call 96; refine F1.out.mono ?_; rintro e w2 ⟨rfl, hb⟩; clear F1; have g5 := (hb.cell (p := ⟨wr.heap.size, 5, none⟩) (by simp)).trans (by simp : _ = some (Value.int .i64 x.f5)); have B2 := Aside0.mk (below_then B1.out B1.out.size hb); clear hb)
                go_roundg (l0.length - (kk + 1))
                case measure => omega
                case rel =>
                  refine ⟨kk + 1, by omega, by omega, by go_num, B2, ⟨fun j hjk => ?_⟩⟩
                  by_cases e : j = kk
                  · subst e; exact GOOD.out
                  · exact A.out j (by omega)
            · have T3 : (q != (kk : Int)) = true := by simpa using hq
              have BAD := Aside0.mk (rulebook_bad l0 kk hlt (by rw [L0.out, decide_eq_false hq]; rfl))
              clear hq L0 F2
              go_wp2_with (go_at_call 96; refine F1.out.mono ?_; rintro e w2 ⟨rfl, hb⟩; have B2 := Aside0.mk (below_then B1.out B1.out.size hb); clear hb)
              go_ret
              exact ⟨by rw [BAD.out]; rfl, B2.out⟩
          · have hltz : ¬ (kk : Int) < (l0.length : Int) := by omega
            have LINK := Aside0.mk (decide_eq_true (show ∀ i, i < l0.length → linkB l0 i = true from fun i hi => A.out i (by omega)))
            have h0 : l0.length - 1 < l0.length := by have := HLEN.out; omega
            have o2 := at_T84 HR0.out ((l0.length - 1 : Nat) : Int) (by omega) (by omega)
            rw [rd_at_C l0 (l0.length - 1) h0, Int.toNat_natCast] at o2
            have X := Aside0.mk (getD_C l0 (l0.length - 1) h0 l0[l0.length - 1] rfl)
            have CB := Aside0.mk (List.all_eq_true.1 ALL.out l0[l0.length - 1] (List.getElem_mem h0))
            have s0 : IntKind.i64.wrap ((l0.length : Int) - 1) = (l0.length : Int) - 1 := IntWalk.i64_in _ (by omega)
            have s4 : ((l0.length : Int) - 1).toNat = l0.length - 1 := by omega
            have s5 : 1 ≤ (l0.length : Int) := by omega
            have s6 : (l0.length : Int) - 1 < (l0.length : Int) := by omega
            have s8 : 0 ≤ (l0.length : Int) - 1 := by omega
            generalize l0[l0.length - 1] = x at o2 X CB
            obtain ⟨ae, e_ae, hz0, hz1, hz2, hz3, hz4, hz5, hz6⟩ := o2
            cases e_ae
            replace hz0 := (BW.out.cell (World.block_lt_of_cell? w _ hz0)).trans hz0
            replace hz1 := (BW.out.cell (World.block_lt_of_cell? w _ hz1)).trans hz1
            replace hz2 := (BW.out.cell (World.block_lt_of_cell? w _ hz2)).trans hz2
            replace hz3 := (BW.out.cell (World.block_lt_of_cell? w _ hz3)).trans hz3
            replace hz4 := (BW.out.cell (World.block_lt_of_cell? w _ hz4)).trans hz4
            replace hz5 := (BW.out.cell (World.block_lt_of_cell? w _ hz5)).trans hz5
            replace hz6 := (BW.out.cell (World.block_lt_of_cell? w _ hz6)).trans hz6
            have hn : 0 ≤ x.f2 ∧ x.f2 ≤ 2 ∧ 0 ≤ x.f3 ∧ x.f3 ≤ 2 ∧ 0 ≤ x.f4 ∧ x.f4 ≤ 2 := by
              have := CB.out
              simp only [clauseB, needB, Bool.and_eq_true, decide_eq_true_eq] at this
              omega
            obtain ⟨n0, n1, n2, n3, n4, n5⟩ := hn
            have FIN := Aside0.mk (show rulebookB l0 = lastB x by
              unfold rulebookB
              rw [decide_eq_true HLEN.out, ALL.out, LINK.out, X.out]; rfl)
            have B1 := Aside0.mk (below_alloc BW.out (.cells #[.string x.f0, .int .i64 x.f1, .int .i64 x.f2, .int .i64 x.f3, .int .i64 x.f4, .int .i64 x.f5, .string x.f6] 84))
            clear X CB LINK
            by_cases c1 : x.f1 = -1
            · have T1 : (x.f1 == -1) = true := by simpa using c1
              by_cases c2 : x.f2 + x.f3 + x.f4 = 0
              · have T2 : (x.f2 + x.f3 + x.f4 == 0) = true := by simpa using c2
                have FIN2 := Aside0.mk (show lastB x = (x.f5 != 3) by unfold lastB; rw [Bool.eq_iff_iff]; simp [c1, c2])
                clear c1 c2
                go_wp2
                go_ret
                exact ⟨by rw [FIN.out, FIN2.out]; rfl, B1.out⟩
              · have T2 : (x.f2 + x.f3 + x.f4 == 0) = false := by simpa using c2
                have FIN2 := Aside0.mk (show lastB x = false by unfold lastB; simp [c2])
                clear c1 c2
                go_wp2
                go_ret
                exact ⟨by rw [FIN.out, FIN2.out]; rfl, B1.out⟩
            · have T1 : (x.f1 == -1) = false := by simpa using c1
              have FIN2 := Aside0.mk (show lastB x = false by unfold lastB; simp [c1])
              clear c1
              go_wp2
              go_ret
              exact ⟨by rw [FIN.out, FIN2.out]; rfl, B1.out⟩
    · have FIN := Aside0.mk (show rulebookB l0 = false by unfold rulebookB; rw [decide_eq_false hlen]; simp)
      by_cases h1 : (l0.length : Int) < 1
      · clear hlen
        go_enter Try.func68, Try.ntmps68
        go_wp2
        go_ret
        exact ⟨by rw [FIN.out]; rfl, Below.refl _ _⟩
      · have s2 : (12 : Int) < (l0.length : Int) := by omega
        clear hlen
        go_enter Try.func68, Try.ntmps68
        go_wp2
        go_ret
        exact ⟨by rw [FIN.out]; rfl, Below.refl _ _⟩
  · rw [if_neg hcl] at h; cases h

end Go.Proofs.Ytkjfpdjmomhbbaa.F
