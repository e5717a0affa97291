-- Written by a program of this claim's prover; Lean checks it.
import Derived.Test.YtddheiloodfkdaaQ0
import Derived.Test.YtddheiloodfkdaaQ1
import Derived.Test.YtddheiloodfkdaaQ12
import Derived.Test.YtddheiloodfkdaaQ13
import Derived.Test.YtddheiloodfkdaaQ14
import Derived.Test.YtddheiloodfkdaaQ15
import Derived.Test.YtddheiloodfkdaaQ16
namespace Go.Proofs.Ytddheiloodfkdaa.Q
open Go.RowKit Go.Proofs.YtddheiloodfkdaaW.PrintWords Go.Proofs.YtddheiloodfkdaaW.PrintLast Go.Proofs.YtddheiloodfkdaaW.PrintMore
attribute [local go_sem] max2_int min2_int max_two min_two max_three min_three max_four min_four   -- for this text's walks alone
set_option linter.unusedVariables false
set_option linter.unusedSimpArgs false

/-! ### horariumlaw15_PairKinds: function 7 -/
def horariumlaw15_PairKinds.f (k : Nat) (a0 : Int) (a1 : ByteArray) : Option (Bool) := (pair_Needs.f k a0).bind fun bt271 => ((horariumref15_Needs.f a0).bind fun bt273 => ((pair_Kind.f k a1).bind fun bt275 => ((horariumref15_Kind.f k a1).bind fun bt277 => ((pair_Known.f a0).bind fun t279 => ((horariumref15_Known.f a0).bind fun t280 => (if (t279 == t280) = true then (if (bt271.1 == bt273.1) = true then (if (bt271.2 == bt273.2) = true then ((pair_Turns.f a0).bind fun t281 => ((horariumref15_Known.f a0).bind fun t282 => (if t282 = true then (if (t281 == (a0 != 12)) = true then ((pair_Name.f a0).bind fun t283 => ((horariumref15_Name.f a0).bind fun t284 => (if t283.toList = t284.toList then (if bt275.1 = bt277.1 then (if (bt275.2 == bt277.2) = true then ((horariumlaw15_heads.f k).bind fun t285 => (some t285)) else (some false)) else (some false)) else (some false)))) else (some false)) else (if (t281 == false) = true then ((pair_Name.f a0).bind fun t286 => ((horariumref15_Name.f a0).bind fun t287 => (if t286.toList = t287.toList then (if bt275.1 = bt277.1 then (if (bt275.2 == bt277.2) = true then ((horariumlaw15_heads.f k).bind fun t288 => (some t288)) else (some false)) else (some false)) else (some false)))) else (some false))))) else (some false)) else (some false)) else (some false)))))))
theorem horariumlaw15_PairKinds.mono : ∀ a0 a1 k, LeO (horariumlaw15_PairKinds.f k a0 a1) (horariumlaw15_PairKinds.f (k + 1) a0 a1) := by
  intro a0 a1 k
  unfold horariumlaw15_PairKinds.f
  repeat' first
      | (with_reducible exact horariumlaw15_heads.mono _)
      | (with_reducible exact horariumref15_Kind.mono _ _)
      | (with_reducible exact pair_Kind.mono _ _)
      | (with_reducible exact pair_Needs.mono _ _)
      | (with_reducible exact LeO.refl _)
      | (with_reducible exact LeO.none _)
      | (with_reducible refine LeO.ite ?_ ?_)
      | (with_reducible refine LeO.bind ?_ (fun _ => ?_))
      | exact horariumlaw15_heads.mono _
      | exact horariumref15_Kind.mono _ _
      | exact pair_Kind.mono _ _
      | exact pair_Needs.mono _ _
      | exact LeO.none _
      | refine LeO.ite ?_ ?_
      | refine LeO.bind ?_ (fun _ => ?_)
set_option maxHeartbeats 8000000 in
set_option maxRecDepth 100000 in
theorem horariumlaw15_PairKinds.calls (k : Nat) (a0 : Int) (a1 : ByteArray) (r : Bool) (w : World) (HR : Aside0 (r = true)) (h : horariumlaw15_PairKinds.f k a0 a1 = some r) :
  Calls Try.prog 7 #[.int .i64 a0, .string a1] w fun e w' => e = .returned (.bool r) ∧ Below w.heap.size w w' := by
 have HB := Aside0.mk (Below.refl w.heap.size w)
 have H : ((pair_Needs.f k a0).bind fun bt271 => ((horariumref15_Needs.f a0).bind fun bt273 => ((pair_Kind.f k a1).bind fun bt275 => ((horariumref15_Kind.f k a1).bind fun bt277 => ((pair_Known.f a0).bind fun t279 => ((horariumref15_Known.f a0).bind fun t280 => (if (t279 == t280) = true then (if (bt271.1 == bt273.1) = true then (if (bt271.2 == bt273.2) = true then ((pair_Turns.f a0).bind fun t281 => ((horariumref15_Known.f a0).bind fun t282 => (if t282 = true then (if (t281 == (a0 != 12)) = true then ((pair_Name.f a0).bind fun t283 => ((horariumref15_Name.f a0).bind fun t284 => (if t283.toList = t284.toList then (if bt275.1 = bt277.1 then (if (bt275.2 == bt277.2) = true then ((horariumlaw15_heads.f k).bind fun t285 => (some t285)) else (some false)) else (some false)) else (some false)))) else (some false)) else (if (t281 == false) = true then ((pair_Name.f a0).bind fun t286 => ((horariumref15_Name.f a0).bind fun t287 => (if t286.toList = t287.toList then (if bt275.1 = bt277.1 then (if (bt275.2 == bt277.2) = true then ((horariumlaw15_heads.f k).bind fun t288 => (some t288)) else (some false)) else (some false)) else (some false)))) else (some false))))) else (some false)) else (some false)) else (some false)))))))) = some r := h
 clear h
 replace H := Option.bind_eq_some_iff.mp H
 obtain ⟨⟨t271, t272⟩, A30, H⟩ := H
 replace H : ((horariumref15_Needs.f a0).bind fun bt273 => ((pair_Kind.f k a1).bind fun bt275 => ((horariumref15_Kind.f k a1).bind fun bt277 => ((pair_Known.f a0).bind fun t279 => ((horariumref15_Known.f a0).bind fun t280 => (if (t279 == t280) = true then (if (t271 == bt273.1) = true then (if (t272 == bt273.2) = true then ((pair_Turns.f a0).bind fun t281 => ((horariumref15_Known.f a0).bind fun t282 => (if t282 = true then (if (t281 == (a0 != 12)) = true then ((pair_Name.f a0).bind fun t283 => ((horariumref15_Name.f a0).bind fun t284 => (if t283.toList = t284.toList then (if bt275.1 = bt277.1 then (if (bt275.2 == bt277.2) = true then ((horariumlaw15_heads.f k).bind fun t285 => (some t285)) else (some false)) else (some false)) else (some false)))) else (some false)) else (if (t281 == false) = true then ((pair_Name.f a0).bind fun t286 => ((horariumref15_Name.f a0).bind fun t287 => (if t286.toList = t287.toList then (if bt275.1 = bt277.1 then (if (bt275.2 == bt277.2) = true then ((horariumlaw15_heads.f k).bind fun t288 => (some t288)) else (some false)) else (some false)) else (some false)))) else (some false))))) else (some false)) else (some false)) else (some false))))))) = some r := H
 have A3 := Aside0.mk A30
 clear A30
 replace H := Option.bind_eq_some_iff.mp H
 obtain ⟨⟨t273, t274⟩, A40, H⟩ := H
 replace H : ((pair_Kind.f k a1).bind fun bt275 => ((horariumref15_Kind.f k a1).bind fun bt277 => ((pair_Known.f a0).bind fun t279 => ((horariumref15_Known.f a0).bind fun t280 => (if (t279 == t280) = true then (if (t271 == t273) = true then (if (t272 == t274) = true then ((pair_Turns.f a0).bind fun t281 => ((horariumref15_Known.f a0).bind fun t282 => (if t282 = true then (if (t281 == (a0 != 12)) = true then ((pair_Name.f a0).bind fun t283 => ((horariumref15_Name.f a0).bind fun t284 => (if t283.toList = t284.toList then (if bt275.1 = bt277.1 then (if (bt275.2 == bt277.2) = true then ((horariumlaw15_heads.f k).bind fun t285 => (some t285)) else (some false)) else (some false)) else (some false)))) else (some false)) else (if (t281 == false) = true then ((pair_Name.f a0).bind fun t286 => ((horariumref15_Name.f a0).bind fun t287 => (if t286.toList = t287.toList then (if bt275.1 = bt277.1 then (if (bt275.2 == bt277.2) = true then ((horariumlaw15_heads.f k).bind fun t288 => (some t288)) else (some false)) else (some false)) else (some false)))) else (some false))))) else (some false)) else (some false)) else (some false)))))) = some r := H
 have A4 := Aside0.mk A40
 clear A40
 replace H := Option.bind_eq_some_iff.mp H
 obtain ⟨⟨t275, t276⟩, A50, H⟩ := H
 replace H : ((horariumref15_Kind.f k a1).bind fun bt277 => ((pair_Known.f a0).bind fun t279 => ((horariumref15_Known.f a0).bind fun t280 => (if (t279 == t280) = true then (if (t271 == t273) = true then (if (t272 == t274) = true then ((pair_Turns.f a0).bind fun t281 => ((horariumref15_Known.f a0).bind fun t282 => (if t282 = true then (if (t281 == (a0 != 12)) = true then ((pair_Name.f a0).bind fun t283 => ((horariumref15_Name.f a0).bind fun t284 => (if t283.toList = t284.toList then (if t275 = bt277.1 then (if (t276 == bt277.2) = true then ((horariumlaw15_heads.f k).bind fun t285 => (some t285)) else (some false)) else (some false)) else (some false)))) else (some false)) else (if (t281 == false) = true then ((pair_Name.f a0).bind fun t286 => ((horariumref15_Name.f a0).bind fun t287 => (if t286.toList = t287.toList then (if t275 = bt277.1 then (if (t276 == bt277.2) = true then ((horariumlaw15_heads.f k).bind fun t288 => (some t288)) else (some false)) else (some false)) else (some false)))) else (some false))))) else (some false)) else (some false)) else (some false))))) = some r := H
 have A5 := Aside0.mk A50
 clear A50
 replace H := Option.bind_eq_some_iff.mp H
 obtain ⟨⟨t277, t278⟩, A60, H⟩ := H
 replace H : ((pair_Known.f a0).bind fun t279 => ((horariumref15_Known.f a0).bind fun t280 => (if (t279 == t280) = true then (if (t271 == t273) = true then (if (t272 == t274) = true then ((pair_Turns.f a0).bind fun t281 => ((horariumref15_Known.f a0).bind fun t282 => (if t282 = true then (if (t281 == (a0 != 12)) = true then ((pair_Name.f a0).bind fun t283 => ((horariumref15_Name.f a0).bind fun t284 => (if t283.toList = t284.toList then (if t275 = t277 then (if (t276 == t278) = true then ((horariumlaw15_heads.f k).bind fun t285 => (some t285)) else (some false)) else (some false)) else (some false)))) else (some false)) else (if (t281 == false) = true then ((pair_Name.f a0).bind fun t286 => ((horariumref15_Name.f a0).bind fun t287 => (if t286.toList = t287.toList then (if t275 = t277 then (if (t276 == t278) = true then ((horariumlaw15_heads.f k).bind fun t288 => (some t288)) else (some false)) else (some false)) else (some false)))) else (some false))))) else (some false)) else (some false)) else (some false)))) = some r := H
 have A6 := Aside0.mk A60
 clear A60
 replace H := Option.bind_eq_some_iff.mp H
 obtain ⟨t279, A70, H⟩ := H
 replace H : ((horariumref15_Known.f a0).bind fun t280 => (if (t279 == t280) = true then (if (t271 == t273) = true then (if (t272 == t274) = true then ((pair_Turns.f a0).bind fun t281 => ((horariumref15_Known.f a0).bind fun t282 => (if t282 = true then (if (t281 == (a0 != 12)) = true then ((pair_Name.f a0).bind fun t283 => ((horariumref15_Name.f a0).bind fun t284 => (if t283.toList = t284.toList then (if t275 = t277 then (if (t276 == t278) = true then ((horariumlaw15_heads.f k).bind fun t285 => (some t285)) else (some false)) else (some false)) else (some false)))) else (some false)) else (if (t281 == false) = true then ((pair_Name.f a0).bind fun t286 => ((horariumref15_Name.f a0).bind fun t287 => (if t286.toList = t287.toList then (if t275 = t277 then (if (t276 == t278) = true then ((horariumlaw15_heads.f k).bind fun t288 => (some t288)) else (some false)) else (some false)) else (some false)))) else (some false))))) else (some false)) else (some false)) else (some false))) = some r := H
 have A7 := Aside0.mk A70
 clear A70
 replace H := Option.bind_eq_some_iff.mp H
 obtain ⟨t280, A80, H⟩ := H
 replace H : (if (t279 == t280) = true then (if (t271 == t273) = true then (if (t272 == t274) = true then ((pair_Turns.f a0).bind fun t281 => ((horariumref15_Known.f a0).bind fun t282 => (if t282 = true then (if (t281 == (a0 != 12)) = true then ((pair_Name.f a0).bind fun t283 => ((horariumref15_Name.f a0).bind fun t284 => (if t283.toList = t284.toList then (if t275 = t277 then (if (t276 == t278) = true then ((horariumlaw15_heads.f k).bind fun t285 => (some t285)) else (some false)) else (some false)) else (some false)))) else (some false)) else (if (t281 == false) = true then ((pair_Name.f a0).bind fun t286 => ((horariumref15_Name.f a0).bind fun t287 => (if t286.toList = t287.toList then (if t275 = t277 then (if (t276 == t278) = true then ((horariumlaw15_heads.f k).bind fun t288 => (some t288)) else (some false)) else (some false)) else (some false)))) else (some false))))) else (some false)) else (some false)) else (some false)) = some r := H
 have A8 := Aside0.mk A80
 clear A80
 by_cases c9 : (t279 == t280) = true
 ·
  rw [if_pos c9] at H
  have c9b0 : (t279 == t280) = true := c9
  (try (have c9b1 : decide (t279 = t280) = true := by simpa using c9))
  (try (have c9b2 : (t279 == t280) = true := by simpa using c9))
  clear c9
  by_cases c10 : (t271 == t273) = true
  ·
   rw [if_pos c10] at H
   have c10b0 : (t271 == t273) = true := c10
   (try (have c10b1 : decide (t271 = t273) = true := by simpa using c10))
   (try (have c10b2 : (t271 == t273) = true := by simpa using c10))
   clear c10
   by_cases c11 : (t272 == t274) = true
   ·
    rw [if_pos c11] at H
    have c11b0 : (t272 == t274) = true := c11
    (try (have c11b1 : decide (t272 = t274) = true := by simpa using c11))
    (try (have c11b2 : (t272 == t274) = true := by simpa using c11))
    clear c11
    replace H := Option.bind_eq_some_iff.mp H
    obtain ⟨t281, A120, H⟩ := H
    replace H : ((horariumref15_Known.f a0).bind fun t282 => (if t282 = true then (if (t281 == (a0 != 12)) = true then ((pair_Name.f a0).bind fun t283 => ((horariumref15_Name.f a0).bind fun t284 => (if t283.toList = t284.toList then (if t275 = t277 then (if (t276 == t278) = true then ((horariumlaw15_heads.f k).bind fun t285 => (some t285)) else (some false)) else (some false)) else (some false)))) else (some false)) else (if (t281 == false) = true then ((pair_Name.f a0).bind fun t286 => ((horariumref15_Name.f a0).bind fun t287 => (if t286.toList = t287.toList then (if t275 = t277 then (if (t276 == t278) = true then ((horariumlaw15_heads.f k).bind fun t288 => (some t288)) else (some false)) else (some false)) else (some false)))) else (some false)))) = some r := H
    have A12 := Aside0.mk A120
    clear A120
    replace H := Option.bind_eq_some_iff.mp H
    obtain ⟨t282, A130, H⟩ := H
    replace H : (if t282 = true then (if (t281 == (a0 != 12)) = true then ((pair_Name.f a0).bind fun t283 => ((horariumref15_Name.f a0).bind fun t284 => (if t283.toList = t284.toList then (if t275 = t277 then (if (t276 == t278) = true then ((horariumlaw15_heads.f k).bind fun t285 => (some t285)) else (some false)) else (some false)) else (some false)))) else (some false)) else (if (t281 == false) = true then ((pair_Name.f a0).bind fun t286 => ((horariumref15_Name.f a0).bind fun t287 => (if t286.toList = t287.toList then (if t275 = t277 then (if (t276 == t278) = true then ((horariumlaw15_heads.f k).bind fun t288 => (some t288)) else (some false)) else (some false)) else (some false)))) else (some false))) = some r := H
    have A13 := Aside0.mk A130
    clear A130
    by_cases c14 : t282 = true
    ·
     subst c14
     have H1 : (if (t281 == (a0 != 12)) = true then ((pair_Name.f a0).bind fun t283 => ((horariumref15_Name.f a0).bind fun t284 => (if t283.toList = t284.toList then (if t275 = t277 then (if (t276 == t278) = true then ((horariumlaw15_heads.f k).bind fun t285 => (some t285)) else (some false)) else (some false)) else (some false)))) else (some false)) = some r := by rw [if_pos rfl] at H; exact H
     clear H
     have H := H1
     clear H1
     by_cases c15 : (t281 == (a0 != 12)) = true
     ·
      rw [if_pos c15] at H
      have c15b0 : (t281 == (a0 != 12)) = true := c15
      (try (have c15b1 : decide (t281 = (a0 != 12)) = true := by simpa using c15))
      (try (have c15b2 : (t281 == (a0 != 12)) = true := by simpa using c15))
      clear c15
      replace H := Option.bind_eq_some_iff.mp H
      obtain ⟨t283, A160, H⟩ := H
      replace H : ((horariumref15_Name.f a0).bind fun t284 => (if t283.toList = t284.toList then (if t275 = t277 then (if (t276 == t278) = true then ((horariumlaw15_heads.f k).bind fun t285 => (some t285)) else (some false)) else (some false)) else (some false))) = some r := H
      have A16 := Aside0.mk A160
      clear A160
      replace H := Option.bind_eq_some_iff.mp H
      obtain ⟨t284, A170, H⟩ := H
      replace H : (if t283.toList = t284.toList then (if t275 = t277 then (if (t276 == t278) = true then ((horariumlaw15_heads.f k).bind fun t285 => (some t285)) else (some false)) else (some false)) else (some false)) = some r := H
      have A17 := Aside0.mk A170
      clear A170
      by_cases c18 : t283.toList = t284.toList
      ·
       rw [if_pos c18] at H
       have c18b0 : (t283.toList == t284.toList) = true := beq_iff_eq.mpr c18
       have c18b1 : (t283.toList != t284.toList) = false := bne_eq_false_iff_eq.mpr c18
       clear c18
       by_cases c19 : t275 = t277
       ·
        rw [if_pos c19] at H
        have c19b0 : (t275 == t277) = true := beq_iff_eq.mpr c19
        have c19b1 : (t275 != t277) = false := bne_eq_false_iff_eq.mpr c19
        clear c19
        by_cases c20 : (t276 == t278) = true
        ·
         rw [if_pos c20] at H
         have c20b0 : (t276 == t278) = true := c20
         (try (have c20b1 : decide (t276 = t278) = true := by simpa using c20))
         (try (have c20b2 : (t276 == t278) = true := by simpa using c20))
         clear c20
         replace H := Option.bind_eq_some_iff.mp H
         obtain ⟨t285, A210, H⟩ := H
         replace H : (some t285) = some r := H
         have A21 := Aside0.mk A210
         clear A210
         obtain rfl := Option.some.inj H
         go_enter Try.func7, Try.ntmps7
         go_wp2_with (first | ((with_reducible refine gate_callee (f := 18) rfl ?_); refine goesL_ (some 15) rfl rfl Try.func18 (by kernel_rfl) rfl #[.int .i64 a0] rfl (by (try simp only [List.map_toArray, List.map_cons, List.map_nil]); first | done | rfl | (simp only [List.length_drop, List.length_take]; rfl)) ?_; (with_reducible refine (pair_Needs.calls k a0 t271 t272 _ A3.out).mono ?_); rintro e w' ⟨rfl, ⟨nd, rfl⟩⟩; refine ⟨_, rfl, ?_⟩) | ((with_reducible refine gate_callee (f := 19) rfl ?_); refine goesL_ (some 20) rfl rfl Try.func19 (by kernel_rfl) rfl #[.int .i64 a0] rfl (by (try simp only [List.map_toArray, List.map_cons, List.map_nil]); first | done | rfl | (simp only [List.length_drop, List.length_take]; rfl)) ?_; (with_reducible refine (horariumref15_Needs.calls a0 t273 t274 _ A4.out).mono ?_); rintro e w' ⟨rfl, ⟨nd, rfl⟩⟩; refine ⟨_, rfl, ?_⟩) | ((with_reducible refine gate_callee (f := 20) rfl ?_); refine goesL_ (some 25) rfl rfl Try.func20 (by kernel_rfl) rfl #[.string a1] rfl (by (try simp only [List.map_toArray, List.map_cons, List.map_nil]); first | done | rfl | (simp only [List.length_drop, List.length_take]; rfl)) ?_; (with_reducible refine (pair_Kind.calls k a1 t275 t276 _ A5.out).mono ?_); rintro e w22 ⟨rfl, hb⟩; refine ⟨_, rfl, ?_⟩; have n0_ := Aside0.mk (below_step (by repeat (first | (with_reducible first | exact HB.out | apply below_alloc | apply pw_below_drewN | apply below_drew1) | exact HB.out)) hb); clear HB; have HB := n0_; clear n0_; (try clear hb); (try clear hb2); (try clear hk); (try clear hi)) | ((with_reducible refine gate_callee (f := 21) rfl ?_); refine goesL_ (some 30) rfl rfl Try.func21 (by kernel_rfl) rfl #[.string a1] rfl (by (try simp only [List.map_toArray, List.map_cons, List.map_nil]); first | done | rfl | (simp only [List.length_drop, List.length_take]; rfl)) ?_; (with_reducible refine (horariumref15_Kind.calls k a1 t277 t278 _ A6.out).mono ?_); rintro e w23 ⟨rfl, hb⟩; refine ⟨_, rfl, ?_⟩; have n0_ := Aside0.mk (below_step (by repeat (first | (with_reducible first | exact HB.out | apply below_alloc | apply pw_below_drewN | apply below_drew1) | exact HB.out)) hb); clear HB; have HB := n0_; clear n0_; (try clear hb); (try clear hb2); (try clear hk); (try clear hi)) | ((with_reducible refine gate_callee (f := 16) rfl ?_); refine goesL_ (some 34) rfl rfl Try.func16 (by kernel_rfl) rfl #[.int .i64 a0] rfl (by (try simp only [List.map_toArray, List.map_cons, List.map_nil]); first | done | rfl | (simp only [List.length_drop, List.length_take]; rfl)) ?_; (with_reducible refine (pair_Known.calls a0 t279 _ A7.out).mono ?_); rintro e w' ⟨rfl, ⟨nd, rfl⟩⟩; refine ⟨_, rfl, ?_⟩) | ((with_reducible refine gate_callee (f := 22) rfl ?_); refine goesL_ (some 36) rfl rfl Try.func22 (by kernel_rfl) rfl #[.int .i64 a0] rfl (by (try simp only [List.map_toArray, List.map_cons, List.map_nil]); first | done | rfl | (simp only [List.length_drop, List.length_take]; rfl)) ?_; (with_reducible refine (horariumref15_Known.calls a0 t280 _ A8.out).mono ?_); rintro e w' ⟨rfl, ⟨nd, rfl⟩⟩; refine ⟨_, rfl, ?_⟩) | (go_at_call 23; (with_reducible refine (pair_Turns.calls a0 t281 _ A12.out).mono ?_); rintro e w' ⟨rfl, ⟨nd, rfl⟩⟩) | (go_at_call 22; (with_reducible refine (horariumref15_Known.calls a0 true _ A13.out).mono ?_); rintro e w' ⟨rfl, ⟨nd, rfl⟩⟩) | (go_at_call 24; (with_reducible refine (pair_Name.calls a0 t283 _ A16.out).mono ?_); rintro e w24 ⟨rfl, hb⟩; have n0_ := Aside0.mk (below_step (by repeat (first | (with_reducible first | exact HB.out | apply below_alloc | apply pw_below_drewN | apply below_drew1) | exact HB.out)) hb); clear HB; have HB := n0_; clear n0_; (try clear hb); (try clear hb2); (try clear hk); (try clear hi)) | (go_at_call 25; (with_reducible refine (horariumref15_Name.calls a0 t284 _ A17.out).mono ?_); rintro e w25 ⟨rfl, hb⟩; have n0_ := Aside0.mk (below_step (by repeat (first | (with_reducible first | exact HB.out | apply below_alloc | apply pw_below_drewN | apply below_drew1) | exact HB.out)) hb); clear HB; have HB := n0_; clear n0_; (try clear hb); (try clear hb2); (try clear hk); (try clear hi)) | (go_at_call 11; (with_reducible refine (horariumlaw15_heads.calls k  t285 _ HR A21.out).mono ?_); rintro e w26 ⟨rfl, hb⟩; have n0_ := Aside0.mk (below_step (by repeat (first | (with_reducible first | exact HB.out | apply below_alloc | apply pw_below_drewN | apply below_drew1) | exact HB.out)) hb); clear HB; have HB := n0_; clear n0_; (try clear hb); (try clear hb2); (try clear hk); (try clear hi)))
         go_ret
         exact ⟨by first | rfl | (simp [errW_none, errW_some] <;> rfl) | (simp [*, errW_none, errW_some] <;> rfl), by repeat (first | (with_reducible first | exact HB.out | apply below_alloc | apply pw_below_drewN | apply below_drew1) | exact HB.out)⟩
        ·
         rw [if_neg c20] at H
         have c20b0 : (t276 == t278) = false := by simpa using c20
         (try (have c20b1 : decide (t276 = t278) = false := by simpa using c20))
         (try (have c20b2 : (t276 == t278) = false := by simpa using c20))
         (try (have c20b3 : ¬ (t276 = t278) := by simpa using c20))
         clear c20
         exact absurd ((Option.some.inj H).trans HR.out) (by decide)
       ·
        rw [if_neg c19] at H
        have c19b0 : (t275 == t277) = false := beq_eq_false_iff_ne.mpr c19
        have c19b1 : (t275 != t277) = true := bne_iff_ne.mpr c19
        exact absurd ((Option.some.inj H).trans HR.out) (by decide)
      ·
       rw [if_neg c18] at H
       have c18b0 : (t283.toList == t284.toList) = false := beq_eq_false_iff_ne.mpr c18
       have c18b1 : (t283.toList != t284.toList) = true := bne_iff_ne.mpr c18
       exact absurd ((Option.some.inj H).trans HR.out) (by decide)
     ·
      rw [if_neg c15] at H
      have c15b0 : (t281 == (a0 != 12)) = false := by simpa using c15
      (try (have c15b1 : decide (t281 = (a0 != 12)) = false := by simpa using c15))
      (try (have c15b2 : (t281 == (a0 != 12)) = false := by simpa using c15))
      (try (have c15b3 : ¬ (t281 = (a0 != 12)) := by simpa using c15))
      clear c15
      exact absurd ((Option.some.inj H).trans HR.out) (by decide)
    ·
     replace c14 := Bool.eq_false_iff.mpr c14
     subst c14
     have H1 : (if (t281 == false) = true then ((pair_Name.f a0).bind fun t286 => ((horariumref15_Name.f a0).bind fun t287 => (if t286.toList = t287.toList then (if t275 = t277 then (if (t276 == t278) = true then ((horariumlaw15_heads.f k).bind fun t288 => (some t288)) else (some false)) else (some false)) else (some false)))) else (some false)) = some r := by rw [if_neg (show ¬ (false = true) by decide)] at H; exact H
     clear H
     have H := H1
     clear H1
     by_cases c27 : (t281 == false) = true
     ·
      rw [if_pos c27] at H
      have c27b0 : (t281 == false) = true := c27
      (try (have c27b1 : decide (t281 = false) = true := by simpa using c27))
      (try (have c27b2 : (t281 == false) = true := by simpa using c27))
      clear c27
      replace H := Option.bind_eq_some_iff.mp H
      obtain ⟨t286, A280, H⟩ := H
      replace H : ((horariumref15_Name.f a0).bind fun t287 => (if t286.toList = t287.toList then (if t275 = t277 then (if (t276 == t278) = true then ((horariumlaw15_heads.f k).bind fun t288 => (some t288)) else (some false)) else (some false)) else (some false))) = some r := H
      have A28 := Aside0.mk A280
      clear A280
      replace H := Option.bind_eq_some_iff.mp H
      obtain ⟨t287, A290, H⟩ := H
      replace H : (if t286.toList = t287.toList then (if t275 = t277 then (if (t276 == t278) = true then ((horariumlaw15_heads.f k).bind fun t288 => (some t288)) else (some false)) else (some false)) else (some false)) = some r := H
      have A29 := Aside0.mk A290
      clear A290
      by_cases c30 : t286.toList = t287.toList
      ·
       rw [if_pos c30] at H
       have c30b0 : (t286.toList == t287.toList) = true := beq_iff_eq.mpr c30
       have c30b1 : (t286.toList != t287.toList) = false := bne_eq_false_iff_eq.mpr c30
       clear c30
       by_cases c31 : t275 = t277
       ·
        rw [if_pos c31] at H
        have c31b0 : (t275 == t277) = true := beq_iff_eq.mpr c31
        have c31b1 : (t275 != t277) = false := bne_eq_false_iff_eq.mpr c31
        clear c31
        by_cases c32 : (t276 == t278) = true
        ·
         rw [if_pos c32] at H
         have c32b0 : (t276 == t278) = true := c32
         (try (have c32b1 : decide (t276 = t278) = true := by simpa using c32))
         (try (have c32b2 : (t276 == t278) = true := by simpa using c32))
         clear c32
         replace H := Option.bind_eq_some_iff.mp H
         obtain ⟨t288, A330, H⟩ := H
         replace H : (some t288) = some r := H
         have A33 := Aside0.mk A330
         clear A330
         obtain rfl := Option.some.inj H
         go_enter Try.func7, Try.ntmps7
         go_wp2_with (first | ((with_reducible refine gate_callee (f := 18) rfl ?_); refine goesL_ (some 15) rfl rfl Try.func18 (by kernel_rfl) rfl #[.int .i64 a0] rfl (by (try simp only [List.map_toArray, List.map_cons, List.map_nil]); first | done | rfl | (simp only [List.length_drop, List.length_take]; rfl)) ?_; (with_reducible refine (pair_Needs.calls k a0 t271 t272 _ A3.out).mono ?_); rintro e w' ⟨rfl, ⟨nd, rfl⟩⟩; refine ⟨_, rfl, ?_⟩) | ((with_reducible refine gate_callee (f := 19) rfl ?_); refine goesL_ (some 20) rfl rfl Try.func19 (by kernel_rfl) rfl #[.int .i64 a0] rfl (by (try simp only [List.map_toArray, List.map_cons, List.map_nil]); first | done | rfl | (simp only [List.length_drop, List.length_take]; rfl)) ?_; (with_reducible refine (horariumref15_Needs.calls a0 t273 t274 _ A4.out).mono ?_); rintro e w' ⟨rfl, ⟨nd, rfl⟩⟩; refine ⟨_, rfl, ?_⟩) | ((with_reducible refine gate_callee (f := 20) rfl ?_); refine goesL_ (some 25) rfl rfl Try.func20 (by kernel_rfl) rfl #[.string a1] rfl (by (try simp only [List.map_toArray, List.map_cons, List.map_nil]); first | done | rfl | (simp only [List.length_drop, List.length_take]; rfl)) ?_; (with_reducible refine (pair_Kind.calls k a1 t275 t276 _ A5.out).mono ?_); rintro e w34 ⟨rfl, hb⟩; refine ⟨_, rfl, ?_⟩; have n0_ := Aside0.mk (below_step (by repeat (first | (with_reducible first | exact HB.out | apply below_alloc | apply pw_below_drewN | apply below_drew1) | exact HB.out)) hb); clear HB; have HB := n0_; clear n0_; (try clear hb); (try clear hb2); (try clear hk); (try clear hi)) | ((with_reducible refine gate_callee (f := 21) rfl ?_); refine goesL_ (some 30) rfl rfl Try.func21 (by kernel_rfl) rfl #[.string a1] rfl (by (try simp only [List.map_toArray, List.map_cons, List.map_nil]); first | done | rfl | (simp only [List.length_drop, List.length_take]; rfl)) ?_; (with_reducible refine (horariumref15_Kind.calls k a1 t277 t278 _ A6.out).mono ?_); rintro e w35 ⟨rfl, hb⟩; refine ⟨_, rfl, ?_⟩; have n0_ := Aside0.mk (below_step (by repeat (first | (with_reducible first | exact HB.out | apply below_alloc | apply pw_below_drewN | apply below_drew1) | exact HB.out)) hb); clear HB; have HB := n0_; clear n0_; (try clear hb); (try clear hb2); (try clear hk); (try clear hi)) | ((with_reducible refine gate_callee (f := 16) rfl ?_); refine goesL_ (some 34) rfl rfl Try.func16 (by kernel_rfl) rfl #[.int .i64 a0] rfl (by (try simp only [List.map_toArray, List.map_cons, List.map_nil]); first | done | rfl | (simp only [List.length_drop, List.length_take]; rfl)) ?_; (with_reducible refine (pair_Known.calls a0 t279 _ A7.out).mono ?_); rintro e w' ⟨rfl, ⟨nd, rfl⟩⟩; refine ⟨_, rfl, ?_⟩) | ((with_reducible refine gate_callee (f := 22) rfl ?_); refine goesL_ (some 36) rfl rfl Try.func22 (by kernel_rfl) rfl #[.int .i64 a0] rfl (by (try simp only [List.map_toArray, List.map_cons, List.map_nil]); first | done | rfl | (simp only [List.length_drop, List.length_take]; rfl)) ?_; (with_reducible refine (horariumref15_Known.calls a0 t280 _ A8.out).mono ?_); rintro e w' ⟨rfl, ⟨nd, rfl⟩⟩; refine ⟨_, rfl, ?_⟩) | (go_at_call 23; (with_reducible refine (pair_Turns.calls a0 t281 _ A12.out).mono ?_); rintro e w' ⟨rfl, ⟨nd, rfl⟩⟩) | (go_at_call 22; (with_reducible refine (horariumref15_Known.calls a0 false _ A13.out).mono ?_); rintro e w' ⟨rfl, ⟨nd, rfl⟩⟩) | (go_at_call 24; (with_reducible refine (pair_Name.calls a0 t286 _ A28.out).mono ?_); rintro e w36 ⟨rfl, hb⟩; have n0_ := Aside0.mk (below_step (by repeat (first | (with_reducible first | exact HB.out | apply below_alloc | apply pw_below_drewN | apply below_drew1) | exact HB.out)) hb); clear HB; have HB := n0_; clear n0_; (try clear hb); (try clear hb2); (try clear hk); (try clear hi)) | (go_at_call 25; (with_reducible refine (horariumref15_Name.calls a0 t287 _ A29.out).mono ?_); rintro e w37 ⟨rfl, hb⟩; have n0_ := Aside0.mk (below_step (by repeat (first | (with_reducible first | exact HB.out | apply below_alloc | apply pw_below_drewN | apply below_drew1) | exact HB.out)) hb); clear HB; have HB := n0_; clear n0_; (try clear hb); (try clear hb2); (try clear hk); (try clear hi)) | (go_at_call 11; (with_reducible refine (horariumlaw15_heads.calls k  t288 _ HR A33.out).mono ?_); rintro e w38 ⟨rfl, hb⟩; have n0_ := Aside0.mk (below_step (by repeat (first | (with_reducible first | exact HB.out | apply below_alloc | apply pw_below_drewN | apply below_drew1) | exact HB.out)) hb); clear HB; have HB := n0_; clear n0_; (try clear hb); (try clear hb2); (try clear hk); (try clear hi)))
         go_ret
         exact ⟨by first | rfl | (simp [errW_none, errW_some] <;> rfl) | (simp [*, errW_none, errW_some] <;> rfl), by repeat (first | (with_reducible first | exact HB.out | apply below_alloc | apply pw_below_drewN | apply below_drew1) | exact HB.out)⟩
        ·
         rw [if_neg c32] at H
         have c32b0 : (t276 == t278) = false := by simpa using c32
         (try (have c32b1 : decide (t276 = t278) = false := by simpa using c32))
         (try (have c32b2 : (t276 == t278) = false := by simpa using c32))
         (try (have c32b3 : ¬ (t276 = t278) := by simpa using c32))
         clear c32
         exact absurd ((Option.some.inj H).trans HR.out) (by decide)
       ·
        rw [if_neg c31] at H
        have c31b0 : (t275 == t277) = false := beq_eq_false_iff_ne.mpr c31
        have c31b1 : (t275 != t277) = true := bne_iff_ne.mpr c31
        exact absurd ((Option.some.inj H).trans HR.out) (by decide)
      ·
       rw [if_neg c30] at H
       have c30b0 : (t286.toList == t287.toList) = false := beq_eq_false_iff_ne.mpr c30
       have c30b1 : (t286.toList != t287.toList) = true := bne_iff_ne.mpr c30
       exact absurd ((Option.some.inj H).trans HR.out) (by decide)
     ·
      rw [if_neg c27] at H
      have c27b0 : (t281 == false) = false := by simpa using c27
      (try (have c27b1 : decide (t281 = false) = false := by simpa using c27))
      (try (have c27b2 : (t281 == false) = false := by simpa using c27))
      (try (have c27b3 : ¬ (t281 = false) := by simpa using c27))
      clear c27
      exact absurd ((Option.some.inj H).trans HR.out) (by decide)
   ·
    rw [if_neg c11] at H
    have c11b0 : (t272 == t274) = false := by simpa using c11
    (try (have c11b1 : decide (t272 = t274) = false := by simpa using c11))
    (try (have c11b2 : (t272 == t274) = false := by simpa using c11))
    (try (have c11b3 : ¬ (t272 = t274) := by simpa using c11))
    clear c11
    exact absurd ((Option.some.inj H).trans HR.out) (by decide)
  ·
   rw [if_neg c10] at H
   have c10b0 : (t271 == t273) = false := by simpa using c10
   (try (have c10b1 : decide (t271 = t273) = false := by simpa using c10))
   (try (have c10b2 : (t271 == t273) = false := by simpa using c10))
   (try (have c10b3 : ¬ (t271 = t273) := by simpa using c10))
   clear c10
   exact absurd ((Option.some.inj H).trans HR.out) (by decide)
 ·
  rw [if_neg c9] at H
  have c9b0 : (t279 == t280) = false := by simpa using c9
  (try (have c9b1 : decide (t279 = t280) = false := by simpa using c9))
  (try (have c9b2 : (t279 == t280) = false := by simpa using c9))
  (try (have c9b3 : ¬ (t279 = t280) := by simpa using c9))
  clear c9
  exact absurd ((Option.some.inj H).trans HR.out) (by decide)

end Go.Proofs.Ytddheiloodfkdaa.Q
