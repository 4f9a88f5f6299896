/- Walks of the functions that the law reaches: by programs of this session, over a tool's print. -/
import Derived.Test.YtjiekmbonmbhlaaGFnLiftsx0
import Derived.Test.YtjiekmbonmbhlaaGFnLiftsx4
namespace Go.Proofs.Ytjiekmbonmbhlaa.GFnLifts
open Go.RowKit Go.Proofs.YtjiekmbonmbhlaaW.PrintWords Go.Proofs.YtjiekmbonmbhlaaW.PrintLast Go.Proofs.YtjiekmbonmbhlaaW.PrintMore
attribute [local go_sem] max2_int min2_int max_two min_two max_three min_three max_four min_four   -- for this text's walks alone
set_option linter.unusedVariables false
set_option linter.unusedSimpArgs false

/-! ### spec_l01Below: function 73 -/
def spec_l01Below.f (s0_0 : List Int) (s0_1 : Int) (s0_2 : Int) (a1 : Int) : Option (Int × Int × Int) := if a1 ≤ 0 then (some (0, s0_1, s0_2)) else (if a1 ≤ 256 then ((spec_l01Byte.f s0_0 s0_1 s0_2).bind fun bt131 => (if a1 = 0 then (none) else (some (Int.tmod bt131.1 a1, bt131.2.1, bt131.2.2)))) else ((spec_l01Byte.f s0_0 s0_1 s0_2).bind fun bt134 => ((spec_l01Byte.f s0_0 bt134.2.1 bt134.2.2).bind fun bt137 => ((spec_l01Byte.f s0_0 bt137.2.1 bt137.2.2).bind fun bt140 => ((spec_l01Byte.f s0_0 bt140.2.1 bt140.2.2).bind fun bt143 => (if a1 = 0 then (none) else (some (Int.tmod (wrap64 ((wrap64 ((wrap64 ((wrap64 (bt134.1 * 16777216)) + (wrap64 (bt137.1 * 65536)))) + (wrap64 (bt140.1 * 256)))) + bt143.1)) a1, bt143.2.1, bt143.2.2))))))))
set_option maxHeartbeats 8000000 in
set_option maxRecDepth 100000 in
theorem spec_l01Below.calls (g : Nat) (s0_0 : List Int) (s0_1 : Int) (s0_2 : Int) (a1 : Int) (r1 : Int) (r2 : Int) (r3 : Int) (w0 w : World) (hI : IsS119 w0 w g s0_0 s0_1 s0_2) (hB : Below w0.heap.size w0 w) (h : spec_l01Below.f s0_0 s0_1 s0_2 a1 = some (r1, r2, r3)) :
    Calls Try.prog 73 #[.pointer (some ⟨g, 0, none⟩), .int .i64 a1] w fun e w' => e = .returned (.int .i64 r1) ∧ IsS119 w0 w' g s0_0 r2 r3 ∧ Below w0.heap.size w0 w' ∧ KeepBut w w' g none := by
  have HI0 := Aside0.mk hI
  have HK := Aside0.mk (KeepBut.refl w g none)
  have HL := Aside0.mk hB.size
  clear hI
  have HW0 := Aside0.mk hB.size
  have HB := Aside0.mk hB
  clear hB
  have H : (if a1 ≤ 0 then (some (0, s0_1, s0_2)) else (if a1 ≤ 256 then ((spec_l01Byte.f s0_0 s0_1 s0_2).bind fun bt131 => (if a1 = 0 then (none) else (some (Int.tmod bt131.1 a1, bt131.2.1, bt131.2.2)))) else ((spec_l01Byte.f s0_0 s0_1 s0_2).bind fun bt134 => ((spec_l01Byte.f s0_0 bt134.2.1 bt134.2.2).bind fun bt137 => ((spec_l01Byte.f s0_0 bt137.2.1 bt137.2.2).bind fun bt140 => ((spec_l01Byte.f s0_0 bt140.2.1 bt140.2.2).bind fun bt143 => (if a1 = 0 then (none) else (some (Int.tmod (wrap64 ((wrap64 ((wrap64 ((wrap64 (bt134.1 * 16777216)) + (wrap64 (bt137.1 * 65536)))) + (wrap64 (bt140.1 * 256)))) + bt143.1)) a1, bt143.2.1, bt143.2.2))))))))) = some (r1, r2, r3) := h
  clear h
  by_cases c3 : a1 ≤ 0
  · rw [if_pos c3] at H
    have c3b0 : decide (a1 ≤ 0) = true := decide_eq_true c3
    clear c3
    simp only [Option.some.injEq, Prod.mk.injEq] at H
    obtain ⟨rfl, rfl, rfl⟩ := H
    go_enter Try.func73, Try.ntmps73
    go_wp2
    go_ret
    exact ⟨by first|rfl|(simp [errW_none, errW_some] <;> rfl)|(simp [*, errW_none, errW_some] <;> rfl), by repeat (first|(with_reducible first|exact HI0.out|apply IsS119.alloc|apply IsS119.drewN|apply IsS119.drew|apply IsS119.set_1|apply IsS119.set_2)|exact HI0.out), by repeat (first|(with_reducible first|exact HB.out|apply zI|apply zG|apply zH|refine zJ ?_ (IsS119.ge HI0.out))|exact HB.out), by repeat (first|(with_reducible first|exact HK.out|apply KeepBut.set_|apply keep_drewN|apply keep_drew|apply keep_alloc)|exact HK.out)⟩
  · rw [if_neg c3] at H
    have c3b0 : decide (a1 ≤ 0) = false := decide_eq_false c3
    clear c3
    by_cases c4 : a1 ≤ 256
    · rw [if_pos c4] at H
      have c4b0 : decide (a1 ≤ 256) = true := decide_eq_true c4
      clear c4
      replace H := Option.bind_eq_some_iff.mp H
      obtain ⟨⟨t131, t132, t133⟩, A50, H⟩ := H
      replace H : (if a1 = 0 then (none) else (some (Int.tmod t131 a1, t132, t133))) = some (r1, r2, r3) := H
      have A5 := Aside0.mk A50
      clear A50
      go_enter Try.func73, Try.ntmps73
      go_wp2_with (first|((with_reducible refine gate_callee (f := 111) rfl ?_); refine goesL_ (some 14) rfl rfl Try.func111 (by kernel_rfl) rfl #[.pointer (some ⟨g, 0, none⟩)] rfl (by (try simp only [List.map_toArray, List.map_cons, List.map_nil]); first|done|rfl|(simp only [List.length_drop, List.length_take]; rfl)) ?_; (with_reducible refine (spec_l01Byte.calls g s0_0 s0_1 s0_2 t131 t132 t133 w0 _ ?side1 ?side2 A5.out).mono ?_); (case side1 => repeat (first|(with_reducible first|exact HI0.out|apply IsS119.alloc|apply IsS119.drewN|apply IsS119.drew|apply IsS119.set_1|apply IsS119.set_2)|exact HI0.out)); (case side2 => repeat (first|(with_reducible first|exact HB.out|apply zI|apply zG|apply zH|refine zJ ?_ (IsS119.ge HI0.out))|exact HB.out)); rintro e w7 ⟨rfl, hi, hb, hk⟩; refine ⟨_, rfl, ?_⟩; have n0_ := Aside0.mk (KeepBut.trans (by repeat (first|(with_reducible first|exact HK.out|apply KeepBut.set_|apply keep_drewN|apply keep_drew|apply keep_alloc)|exact HK.out)) hk (.inl rfl)); have n1_ := Aside0.mk (hb); have n2_ := Aside0.mk (hi); clear HK; clear HB; clear HI0; have HK := n0_; have HB := n1_; have HI0 := n2_; clear n0_ n1_ n2_; (try clear hb); (try clear hb2); (try clear hk); (try clear hi); (refine Classical.byCases (p := (a1 = 0)) (fun c6 => ?zp6) (fun c6 => ?zn6); (case' zn6 => (rw [if_neg c6] at H); (have c6b0 : (a1 == 0) = false := beq_eq_false_iff_ne.mpr c6); (have c6b1 : (a1 != 0) = true := bne_iff_ne.mpr c6); (simp only [Option.some.injEq, Prod.mk.injEq] at H); (obtain ⟨rfl, rfl, rfl⟩ := H)); (case' zp6 => (rw [if_pos c6] at H); (exact absurd H (by simp))))))
      · go_ret
        exact ⟨by first|rfl|(simp [errW_none, errW_some] <;> rfl)|(simp [*, errW_none, errW_some] <;> rfl), by repeat (first|(with_reducible first|exact HI0.out|apply IsS119.alloc|apply IsS119.drewN|apply IsS119.drew|apply IsS119.set_1|apply IsS119.set_2)|exact HI0.out), by repeat (first|(with_reducible first|exact HB.out|apply zI|apply zG|apply zH|refine zJ ?_ (IsS119.ge HI0.out))|exact HB.out), by repeat (first|(with_reducible first|exact HK.out|apply KeepBut.set_|apply keep_drewN|apply keep_drew|apply keep_alloc)|exact HK.out)⟩
    · rw [if_neg c4] at H
      have c4b0 : decide (a1 ≤ 256) = false := decide_eq_false c4
      clear c4
      replace H := Option.bind_eq_some_iff.mp H
      obtain ⟨⟨t134, t135, t136⟩, A80, H⟩ := H
      replace H : ((spec_l01Byte.f s0_0 t135 t136).bind fun bt137 => ((spec_l01Byte.f s0_0 bt137.2.1 bt137.2.2).bind fun bt140 => ((spec_l01Byte.f s0_0 bt140.2.1 bt140.2.2).bind fun bt143 => (if a1 = 0 then (none) else (some (Int.tmod (wrap64 ((wrap64 ((wrap64 ((wrap64 (t134 * 16777216)) + (wrap64 (bt137.1 * 65536)))) + (wrap64 (bt140.1 * 256)))) + bt143.1)) a1, bt143.2.1, bt143.2.2)))))) = some (r1, r2, r3) := H
      have A8 := Aside0.mk A80
      clear A80
      replace H := Option.bind_eq_some_iff.mp H
      obtain ⟨⟨t137, t138, t139⟩, A90, H⟩ := H
      replace H : ((spec_l01Byte.f s0_0 t138 t139).bind fun bt140 => ((spec_l01Byte.f s0_0 bt140.2.1 bt140.2.2).bind fun bt143 => (if a1 = 0 then (none) else (some (Int.tmod (wrap64 ((wrap64 ((wrap64 ((wrap64 (t134 * 16777216)) + (wrap64 (t137 * 65536)))) + (wrap64 (bt140.1 * 256)))) + bt143.1)) a1, bt143.2.1, bt143.2.2))))) = some (r1, r2, r3) := H
      have A9 := Aside0.mk A90
      clear A90
      replace H := Option.bind_eq_some_iff.mp H
      obtain ⟨⟨t140, t141, t142⟩, A100, H⟩ := H
      replace H : ((spec_l01Byte.f s0_0 t141 t142).bind fun bt143 => (if a1 = 0 then (none) else (some (Int.tmod (wrap64 ((wrap64 ((wrap64 ((wrap64 (t134 * 16777216)) + (wrap64 (t137 * 65536)))) + (wrap64 (t140 * 256)))) + bt143.1)) a1, bt143.2.1, bt143.2.2)))) = some (r1, r2, r3) := H
      have A10 := Aside0.mk A100
      clear A100
      replace H := Option.bind_eq_some_iff.mp H
      obtain ⟨⟨t143, t144, t145⟩, A110, H⟩ := H
      replace H : (if a1 = 0 then (none) else (some (Int.tmod (wrap64 ((wrap64 ((wrap64 ((wrap64 (t134 * 16777216)) + (wrap64 (t137 * 65536)))) + (wrap64 (t140 * 256)))) + t143)) a1, t144, t145))) = some (r1, r2, r3) := H
      have A11 := Aside0.mk A110
      clear A110
      go_enter Try.func73, Try.ntmps73
      go_wp2_with (first|((with_reducible refine gate_callee (f := 111) rfl ?_); refine goesL_ (some 18) rfl rfl Try.func111 (by kernel_rfl) rfl #[.pointer (some ⟨g, 0, none⟩)] rfl (by (try simp only [List.map_toArray, List.map_cons, List.map_nil]); first|done|rfl|(simp only [List.length_drop, List.length_take]; rfl)) ?_; (with_reducible refine (spec_l01Byte.calls g s0_0 s0_1 s0_2 t134 t135 t136 w0 _ ?side1 ?side2 A8.out).mono ?_); (case side1 => repeat (first|(with_reducible first|exact HI0.out|apply IsS119.alloc|apply IsS119.drewN|apply IsS119.drew|apply IsS119.set_1|apply IsS119.set_2)|exact HI0.out)); (case side2 => repeat (first|(with_reducible first|exact HB.out|apply zI|apply zG|apply zH|refine zJ ?_ (IsS119.ge HI0.out))|exact HB.out)); rintro e w13 ⟨rfl, hi, hb, hk⟩; refine ⟨_, rfl, ?_⟩; have n0_ := Aside0.mk (KeepBut.trans (by repeat (first|(with_reducible first|exact HK.out|apply KeepBut.set_|apply keep_drewN|apply keep_drew|apply keep_alloc)|exact HK.out)) hk (.inl rfl)); have n1_ := Aside0.mk (hb); have n2_ := Aside0.mk (hi); clear HK; clear HB; clear HI0; have HK := n0_; have HB := n1_; have HI0 := n2_; clear n0_ n1_ n2_; (try clear hb); (try clear hb2); (try clear hk); (try clear hi))|((with_reducible refine gate_callee (f := 111) rfl ?_); refine goesL_ (some 20) rfl rfl Try.func111 (by kernel_rfl) rfl #[.pointer (some ⟨g, 0, none⟩)] rfl (by (try simp only [List.map_toArray, List.map_cons, List.map_nil]); first|done|rfl|(simp only [List.length_drop, List.length_take]; rfl)) ?_; (with_reducible refine (spec_l01Byte.calls g s0_0 t135 t136 t137 t138 t139 w0 _ ?side1 ?side2 A9.out).mono ?_); (case side1 => repeat (first|(with_reducible first|exact HI0.out|apply IsS119.alloc|apply IsS119.drewN|apply IsS119.drew|apply IsS119.set_1|apply IsS119.set_2)|exact HI0.out)); (case side2 => repeat (first|(with_reducible first|exact HB.out|apply zI|apply zG|apply zH|refine zJ ?_ (IsS119.ge HI0.out))|exact HB.out)); rintro e w14 ⟨rfl, hi, hb, hk⟩; refine ⟨_, rfl, ?_⟩; have n0_ := Aside0.mk (KeepBut.trans (by repeat (first|(with_reducible first|exact HK.out|apply KeepBut.set_|apply keep_drewN|apply keep_drew|apply keep_alloc)|exact HK.out)) hk (.inl rfl)); have n1_ := Aside0.mk (hb); have n2_ := Aside0.mk (hi); clear HK; clear HB; clear HI0; have HK := n0_; have HB := n1_; have HI0 := n2_; clear n0_ n1_ n2_; (try clear hb); (try clear hb2); (try clear hk); (try clear hi))|((with_reducible refine gate_callee (f := 111) rfl ?_); refine goesL_ (some 22) rfl rfl Try.func111 (by kernel_rfl) rfl #[.pointer (some ⟨g, 0, none⟩)] rfl (by (try simp only [List.map_toArray, List.map_cons, List.map_nil]); first|done|rfl|(simp only [List.length_drop, List.length_take]; rfl)) ?_; (with_reducible refine (spec_l01Byte.calls g s0_0 t138 t139 t140 t141 t142 w0 _ ?side1 ?side2 A10.out).mono ?_); (case side1 => repeat (first|(with_reducible first|exact HI0.out|apply IsS119.alloc|apply IsS119.drewN|apply IsS119.drew|apply IsS119.set_1|apply IsS119.set_2)|exact HI0.out)); (case side2 => repeat (first|(with_reducible first|exact HB.out|apply zI|apply zG|apply zH|refine zJ ?_ (IsS119.ge HI0.out))|exact HB.out)); rintro e w15 ⟨rfl, hi, hb, hk⟩; refine ⟨_, rfl, ?_⟩; have n0_ := Aside0.mk (KeepBut.trans (by repeat (first|(with_reducible first|exact HK.out|apply KeepBut.set_|apply keep_drewN|apply keep_drew|apply keep_alloc)|exact HK.out)) hk (.inl rfl)); have n1_ := Aside0.mk (hb); have n2_ := Aside0.mk (hi); clear HK; clear HB; clear HI0; have HK := n0_; have HB := n1_; have HI0 := n2_; clear n0_ n1_ n2_; (try clear hb); (try clear hb2); (try clear hk); (try clear hi))|((with_reducible refine gate_callee (f := 111) rfl ?_); refine goesL_ (some 24) rfl rfl Try.func111 (by kernel_rfl) rfl #[.pointer (some ⟨g, 0, none⟩)] rfl (by (try simp only [List.map_toArray, List.map_cons, List.map_nil]); first|done|rfl|(simp only [List.length_drop, List.length_take]; rfl)) ?_; (with_reducible refine (spec_l01Byte.calls g s0_0 t141 t142 t143 t144 t145 w0 _ ?side1 ?side2 A11.out).mono ?_); (case side1 => repeat (first|(with_reducible first|exact HI0.out|apply IsS119.alloc|apply IsS119.drewN|apply IsS119.drew|apply IsS119.set_1|apply IsS119.set_2)|exact HI0.out)); (case side2 => repeat (first|(with_reducible first|exact HB.out|apply zI|apply zG|apply zH|refine zJ ?_ (IsS119.ge HI0.out))|exact HB.out)); rintro e w16 ⟨rfl, hi, hb, hk⟩; refine ⟨_, rfl, ?_⟩; have n0_ := Aside0.mk (KeepBut.trans (by repeat (first|(with_reducible first|exact HK.out|apply KeepBut.set_|apply keep_drewN|apply keep_drew|apply keep_alloc)|exact HK.out)) hk (.inl rfl)); have n1_ := Aside0.mk (hb); have n2_ := Aside0.mk (hi); clear HK; clear HB; clear HI0; have HK := n0_; have HB := n1_; have HI0 := n2_; clear n0_ n1_ n2_; (try clear hb); (try clear hb2); (try clear hk); (try clear hi); (refine Classical.byCases (p := (a1 = 0)) (fun c12 => ?zp7) (fun c12 => ?zn7); (case' zn7 => (rw [if_neg c12] at H); (have c12b0 : (a1 == 0) = false := beq_eq_false_iff_ne.mpr c12); (have c12b1 : (a1 != 0) = true := bne_iff_ne.mpr c12); (simp only [Option.some.injEq, Prod.mk.injEq] at H); (obtain ⟨rfl, rfl, rfl⟩ := H)); (case' zp7 => (rw [if_pos c12] at H); (exact absurd H (by simp))))))
      · go_ret
        exact ⟨by first|rfl|(simp [errW_none, errW_some] <;> rfl)|(simp [*, errW_none, errW_some] <;> rfl), by repeat (first|(with_reducible first|exact HI0.out|apply IsS119.alloc|apply IsS119.drewN|apply IsS119.drew|apply IsS119.set_1|apply IsS119.set_2)|exact HI0.out), by repeat (first|(with_reducible first|exact HB.out|apply zI|apply zG|apply zH|refine zJ ?_ (IsS119.ge HI0.out))|exact HB.out), by repeat (first|(with_reducible first|exact HK.out|apply KeepBut.set_|apply keep_drewN|apply keep_drew|apply keep_alloc)|exact HK.out)⟩

/-! ### spec_l01Pick: function 112 -/
def spec_l01Pick.f (s0_0 : List Int) (s0_1 : Int) (s0_2 : Int) (l1 : List ByteArray) : Option (ByteArray × Int × Int) := (spec_l01Below.f s0_0 s0_1 s0_2 (l1.length : Int)).bind fun bt146 => (if 0 ≤ bt146.1 then (if bt146.1 < (l1.length : Int) then (some (rdOf ByteArray.empty l1 bt146.1, bt146.2.1, bt146.2.2)) else (none)) else (none))
set_option maxHeartbeats 8000000 in
set_option maxRecDepth 100000 in
theorem spec_l01Pick.calls (g : Nat) (s0_0 : List Int) (s0_1 : Int) (s0_2 : Int) (A1 : Option Addr) (c1 : Nat) (l1 : List ByteArray) (r1 : ByteArray) (r2 : Int) (r3 : Int) (w0 w : World) (hI : IsS119 w0 w g s0_0 s0_1 s0_2) (hB : Below w0.heap.size w0 w) (hr1 : Kd.C Kd.string w A1 l1.length l1) (hc1 : l1.length ≤ c1) (hf1 : ∀ ad, A1 = some ad → 0 < l1.length → ad.block ≠ g) (h : spec_l01Pick.f s0_0 s0_1 s0_2 l1 = some (r1, r2, r3)) :
    Calls Try.prog 112 #[.pointer (some ⟨g, 0, none⟩), .slice A1 l1.length c1] w fun e w' => e = .returned (.string r1) ∧ IsS119 w0 w' g s0_0 r2 r3 ∧ Below w0.heap.size w0 w' ∧ KeepBut w w' g none := by
  have HR1 := Aside0.mk hr1
  have HC1 := Aside0.mk hc1
  clear hr1 hc1
  have HI0 := Aside0.mk hI
  have HK := Aside0.mk (KeepBut.refl w g none)
  have HL := Aside0.mk hB.size
  clear hI
  have HW0 := Aside0.mk hB.size
  have HB := Aside0.mk hB
  clear hB
  have H : ((spec_l01Below.f s0_0 s0_1 s0_2 (l1.length : Int)).bind fun bt146 => (if 0 ≤ bt146.1 then (if bt146.1 < (l1.length : Int) then (some (rdOf ByteArray.empty l1 bt146.1, bt146.2.1, bt146.2.2)) else (none)) else (none))) = some (r1, r2, r3) := h
  clear h
  replace H := Option.bind_eq_some_iff.mp H
  obtain ⟨⟨t146, t147, t148⟩, A30, H⟩ := H
  replace H : (if 0 ≤ t146 then (if t146 < (l1.length : Int) then (some (rdOf ByteArray.empty l1 t146, t147, t148)) else (none)) else (none)) = some (r1, r2, r3) := H
  have A3 := Aside0.mk A30
  clear A30
  go_enter Try.func112, Try.ntmps112
  go_wp2_with (first|((with_reducible refine gate_callee (f := 73) rfl ?_); refine goesL_ (some 9) rfl rfl Try.func73 (by kernel_rfl) rfl #[.pointer (some ⟨g, 0, none⟩), .int .i64 (l1.length : Int)] rfl (by (try simp only [List.map_toArray, List.map_cons, List.map_nil]); first|done|rfl|(simp only [List.length_drop, List.length_take]; rfl)) ?_; (with_reducible refine (spec_l01Below.calls g s0_0 s0_1 s0_2 (l1.length : Int) t146 t147 t148 w0 _ ?side1 ?side2 A3.out).mono ?_); (case side1 => repeat (first|(with_reducible first|exact HI0.out|apply IsS119.alloc|apply IsS119.drewN|apply IsS119.drew|apply IsS119.set_1|apply IsS119.set_2)|exact HI0.out)); (case side2 => repeat (first|(with_reducible first|exact HB.out|apply zI|apply zG|apply zH|refine zJ ?_ (IsS119.ge HI0.out))|exact HB.out)); rintro e w6 ⟨rfl, hi, hb, hk⟩; refine ⟨_, rfl, ?_⟩; have n0_ := Aside0.mk (KeepBut.trans (by repeat (first|(with_reducible first|exact HK.out|apply KeepBut.set_|apply keep_drewN|apply keep_drew|apply keep_alloc)|exact HK.out)) hk (.inl rfl)); have n1_ := Aside0.mk (hb); have n2_ := Aside0.mk (hi); clear HK; clear HB; clear HI0; have HK := n0_; have HB := n1_; have HI0 := n2_; clear n0_ n1_ n2_; (try clear hb); (try clear hb2); (try clear hk); (try clear hi); (refine Classical.byCases (p := (0 ≤ t146)) (fun c4 => ?zp9) (fun c4 => ?zn9); (case' zn9 => (rw [if_neg c4] at H); (exact absurd H (by simp))); (case' zp9 => (rw [if_pos c4] at H); (have c4b0 : decide (0 ≤ t146) = true := decide_eq_true c4); (clear c4); (refine Classical.byCases (p := (t146 < (l1.length : Int))) (fun c5 => ?zp8) (fun c5 => ?zn8); (case' zn8 => (rw [if_neg c5] at H); (exact absurd H (by simp))); (case' zp8 => (rw [if_pos c5] at H); (have c5b0 : decide (t146 < (l1.length : Int)) = true := decide_eq_true c5); (clear c5); (simp only [Option.some.injEq, Prod.mk.injEq] at H); (obtain ⟨rfl, rfl, rfl⟩ := H); (have p149 : 0 ≤ (t146 : Int) := of_decide_eq_true (by first|(with_reducible assumption)|assumption)); (have q149 : t146 < (l1.length : Int) := of_decide_eq_true (by first|(with_reducible assumption)|assumption)); (obtain ⟨ad149, e149, hx149_0⟩ := Kd.at_string HR1.out t146 p149 q149); (cases e149); (replace hx149_0 := keep_cell HK.out hx149_0 (by first|(rw [add_block]; exact hf1 _ rfl (by omega))|exact hf1 _ rfl (by omega)|exact hf1 ad149 rfl (by omega))); (replace p149 := eq_true p149); (replace q149 := eq_true q149)))))))
  · go_ret
    exact ⟨by first|rfl|(simp [errW_none, errW_some] <;> rfl)|(simp [*, errW_none, errW_some] <;> rfl), by repeat (first|(with_reducible first|exact HI0.out|apply IsS119.alloc|apply IsS119.drewN|apply IsS119.drew|apply IsS119.set_1|apply IsS119.set_2)|exact HI0.out), by repeat (first|(with_reducible first|exact HB.out|apply zI|apply zG|apply zH|refine zJ ?_ (IsS119.ge HI0.out))|exact HB.out), by repeat (first|(with_reducible first|exact HK.out|apply KeepBut.set_|apply keep_drewN|apply keep_drew|apply keep_alloc)|exact HK.out)⟩

/-! ### spec_l03Key: function 74 -/
def spec_l03Key.f (s0_0 : List Int) (s0_1 : Int) (s0_2 : Int) : Option (ByteArray × Int × Int) := (spec_l01Pick.f s0_0 s0_1 s0_2 (([(⟨#[97]⟩ : ByteArray), (⟨#[98]⟩ : ByteArray), (⟨#[99]⟩ : ByteArray), (⟨#[100]⟩ : ByteArray), (⟨#[101]⟩ : ByteArray), (⟨#[102]⟩ : ByteArray), (⟨#[103]⟩ : ByteArray), (⟨#[104]⟩ : ByteArray), (⟨#[107, 49]⟩ : ByteArray), (⟨#[107, 50]⟩ : ByteArray), (⟨#[107, 51]⟩ : ByteArray), (⟨#[107, 101, 121]⟩ : ByteArray)] : List ByteArray))).bind fun bt153 => (some (bt153.1, bt153.2.1, bt153.2.2))
set_option maxHeartbeats 8000000 in
set_option maxRecDepth 100000 in
theorem spec_l03Key.calls (g : Nat) (s0_0 : List Int) (s0_1 : Int) (s0_2 : Int) (r1 : ByteArray) (r2 : Int) (r3 : Int) (w0 w : World) (hI : IsS119 w0 w g s0_0 s0_1 s0_2) (hB : Below w0.heap.size w0 w) (h : spec_l03Key.f s0_0 s0_1 s0_2 = some (r1, r2, r3)) :
    Calls Try.prog 74 #[.pointer (some ⟨g, 0, none⟩)] w fun e w' => e = .returned (.string r1) ∧ IsS119 w0 w' g s0_0 r2 r3 ∧ Below w0.heap.size w0 w' ∧ KeepBut w w' g none := by
  have HI0 := Aside0.mk hI
  have HK := Aside0.mk (KeepBut.refl w g none)
  have HL := Aside0.mk hB.size
  clear hI
  have HW0 := Aside0.mk hB.size
  have HB := Aside0.mk hB
  clear hB
  have H : ((spec_l01Pick.f s0_0 s0_1 s0_2 (([(⟨#[97]⟩ : ByteArray), (⟨#[98]⟩ : ByteArray), (⟨#[99]⟩ : ByteArray), (⟨#[100]⟩ : ByteArray), (⟨#[101]⟩ : ByteArray), (⟨#[102]⟩ : ByteArray), (⟨#[103]⟩ : ByteArray), (⟨#[104]⟩ : ByteArray), (⟨#[107, 49]⟩ : ByteArray), (⟨#[107, 50]⟩ : ByteArray), (⟨#[107, 51]⟩ : ByteArray), (⟨#[107, 101, 121]⟩ : ByteArray)] : List ByteArray))).bind fun bt153 => (some (bt153.1, bt153.2.1, bt153.2.2))) = some (r1, r2, r3) := h
  clear h
  obtain ⟨y150, hy150⟩ : ∃ y_ : List ByteArray, y_ = (([(⟨#[97]⟩ : ByteArray), (⟨#[98]⟩ : ByteArray), (⟨#[99]⟩ : ByteArray), (⟨#[100]⟩ : ByteArray), (⟨#[101]⟩ : ByteArray), (⟨#[102]⟩ : ByteArray), (⟨#[103]⟩ : ByteArray), (⟨#[104]⟩ : ByteArray), (⟨#[107, 49]⟩ : ByteArray), (⟨#[107, 50]⟩ : ByteArray), (⟨#[107, 51]⟩ : ByteArray), (⟨#[107, 101, 121]⟩ : ByteArray)] : List ByteArray)) := ⟨_, rfl⟩
  replace H : ((spec_l01Pick.f s0_0 s0_1 s0_2 y150).bind fun bt153 => (some (bt153.1, bt153.2.1, bt153.2.2))) = some (r1, r2, r3) := by first|(rw [hy150]; with_reducible exact H)|(have H2_ := (Option.bind_some _ _).symm.trans H; rw [hy150]; with_reducible exact H2_)|(have H2_ := (Option.bind_some _ _).symm.trans H; with_reducible exact H2_)|with_reducible exact H|(rw [hy150]; exact H)|exact H
  have Ny150 := Aside0.mk hy150
  clear hy150
  replace H := Option.bind_eq_some_iff.mp H
  obtain ⟨⟨t153, t154, t155⟩, A20, H⟩ := H
  replace H : (some (t153, t154, t155)) = some (r1, r2, r3) := H
  have A2 := Aside0.mk A20
  clear A20
  simp only [Option.some.injEq, Prod.mk.injEq] at H
  obtain ⟨rfl, rfl, rfl⟩ := H
  go_enter Try.func74, Try.ntmps74
  go_wp2_with (first|((with_reducible refine gate_dst (N := 4) rfl ?_); refine Kd.R_lit Kd.string _ 9 ?hg (N := 4) ?hd (xs := ([(⟨#[97]⟩ : ByteArray), (⟨#[98]⟩ : ByteArray), (⟨#[99]⟩ : ByteArray), (⟨#[100]⟩ : ByteArray), (⟨#[101]⟩ : ByteArray), (⟨#[102]⟩ : ByteArray), (⟨#[103]⟩ : ByteArray), (⟨#[104]⟩ : ByteArray), (⟨#[107, 49]⟩ : ByteArray), (⟨#[107, 50]⟩ : ByteArray), (⟨#[107, 51]⟩ : ByteArray), (⟨#[107, 101, 121]⟩ : ByteArray)] : List ByteArray)) (inner := [.string (⟨#[97]⟩ : ByteArray), .string (⟨#[98]⟩ : ByteArray), .string (⟨#[99]⟩ : ByteArray), .string (⟨#[100]⟩ : ByteArray), .string (⟨#[101]⟩ : ByteArray), .string (⟨#[102]⟩ : ByteArray), .string (⟨#[103]⟩ : ByteArray), .string (⟨#[104]⟩ : ByteArray), .string (⟨#[107, 49]⟩ : ByteArray), .string (⟨#[107, 50]⟩ : ByteArray), .string (⟨#[107, 51]⟩ : ByteArray), .string (⟨#[107, 101, 121]⟩ : ByteArray)]) (ok := fun _ => True) (okp := fun _ => True) ?hr ?hp (fun _ hk => hk) trivial (Below.refl _ _) (Nat.le_refl _) (by simp) ?_; (case hd => rfl); (case hg => rfl); (case hr => first|(go_simp; done)|(go_simp; rfl)); (case hp => exact (Reps.one (show Kd.M Kd.string _ _ _ (⟨#[97]⟩ : ByteArray) [.string (⟨#[97]⟩ : ByteArray)] from rfl) (Reps.one (show Kd.M Kd.string _ _ _ (⟨#[98]⟩ : ByteArray) [.string (⟨#[98]⟩ : ByteArray)] from rfl) (Reps.one (show Kd.M Kd.string _ _ _ (⟨#[99]⟩ : ByteArray) [.string (⟨#[99]⟩ : ByteArray)] from rfl) (Reps.one (show Kd.M Kd.string _ _ _ (⟨#[100]⟩ : ByteArray) [.string (⟨#[100]⟩ : ByteArray)] from rfl) (Reps.one (show Kd.M Kd.string _ _ _ (⟨#[101]⟩ : ByteArray) [.string (⟨#[101]⟩ : ByteArray)] from rfl) (Reps.one (show Kd.M Kd.string _ _ _ (⟨#[102]⟩ : ByteArray) [.string (⟨#[102]⟩ : ByteArray)] from rfl) (Reps.one (show Kd.M Kd.string _ _ _ (⟨#[103]⟩ : ByteArray) [.string (⟨#[103]⟩ : ByteArray)] from rfl) (Reps.one (show Kd.M Kd.string _ _ _ (⟨#[104]⟩ : ByteArray) [.string (⟨#[104]⟩ : ByteArray)] from rfl) (Reps.one (show Kd.M Kd.string _ _ _ (⟨#[107, 49]⟩ : ByteArray) [.string (⟨#[107, 49]⟩ : ByteArray)] from rfl) (Reps.one (show Kd.M Kd.string _ _ _ (⟨#[107, 50]⟩ : ByteArray) [.string (⟨#[107, 50]⟩ : ByteArray)] from rfl) (Reps.one (show Kd.M Kd.string _ _ _ (⟨#[107, 51]⟩ : ByteArray) [.string (⟨#[107, 51]⟩ : ByteArray)] from rfl) (Reps.one (show Kd.M Kd.string _ _ _ (⟨#[107, 101, 121]⟩ : ByteArray) [.string (⟨#[107, 101, 121]⟩ : ByteArray)] from rfl) (Reps.none _ _)))))))))))))); intro v151 w3 ho4 hb hg_ hnew_; clear hg_ hnew_; (first|rw [← Ny150.out] at ho4|(simp only [Int.reduceToNat] at ho4; rw [← Ny150.out] at ho4)); have n0_ := Aside0.mk (Kd.R_lower ho4 (keep_size (w := w) (g := g) (row := none) (by repeat (first|(with_reducible first|exact HK.out|apply KeepBut.set_|apply keep_drewN|apply keep_drew|apply keep_alloc)|exact HK.out)))); have n1_ := Aside0.mk (IsS119.below (by repeat (first|(with_reducible first|exact HI0.out|apply IsS119.alloc|apply IsS119.drewN|apply IsS119.drew|apply IsS119.set_1|apply IsS119.set_2)|exact HI0.out)) hb); have n2_ := Aside0.mk (KeepBut.trans (by repeat (first|(with_reducible first|exact HK.out|apply KeepBut.set_|apply keep_drewN|apply keep_drew|apply keep_alloc)|exact HK.out)) (KeepBut.of_below hb g none) (.inl rfl)); have n3_ := Aside0.mk (zN (by repeat (first|(with_reducible first|exact HB.out|apply zI|apply zG|apply zH|refine zJ ?_ (IsS119.ge HI0.out))|exact HB.out)) hb); clear HI0; clear HK; clear HB; have HO152 := n0_; have HI0 := n1_; have HK := n2_; have HB := n3_; clear n0_ n1_ n2_ n3_; clear hb ho4; obtain ⟨Ao5, co5, eo5⟩ := Kd.R_slice HO152.out; subst eo5)|((with_reducible refine gate_callee (f := 112) rfl ?_); refine goesL_ (some 5) rfl rfl Try.func112 (by kernel_rfl) rfl #[.pointer (some ⟨g, 0, none⟩), .slice Ao5 y150.length co5] rfl (by (try simp only [List.map_toArray, List.map_cons, List.map_nil]); first|done|rfl|(simp only [List.length_drop, List.length_take]; rfl)) ?_; (with_reducible refine (spec_l01Pick.calls g s0_0 s0_1 s0_2 _ _ y150 t153 t154 t155 w0 _ ?side1 ?side2 ?side3 ?side4 ?side5 A2.out).mono ?_); (case side1 => repeat (first|(with_reducible first|exact HI0.out|apply IsS119.alloc|apply IsS119.drewN|apply IsS119.drew|apply IsS119.set_1|apply IsS119.set_2)|exact HI0.out)); (case side2 => repeat (first|(with_reducible first|exact HB.out|apply zI|apply zG|apply zH|refine zJ ?_ (IsS119.ge HI0.out))|exact HB.out)); (case side3 => repeat (first|exact (Kd.R_reads' HO152.out).2.2|(with_reducible refine Kd.C_alloc ?_ _)|(with_reducible refine Kd.C_drewN ?_ _)|(with_reducible refine Kd.C_drew ?_))); (case side4 => exact (Kd.R_reads' HO152.out).2.1); (case side5 => exact far_slice (IsS119.own_ne HI0.out HO152.out (by decide))); rintro e w6 ⟨rfl, hi, hb, hk⟩; refine ⟨_, rfl, ?_⟩; have n0_ := Aside0.mk (zR (Kd.R_keep (IsS119.apart (show IsS119 w0 _ g s0_0 s0_1 s0_2 from by repeat (first|(with_reducible first|exact HI0.out|apply IsS119.alloc|apply IsS119.drewN|apply IsS119.drew|apply IsS119.set_1|apply IsS119.set_2)|exact HI0.out)) (by (with_reducible repeat (first|apply zE|apply zD|apply zF)); exact HO152.out) (by decide)) hk (fun _ h => h.2)) (fun _ h => h.1)); have n1_ := Aside0.mk (KeepBut.trans (by repeat (first|(with_reducible first|exact HK.out|apply KeepBut.set_|apply keep_drewN|apply keep_drew|apply keep_alloc)|exact HK.out)) hk (.inl rfl)); have n2_ := Aside0.mk (hb); have n3_ := Aside0.mk (hi); clear HO152; clear HK; clear HB; clear HI0; have HO152 := n0_; have HK := n1_; have HB := n2_; have HI0 := n3_; clear n0_ n1_ n2_ n3_; (try clear hb); (try clear hb2); (try clear hk); (try clear hi)))
  go_ret
  exact ⟨by first|rfl|(simp [errW_none, errW_some] <;> rfl)|(simp [*, errW_none, errW_some] <;> rfl), by repeat (first|(with_reducible first|exact HI0.out|apply IsS119.alloc|apply IsS119.drewN|apply IsS119.drew|apply IsS119.set_1|apply IsS119.set_2)|exact HI0.out), by repeat (first|(with_reducible first|exact HB.out|apply zI|apply zG|apply zH|refine zJ ?_ (IsS119.ge HI0.out))|exact HB.out), by repeat (first|(with_reducible first|exact HK.out|apply KeepBut.set_|apply keep_drewN|apply keep_drew|apply keep_alloc)|exact HK.out)⟩

/-! ### spec_l01In: function 68 -/
def spec_l01In.f (a0 : Int) (a1 : Int) (a2 : Int) : Option (Bool) := if a0 ≥ a1 then (some (decide (a0 ≤ a2))) else (some false)
set_option maxHeartbeats 8000000 in
set_option maxRecDepth 100000 in
theorem spec_l01In.calls (a0 : Int) (a1 : Int) (a2 : Int) (r : Bool) (w : World) (h : spec_l01In.f a0 a1 a2 = some r) :
    Calls Try.prog 68 #[.int .i64 a0, .int .i64 a1, .int .i64 a2] w fun e w' => e = .returned (.bool r) ∧ Drawn0 w w' := by
  have H : (if a0 ≥ a1 then (some (decide (a0 ≤ a2))) else (some false)) = some r := h
  clear h
  by_cases c4 : a0 ≥ a1
  · rw [if_pos c4] at H
    have c4b0 : decide (a1 ≤ a0) = true := decide_eq_true c4
    clear c4
    obtain rfl := Option.some.inj H
    go_enter Try.func68, Try.ntmps68
    go_wp2
    go_ret
    exact ⟨by first|rfl|(simp; done)|(simp [*]; done), by repeat (first|exact Drawn0.refl _|apply Drawn0.step)⟩
  · rw [if_neg c4] at H
    have c4b0 : decide (a1 ≤ a0) = false := decide_eq_false c4
    clear c4
    obtain rfl := Option.some.inj H
    go_enter Try.func68, Try.ntmps68
    go_wp2
    go_ret
    exact ⟨by first|rfl|(simp; done)|(simp [*]; done), by repeat (first|exact Drawn0.refl _|apply Drawn0.step)⟩

/-! ### spec_ArenaOk: function 90 -/
mutual
def spec_ArenaOk.l0 : Nat → Int → List Bool → Int → List (S81) → Int → Option (Bool)
 |0, _, _, _, _, _ => none
 |k + 1, x3, x4, x5, x157000, x157001 => if x5 = (-1) then (spec_ArenaOk.l1 k x3 x4 0 x157000 x157001) else ((spec_l01In.f x5 0 (wrap64 (x3 - 1))).bind fun t161 => (if t161 = true then (if 0 ≤ x5 then (if x5 < (x4.length : Int) then (if rdOf false x4 x5 = true then (some false) else (if x5 < (x157000.length : Int) then (if (rd_T81 x157000 x5).f1 = true then (some false) else (spec_ArenaOk.l0 k x3 (x4.set (x5 : Int).toNat true) ((rd_T81 x157000 x5).f4) x157000 x157001)) else (none))) else (none)) else (none)) else (some false)))
def spec_ArenaOk.l1 : Nat → Int → List Bool → Int → List (S81) → Int → Option (Bool)
 |0, _, _, _, _, _ => none
 |k + 1, x3, x4, x6, x157000, x157001 => if x6 < x3 then (if 0 ≤ x6 then (if x6 < (x157000.length : Int) then ((spec_l01In.f ((rd_T81 x157000 x6).f0) 0 41666665).bind fun t168 => (if t168 = true then (if x6 < (x4.length : Int) then (spec_ArenaOk.j2 k x3 x4 x6 (((rd_T81 x157000 x6).f1) == (rdOf false x4 x6)) x157000 x157001 ((rd_T81 x157000 x6).f0) ((rd_T81 x157000 x6).f1) ((rd_T81 x157000 x6).f2) ((rd_T81 x157000 x6).f3) ((rd_T81 x157000 x6).f4)) else (none)) else (spec_ArenaOk.j2 k x3 x4 x6 true x157000 x157001 ((rd_T81 x157000 x6).f0) ((rd_T81 x157000 x6).f1) ((rd_T81 x157000 x6).f2) ((rd_T81 x157000 x6).f3) ((rd_T81 x157000 x6).f4)))) else (none)) else (none)) else (some true)
def spec_ArenaOk.j2 : Nat → Int → List Bool → Int → Bool → List (S81) → Int → Int → Bool → ByteArray → ByteArray → Int → Option (Bool)
 |0, _, _, _, _, _, _, _, _, _, _, _ => none
 |k + 1, x3, x4, x6, x70, x157000, x157001, x168000, x168001, x168002, x168003, x168004 => if x70 = true then (some false) else (if x168001 = true then ((spec_l01In.f (x168002.size : Int) 1 12).bind fun t170 => (if t170 = true then (if (x168003.size : Int) > 20 then (some false) else (if x168004 = 0 then (spec_ArenaOk.l1 k x3 x4 (wrap64 (x6 + 1)) x157000 x157001) else (some false))) else (some false))) else (if x168002.toList = ([] : List UInt8) then (if x168003.toList = ([] : List UInt8) then (spec_ArenaOk.l1 k x3 x4 (wrap64 (x6 + 1)) x157000 x157001) else (some false)) else (some false)))
end
def spec_ArenaOk.f (k : Nat) (l0_0 : List (S81)) (a0_1 : Int) : Option (Bool) := (spec_l01In.f (l0_0.length : Int) 1 24).bind fun t157 => (if t157 = true then (if 0 ≤ (l0_0.length : Int) then (if ((l0_0.length : Int) : Int).toNat ≤ 281474976710656 then (spec_ArenaOk.l0 k (l0_0.length : Int) (List.replicate ((l0_0.length : Int) : Int).toNat false) a0_1 l0_0 a0_1) else (none)) else (none)) else (some false))
theorem spec_ArenaOk.mono_l : ∀ k, (∀ y0 y1 y2 y3 y4, LeO (spec_ArenaOk.l0 k y0 y1 y2 y3 y4) (spec_ArenaOk.l0 (k + 1) y0 y1 y2 y3 y4)) ∧ (∀ y0 y1 y2 y3 y4, LeO (spec_ArenaOk.l1 k y0 y1 y2 y3 y4) (spec_ArenaOk.l1 (k + 1) y0 y1 y2 y3 y4)) ∧ (∀ y0 y1 y2 y3 y4 y5 y6 y7 y8 y9 y10, LeO (spec_ArenaOk.j2 k y0 y1 y2 y3 y4 y5 y6 y7 y8 y9 y10) (spec_ArenaOk.j2 (k + 1) y0 y1 y2 y3 y4 y5 y6 y7 y8 y9 y10))
 |0 => ⟨fun _ _ _ _ _ r h => by simp [spec_ArenaOk.l0] at h, fun _ _ _ _ _ r h => by simp [spec_ArenaOk.l1] at h, fun _ _ _ _ _ _ _ _ _ _ _ r h => by simp [spec_ArenaOk.j2] at h⟩
 |k + 1 => by
    obtain ⟨ih0, ih1, ih2⟩ := spec_ArenaOk.mono_l k
    refine ⟨?_, ?_, ?_⟩
    · intro y0 y1 y2 y3 y4
      unfold spec_ArenaOk.l0
      repeat' first
     |(with_reducible exact ih0 _ _ _ _ _)
     |(with_reducible exact ih1 _ _ _ _ _)
     |(with_reducible exact ih2 _ _ _ _ _ _ _ _ _ _ _)
     |(with_reducible exact LeO.refl _)
     |(with_reducible exact LeO.none _)
     |(with_reducible refine LeO.ite ?_ ?_)
     |(with_reducible refine LeO.bind ?_ (fun _ => ?_))
     |exact ih0 _ _ _ _ _
     |exact ih1 _ _ _ _ _
     |exact ih2 _ _ _ _ _ _ _ _ _ _ _
     |exact LeO.none _
     |refine LeO.ite ?_ ?_
     |refine LeO.bind ?_ (fun _ => ?_)
    · intro y0 y1 y2 y3 y4
      unfold spec_ArenaOk.l1
      repeat' first
     |(with_reducible exact ih0 _ _ _ _ _)
     |(with_reducible exact ih1 _ _ _ _ _)
     |(with_reducible exact ih2 _ _ _ _ _ _ _ _ _ _ _)
     |(with_reducible exact LeO.refl _)
     |(with_reducible exact LeO.none _)
     |(with_reducible refine LeO.ite ?_ ?_)
     |(with_reducible refine LeO.bind ?_ (fun _ => ?_))
     |exact ih0 _ _ _ _ _
     |exact ih1 _ _ _ _ _
     |exact ih2 _ _ _ _ _ _ _ _ _ _ _
     |exact LeO.none _
     |refine LeO.ite ?_ ?_
     |refine LeO.bind ?_ (fun _ => ?_)
    · intro y0 y1 y2 y3 y4 y5 y6 y7 y8 y9 y10
      unfold spec_ArenaOk.j2
      repeat' first
     |(with_reducible exact ih0 _ _ _ _ _)
     |(with_reducible exact ih1 _ _ _ _ _)
     |(with_reducible exact ih2 _ _ _ _ _ _ _ _ _ _ _)
     |(with_reducible exact LeO.refl _)
     |(with_reducible exact LeO.none _)
     |(with_reducible refine LeO.ite ?_ ?_)
     |(with_reducible refine LeO.bind ?_ (fun _ => ?_))
     |exact ih0 _ _ _ _ _
     |exact ih1 _ _ _ _ _
     |exact ih2 _ _ _ _ _ _ _ _ _ _ _
     |exact LeO.none _
     |refine LeO.ite ?_ ?_
     |refine LeO.bind ?_ (fun _ => ?_)
theorem spec_ArenaOk.mono : ∀ a0 a1 k, LeO (spec_ArenaOk.f k a0 a1) (spec_ArenaOk.f (k + 1) a0 a1) := by
  intro a0 a1 k
  obtain ⟨ih0, ih1, ih2⟩ := spec_ArenaOk.mono_l k
  unfold spec_ArenaOk.f
  repeat' first
     |(with_reducible exact ih0 _ _ _ _ _)
     |(with_reducible exact ih1 _ _ _ _ _)
     |(with_reducible exact ih2 _ _ _ _ _ _ _ _ _ _ _)
     |(with_reducible exact LeO.refl _)
     |(with_reducible exact LeO.none _)
     |(with_reducible refine LeO.ite ?_ ?_)
     |(with_reducible refine LeO.bind ?_ (fun _ => ?_))
     |exact ih0 _ _ _ _ _
     |exact ih1 _ _ _ _ _
     |exact ih2 _ _ _ _ _ _ _ _ _ _ _
     |exact LeO.none _
     |refine LeO.ite ?_ ?_
     |refine LeO.bind ?_ (fun _ => ?_)
set_option maxHeartbeats 8000000 in
set_option maxRecDepth 100000 in
theorem spec_ArenaOk.calls (k : Nat) (A0_0 : Option Addr) (c0_0 : Nat) (l0_0 : List (S81)) (a0_1 : Int) (r : Bool) (w : World) (hr0_0 : Kd.C k81 w A0_0 l0_0.length l0_0) (hc0_0 : l0_0.length ≤ c0_0) (h : spec_ArenaOk.f k l0_0 a0_1 = some r) :
    Calls Try.prog 90 #[.agg #[.slice A0_0 l0_0.length c0_0, .int .i64 a0_1]] w fun e w' => e = .returned (.bool r) ∧ Below w.heap.size w w' := by
  have hu65 := Try.underlying65
  have hu81 := Try.underlying81
  have HR0_0 := Aside0.mk hr0_0
  have HC0_0 := Aside0.mk hc0_0
  clear hr0_0 hc0_0
  have HB := Aside0.mk (Below.refl w.heap.size w)
  have H : ((spec_l01In.f (l0_0.length : Int) 1 24).bind fun t157 => (if t157 = true then (if 0 ≤ (l0_0.length : Int) then (if ((l0_0.length : Int) : Int).toNat ≤ 281474976710656 then (spec_ArenaOk.l0 k (l0_0.length : Int) (List.replicate ((l0_0.length : Int) : Int).toNat false) a0_1 l0_0 a0_1) else (none)) else (none)) else (some false))) = some r := h
  clear h
  replace H := Option.bind_eq_some_iff.mp H
  obtain ⟨t157, A20, H⟩ := H
  replace H : (if t157 = true then (if 0 ≤ (l0_0.length : Int) then (if ((l0_0.length : Int) : Int).toNat ≤ 281474976710656 then (spec_ArenaOk.l0 k (l0_0.length : Int) (List.replicate ((l0_0.length : Int) : Int).toNat false) a0_1 l0_0 a0_1) else (none)) else (none)) else (some false)) = some r := H
  have A2 := Aside0.mk A20
  clear A20
  by_cases c3 : t157 = true
  · subst c3
    have H1 : (if 0 ≤ (l0_0.length : Int) then (if ((l0_0.length : Int) : Int).toNat ≤ 281474976710656 then (spec_ArenaOk.l0 k (l0_0.length : Int) (List.replicate ((l0_0.length : Int) : Int).toNat false) a0_1 l0_0 a0_1) else (none)) else (none)) = some r := by rw [if_pos rfl] at H; exact H
    clear H
    have H := H1
    clear H1
    by_cases c4 : 0 ≤ (l0_0.length : Int)
    · rw [if_pos c4] at H
      have c4b0 := eq_true c4
      have c4b1 : decide (0 ≤ (l0_0.length : Int)) = true := decide_eq_true c4
      clear c4
      by_cases c5 : ((l0_0.length : Int) : Int).toNat ≤ 281474976710656
      · rw [if_pos c5] at H
        have c5b0 := eq_true c5
        have c5b1 : decide (((l0_0.length : Int) : Int).toNat ≤ 281474976710656) = true := decide_eq_true c5
        clear c5
        obtain ⟨y158, hy158⟩ : ∃ y_ : List Bool, y_ = (List.replicate ((l0_0.length : Int) : Int).toNat false) := ⟨_, rfl⟩
        replace H : (spec_ArenaOk.l0 k (l0_0.length : Int) y158 a0_1 l0_0 a0_1) = some r := by first|(rw [hy158]; with_reducible exact H)|(have H2_ := (Option.bind_some _ _).symm.trans H; rw [hy158]; with_reducible exact H2_)|(have H2_ := (Option.bind_some _ _).symm.trans H; with_reducible exact H2_)|with_reducible exact H|(rw [hy158]; exact H)|exact H
        have Ny158 := Aside0.mk hy158
        clear hy158
        have H' := Aside0.mk H
        clear H
        go_enter Try.func90, Try.ntmps90
        go_wp2_with (first|((with_reducible refine gate_dst (N := 1) rfl ?_); (try (refine gate_guard (by rfl) ?_; dsimp only)); refine box_event ?hg (N := 1) ?hd (cs := #[.slice A0_0 l0_0.length c0_0, .int .i64 a0_1]) (t := 65) ?hr ?_; (case hd => rfl); (case hg => rfl); (case hr => first|(go_simp; done)|(go_simp; rfl)); intro gb156 hg w6 hbox hb; have n0_ := Aside0.mk (zN (by repeat (first|(with_reducible first|exact HB.out|apply zI|apply zG|apply zH)|exact HB.out)) hb); have n1_ := Aside0.mk (hbox); have n2_ := Aside0.mk ((by rw [hg]; exact (below_size (by repeat (first|(with_reducible first|exact HB.out|apply zI|apply zG|apply zH)|exact HB.out))) : w.heap.size ≤ gb156)); have n3_ := Aside0.mk ((by rw [hg]; exact (below_size (by repeat (first|(with_reducible first|exact HB.out|apply zI|apply zG|apply zH)|exact HB.out))) : w.heap.size ≤ gb156)); clear HB; have HB := n0_; have BK156 := n1_; have GW156 := n2_; have GE156 := n3_; clear n0_ n1_ n2_ n3_; clear hb hbox hg; obtain ⟨hcz7_0, hcz7_1, hfz7_0, hfz7_1⟩ := zb2 BK156.out)|(go_at_call 68; (with_reducible refine (spec_l01In.calls (l0_0.length : Int) 1 24 true _ A2.out).mono ?_); rintro e w' ⟨rfl, ⟨nd, rfl⟩⟩; (try first|exact ⟨rfl, _, World.drewN_drewN _ _ _⟩|exact ⟨rfl, _, Eq.trans (World.drewN_drewN _ _ _) (congrArg (World.drewN _) (Nat.add_assoc _ _ _))⟩))|((with_reducible refine gate_dst (N := 15) rfl ?_); (try (refine gate_guard (by rfl) ?_; dsimp only)); refine Kd.R_make Kd.bool _ 4 rfl (N := 15) rfl 127 _ _ rfl (l0_0.length : Int) rfl rfl Try.underlying127 (.bool false) 1 info4 rfl (by decide) (by omega) false (ok := fun _ => True) (okp := fun _ => True) rfl (fun _ hk => hk) trivial (of_decide_eq_true (by first|(with_reducible assumption)|assumption)) (Nat.le_trans (Nat.mul_le_mul_right _ (of_decide_eq_true (by first|(with_reducible assumption)|assumption) : (l0_0.length : Int).toNat ≤ 281474976710656)) (by omega)) (Below.refl _ _) (Nat.le_refl _) ?_; intro v159 w8 ho9 hb hg_ hnew_; clear hg_ hnew_; (first|rw [← Ny158.out] at ho9|(simp only [Int.reduceToNat] at ho9; rw [← Ny158.out] at ho9)); have n0_ := Aside0.mk (Kd.R_lower ho9 (below_size (by repeat (first|(with_reducible first|exact HB.out|apply zI|apply zG|apply zH|refine zJ ?_ GE156.out)|exact HB.out)))); have n1_ := Aside0.mk (zK (g := gb156) (o := .cells #[.slice A0_0 l0_0.length c0_0, .int .i64 a0_1] 65 (0, 0)) (by (with_reducible repeat (first|refine zA ?_ _|refine zC ?_|refine zB ?_ _)); exact BK156.out) hb); have n2_ := Aside0.mk (zN (by repeat (first|(with_reducible first|exact HB.out|apply zI|apply zG|apply zH|refine zJ ?_ GE156.out)|exact HB.out)) hb); clear BK156; clear HB; have HO160 := n0_; have BK156 := n1_; have HB := n2_; clear n0_ n1_ n2_; clear hb ho9; obtain ⟨hcz10_0, hcz10_1, hfz10_0, hfz10_1⟩ := zb2 BK156.out))
        repeat (go_quiet (first|((with_reducible refine gate_dst (N := 1) rfl ?_); (try (refine gate_guard (by rfl) ?_; dsimp only)); refine box_event ?hg (N := 1) ?hd (cs := #[.slice A0_0 l0_0.length c0_0, .int .i64 a0_1]) (t := 65) ?hr ?_; (case hd => rfl); (case hg => rfl); (case hr => first|(go_simp; done)|(go_simp; rfl)); intro gb156 hg w6 hbox hb; have n0_ := Aside0.mk (zN (by repeat (first|(with_reducible first|exact HB.out|apply zI|apply zG|apply zH)|exact HB.out)) hb); have n1_ := Aside0.mk (hbox); have n2_ := Aside0.mk ((by rw [hg]; exact (below_size (by repeat (first|(with_reducible first|exact HB.out|apply zI|apply zG|apply zH)|exact HB.out))) : w.heap.size ≤ gb156)); have n3_ := Aside0.mk ((by rw [hg]; exact (below_size (by repeat (first|(with_reducible first|exact HB.out|apply zI|apply zG|apply zH)|exact HB.out))) : w.heap.size ≤ gb156)); clear HB; have HB := n0_; have BK156 := n1_; have GW156 := n2_; have GE156 := n3_; clear n0_ n1_ n2_ n3_; clear hb hbox hg; obtain ⟨hcz7_0, hcz7_1, hfz7_0, hfz7_1⟩ := zb2 BK156.out)|(go_at_call 68; (with_reducible refine (spec_l01In.calls (l0_0.length : Int) 1 24 true _ A2.out).mono ?_); rintro e w' ⟨rfl, ⟨nd, rfl⟩⟩; (try first|exact ⟨rfl, _, World.drewN_drewN _ _ _⟩|exact ⟨rfl, _, Eq.trans (World.drewN_drewN _ _ _) (congrArg (World.drewN _) (Nat.add_assoc _ _ _))⟩))|((with_reducible refine gate_dst (N := 15) rfl ?_); (try (refine gate_guard (by rfl) ?_; dsimp only)); refine Kd.R_make Kd.bool _ 4 rfl (N := 15) rfl 127 _ _ rfl (l0_0.length : Int) rfl rfl Try.underlying127 (.bool false) 1 info4 rfl (by decide) (by omega) false (ok := fun _ => True) (okp := fun _ => True) rfl (fun _ hk => hk) trivial (of_decide_eq_true (by first|(with_reducible assumption)|assumption)) (Nat.le_trans (Nat.mul_le_mul_right _ (of_decide_eq_true (by first|(with_reducible assumption)|assumption) : (l0_0.length : Int).toNat ≤ 281474976710656)) (by omega)) (Below.refl _ _) (Nat.le_refl _) ?_; intro v159 w8 ho9 hb hg_ hnew_; clear hg_ hnew_; (first|rw [← Ny158.out] at ho9|(simp only [Int.reduceToNat] at ho9; rw [← Ny158.out] at ho9)); have n0_ := Aside0.mk (Kd.R_lower ho9 (below_size (by repeat (first|(with_reducible first|exact HB.out|apply zI|apply zG|apply zH|refine zJ ?_ GE156.out)|exact HB.out)))); have n1_ := Aside0.mk (zK (g := gb156) (o := .cells #[.slice A0_0 l0_0.length c0_0, .int .i64 a0_1] 65 (0, 0)) (by (with_reducible repeat (first|refine zA ?_ _|refine zC ?_|refine zB ?_ _)); exact BK156.out) hb); have n2_ := Aside0.mk (zN (by repeat (first|(with_reducible first|exact HB.out|apply zI|apply zG|apply zH|refine zJ ?_ GE156.out)|exact HB.out)) hb); clear BK156; clear HB; have HO160 := n0_; have BK156 := n1_; have HB := n2_; clear n0_ n1_ n2_; clear hb ho9; obtain ⟨hcz10_0, hcz10_1, hfz10_0, hfz10_1⟩ := zb2 BK156.out)); try go_wp2_with (first|((with_reducible refine gate_dst (N := 1) rfl ?_); (try (refine gate_guard (by rfl) ?_; dsimp only)); refine box_event ?hg (N := 1) ?hd (cs := #[.slice A0_0 l0_0.length c0_0, .int .i64 a0_1]) (t := 65) ?hr ?_; (case hd => rfl); (case hg => rfl); (case hr => first|(go_simp; done)|(go_simp; rfl)); intro gb156 hg w6 hbox hb; have n0_ := Aside0.mk (zN (by repeat (first|(with_reducible first|exact HB.out|apply zI|apply zG|apply zH)|exact HB.out)) hb); have n1_ := Aside0.mk (hbox); have n2_ := Aside0.mk ((by rw [hg]; exact (below_size (by repeat (first|(with_reducible first|exact HB.out|apply zI|apply zG|apply zH)|exact HB.out))) : w.heap.size ≤ gb156)); have n3_ := Aside0.mk ((by rw [hg]; exact (below_size (by repeat (first|(with_reducible first|exact HB.out|apply zI|apply zG|apply zH)|exact HB.out))) : w.heap.size ≤ gb156)); clear HB; have HB := n0_; have BK156 := n1_; have GW156 := n2_; have GE156 := n3_; clear n0_ n1_ n2_ n3_; clear hb hbox hg; obtain ⟨hcz7_0, hcz7_1, hfz7_0, hfz7_1⟩ := zb2 BK156.out)|(go_at_call 68; (with_reducible refine (spec_l01In.calls (l0_0.length : Int) 1 24 true _ A2.out).mono ?_); rintro e w' ⟨rfl, ⟨nd, rfl⟩⟩; (try first|exact ⟨rfl, _, World.drewN_drewN _ _ _⟩|exact ⟨rfl, _, Eq.trans (World.drewN_drewN _ _ _) (congrArg (World.drewN _) (Nat.add_assoc _ _ _))⟩))|((with_reducible refine gate_dst (N := 15) rfl ?_); (try (refine gate_guard (by rfl) ?_; dsimp only)); refine Kd.R_make Kd.bool _ 4 rfl (N := 15) rfl 127 _ _ rfl (l0_0.length : Int) rfl rfl Try.underlying127 (.bool false) 1 info4 rfl (by decide) (by omega) false (ok := fun _ => True) (okp := fun _ => True) rfl (fun _ hk => hk) trivial (of_decide_eq_true (by first|(with_reducible assumption)|assumption)) (Nat.le_trans (Nat.mul_le_mul_right _ (of_decide_eq_true (by first|(with_reducible assumption)|assumption) : (l0_0.length : Int).toNat ≤ 281474976710656)) (by omega)) (Below.refl _ _) (Nat.le_refl _) ?_; intro v159 w8 ho9 hb hg_ hnew_; clear hg_ hnew_; (first|rw [← Ny158.out] at ho9|(simp only [Int.reduceToNat] at ho9; rw [← Ny158.out] at ho9)); have n0_ := Aside0.mk (Kd.R_lower ho9 (below_size (by repeat (first|(with_reducible first|exact HB.out|apply zI|apply zG|apply zH|refine zJ ?_ GE156.out)|exact HB.out)))); have n1_ := Aside0.mk (zK (g := gb156) (o := .cells #[.slice A0_0 l0_0.length c0_0, .int .i64 a0_1] 65 (0, 0)) (by (with_reducible repeat (first|refine zA ?_ _|refine zC ?_|refine zB ?_ _)); exact BK156.out) hb); have n2_ := Aside0.mk (zN (by repeat (first|(with_reducible first|exact HB.out|apply zI|apply zG|apply zH|refine zJ ?_ GE156.out)|exact HB.out)) hb); clear BK156; clear HB; have HO160 := n0_; have BK156 := n1_; have HB := n2_; clear n0_ n1_ n2_; clear hb ho9; obtain ⟨hcz10_0, hcz10_1, hfz10_0, hfz10_1⟩ := zb2 BK156.out)))
        go_loopg [5] k (fun kq v5 w' => ∃ (x4_1 : List Bool) (x5_1 : Int), v5 = .int .i64 x5_1 ∧ Aside0 (spec_ArenaOk.l0 kq (l0_0.length : Int) x4_1 x5_1 l0_0 a0_1 = some r) ∧ Aside0 (kq ≤ k) ∧ Aside0 (Kd.R Kd.bool 4 w' w.heap.size (fun _ => True) v159 x4_1) ∧ Aside0 (w'.heap[gb156]? = some (.cells #[(.slice A0_0 l0_0.length c0_0), .int .i64 a0_1] 65 (0, 0))) ∧ Aside0 (Below w.heap.size w w'))
        case atStart => exact ⟨(y158), (a0_1), (by first|rfl|(simp; done)|(simp [*]; done)), H', ⟨Nat.le_refl _⟩, ⟨by (with_reducible repeat (first|apply zE|apply zD|apply zF)); exact HO160.out⟩, ⟨by (with_reducible repeat (first|refine zA ?_ _|refine zC ?_|refine zB ?_ _)); exact BK156.out⟩, ⟨by repeat (first|(with_reducible first|exact HB.out|apply zI|apply zG|apply zH|refine zJ ?_ GE156.out)|exact HB.out)⟩⟩
        case round =>
          clear H'
          try clear p2
          try clear c3
          try clear c4
          try clear c4b0
          try clear c4b1
          try clear c5
          try clear c5b0
          try clear c5b1
          try clear c9
          try clear hcz10_0
          try clear hcz10_1
          try clear hcz7_0
          try clear hcz7_1
          try clear hfz10_0
          try clear hfz10_1
          try clear hfz7_0
          try clear hfz7_1
          obtain ⟨x4_1, x5_1, rfl, HA, HK1, HO_4, BK156, HB⟩ := hrel
          cases gk with
         |zero => exact absurd HA.out (by simp [spec_ArenaOk.l0])
         |succ k1 =>
            have H := HA.out
            clear HA
            simp only [spec_ArenaOk.l0] at H
            by_cases c11 : x5_1 = (-1)
            · rw [if_pos c11] at H
              have c11b0 : (x5_1 == (-1)) = true := beq_iff_eq.mpr c11
              have c11b1 : (x5_1 != (-1)) = false := bne_eq_false_iff_eq.mpr c11
              clear c11
              have H' := Aside0.mk H
              clear H
              go_wp2
              repeat (go_quiet (fail); try go_wp2)
              go_loopg [6] k1 (fun kq v6 w' => ∃ (x6_2 : Int), v6 = .int .i64 x6_2 ∧ Aside0 (spec_ArenaOk.l1 kq (l0_0.length : Int) x4_1 x6_2 l0_0 a0_1 = some r) ∧ Aside0 (kq ≤ k1) ∧ Aside0 (Kd.R Kd.bool 4 w' w.heap.size (fun _ => True) v159 x4_1) ∧ Aside0 (w'.heap[gb156]? = some (.cells #[(.slice A0_0 l0_0.length c0_0), .int .i64 a0_1] 65 (0, 0))) ∧ Aside0 (Below w.heap.size w w'))
              case atStart => exact ⟨(0), (by first|rfl|(simp; done)|(simp [*]; done)), H', ⟨Nat.le_refl _⟩, ⟨by (with_reducible repeat (first|apply zE|apply zD|apply zF)); exact HO_4.out⟩, ⟨by (with_reducible repeat (first|refine zA ?_ _|refine zC ?_|refine zB ?_ _)); exact BK156.out⟩, ⟨by repeat (first|(with_reducible first|exact HB.out|apply zI|apply zG|apply zH|refine zJ ?_ GE156.out)|exact HB.out)⟩⟩
              case round =>
                clear H'
                try clear c1
                try clear p2
                try clear c3
                try clear c4
                try clear c4b0
                try clear c4b1
                try clear c5
                try clear c5b0
                try clear c5b1
                try clear c9
                try clear c11
                try clear c11b0
                try clear c11b1
                try clear hcz10_0
                try clear hcz10_1
                try clear hcz7_0
                try clear hcz7_1
                try clear hfz10_0
                try clear hfz10_1
                try clear hfz7_0
                try clear hfz7_1
                try clear p2
                obtain ⟨x6_2, rfl, HA, HK2, HO_4, BK156, HB⟩ := hrel
                cases gk with
               |zero => exact absurd HA.out (by simp [spec_ArenaOk.l1])
               |succ k2 =>
                  have H := HA.out
                  clear HA
                  simp only [spec_ArenaOk.l1] at H
                  by_cases c12 : x6_2 < (l0_0.length : Int)
                  · rw [if_pos c12] at H
                    have c12b0 : decide (x6_2 < (l0_0.length : Int)) = true := decide_eq_true c12
                    clear c12
                    by_cases c13 : 0 ≤ x6_2
                    · rw [if_pos c13] at H
                      have c13b0 : decide (0 ≤ x6_2) = true := decide_eq_true c13
                      clear c13
                      by_cases c14 : x6_2 < (l0_0.length : Int)
                      · rw [if_pos c14] at H
                        have c14b0 : decide (x6_2 < (l0_0.length : Int)) = true := decide_eq_true c14
                        clear c14
                        have HC15 := Aside0.mk H
                        clear H
                        obtain ⟨hcz16_0, hcz16_1, hfz16_0, hfz16_1⟩ := zb2 BK156.out
                        have p166 : 0 ≤ (x6_2 : Int) := of_decide_eq_true (by first|(with_reducible assumption)|assumption)
                        have q166 : x6_2 < (l0_0.length : Int) := of_decide_eq_true (by first|(with_reducible assumption)|assumption)
                        obtain ⟨ad166, e166, hx166_0, hx166_1, hx166_2, hx166_3, hx166_4⟩ := at_T81 HR0_0.out x6_2 p166 q166
                        cases e166
                        replace hx166_0 := (HB.out.cell (World.block_lt_of_cell? w _ hx166_0)).trans hx166_0
                        replace hx166_1 := (HB.out.cell (World.block_lt_of_cell? w _ hx166_1)).trans hx166_1
                        replace hx166_2 := (HB.out.cell (World.block_lt_of_cell? w _ hx166_2)).trans hx166_2
                        replace hx166_3 := (HB.out.cell (World.block_lt_of_cell? w _ hx166_3)).trans hx166_3
                        replace hx166_4 := (HB.out.cell (World.block_lt_of_cell? w _ hx166_4)).trans hx166_4
                        replace p166 := eq_true p166
                        replace q166 := eq_true q166
                        go_upto_region 15 with (first|((with_reducible refine gate_dst (N := 7) rfl ?_); (try (refine gate_guard (by rfl) ?_; dsimp only)); refine box_event ?hg (N := 7) ?hd (cs := #[.int .i64 0, .bool false, .string (⟨#[]⟩ : ByteArray), .string (⟨#[]⟩ : ByteArray), .int .i64 0]) (t := 81) ?hr ?_; (case hd => rfl); (case hg => rfl); (case hr => first|(go_simp; done)|(go_simp; rfl)); intro gb167 hg w17 hbox hb; have n0_ := Aside0.mk (zM (by (with_reducible repeat (first|apply zE|apply zD|apply zF)); exact HO_4.out) hb); have n1_ := Aside0.mk (zK (g := gb156) (o := .cells #[.slice (some ad166) l0_0.length c0_0, .int .i64 a0_1] 65 (0, 0)) (by (with_reducible repeat (first|refine zA ?_ _|refine zC ?_|refine zB ?_ _)); exact BK156.out) hb); have n2_ := Aside0.mk (zN (by repeat (first|(with_reducible first|exact HB.out|apply zI|apply zG|apply zH|refine zJ ?_ GE156.out)|exact HB.out)) hb); have n3_ := Aside0.mk (hbox); have n4_ := Aside0.mk ((by rw [hg]; exact (below_size (by repeat (first|(with_reducible first|exact HB.out|apply zI|apply zG|apply zH|refine zJ ?_ GE156.out)|exact HB.out))) : w.heap.size ≤ gb167)); have n5_ := Aside0.mk ((by rw [hg]; exact (below_size (by repeat (first|(with_reducible first|exact HB.out|apply zI|apply zG|apply zH|refine zJ ?_ GE156.out)|exact HB.out))) : w.heap.size ≤ gb167)); have n6_ := Aside0.mk ((by rw [hg]; exact Nat.ne_of_lt (blk_lt (g := gb156) (o := .cells #[.slice (some ad166) l0_0.length c0_0, .int .i64 a0_1] 65 (0, 0)) (by (with_reducible repeat (first|refine zA ?_ _|refine zC ?_|refine zB ?_ _)); exact BK156.out)) : gb156 ≠ gb167)); have n7_ := Aside0.mk ((by rw [hg]; exact Nat.ne_of_gt (blk_lt (g := gb156) (o := .cells #[.slice (some ad166) l0_0.length c0_0, .int .i64 a0_1] 65 (0, 0)) (by (with_reducible repeat (first|refine zA ?_ _|refine zC ?_|refine zB ?_ _)); exact BK156.out)) : gb167 ≠ gb156)); clear HO_4; clear BK156; clear HB; have HO_4 := n0_; have BK156 := n1_; have HB := n2_; have BK167 := n3_; have GW167 := n4_; have GE167 := n5_; have NB156_167 := n6_; have NB167_156 := n7_; clear n0_ n1_ n2_ n3_ n4_ n5_ n6_ n7_; clear hb hbox hg; have hnb18 := NB167_156.out; have hnc18 := NB156_167.out; obtain ⟨hcz19_0, hcz19_1, hcz19_2, hcz19_3, hcz19_4, hfz19_0, hfz19_1, hfz19_2, hfz19_3, hfz19_4⟩ := zb5 BK167.out))
                        repeat (go_quiet (first|((with_reducible refine gate_dst (N := 7) rfl ?_); (try (refine gate_guard (by rfl) ?_; dsimp only)); refine box_event ?hg (N := 7) ?hd (cs := #[.int .i64 0, .bool false, .string (⟨#[]⟩ : ByteArray), .string (⟨#[]⟩ : ByteArray), .int .i64 0]) (t := 81) ?hr ?_; (case hd => rfl); (case hg => rfl); (case hr => first|(go_simp; done)|(go_simp; rfl)); intro gb167 hg w17 hbox hb; have n0_ := Aside0.mk (zM (by (with_reducible repeat (first|apply zE|apply zD|apply zF)); exact HO_4.out) hb); have n1_ := Aside0.mk (zK (g := gb156) (o := .cells #[.slice (some ad166) l0_0.length c0_0, .int .i64 a0_1] 65 (0, 0)) (by (with_reducible repeat (first|refine zA ?_ _|refine zC ?_|refine zB ?_ _)); exact BK156.out) hb); have n2_ := Aside0.mk (zN (by repeat (first|(with_reducible first|exact HB.out|apply zI|apply zG|apply zH|refine zJ ?_ GE156.out)|exact HB.out)) hb); have n3_ := Aside0.mk (hbox); have n4_ := Aside0.mk ((by rw [hg]; exact (below_size (by repeat (first|(with_reducible first|exact HB.out|apply zI|apply zG|apply zH|refine zJ ?_ GE156.out)|exact HB.out))) : w.heap.size ≤ gb167)); have n5_ := Aside0.mk ((by rw [hg]; exact (below_size (by repeat (first|(with_reducible first|exact HB.out|apply zI|apply zG|apply zH|refine zJ ?_ GE156.out)|exact HB.out))) : w.heap.size ≤ gb167)); have n6_ := Aside0.mk ((by rw [hg]; exact Nat.ne_of_lt (blk_lt (g := gb156) (o := .cells #[.slice (some ad166) l0_0.length c0_0, .int .i64 a0_1] 65 (0, 0)) (by (with_reducible repeat (first|refine zA ?_ _|refine zC ?_|refine zB ?_ _)); exact BK156.out)) : gb156 ≠ gb167)); have n7_ := Aside0.mk ((by rw [hg]; exact Nat.ne_of_gt (blk_lt (g := gb156) (o := .cells #[.slice (some ad166) l0_0.length c0_0, .int .i64 a0_1] 65 (0, 0)) (by (with_reducible repeat (first|refine zA ?_ _|refine zC ?_|refine zB ?_ _)); exact BK156.out)) : gb167 ≠ gb156)); clear HO_4; clear BK156; clear HB; have HO_4 := n0_; have BK156 := n1_; have HB := n2_; have BK167 := n3_; have GW167 := n4_; have GE167 := n5_; have NB156_167 := n6_; have NB167_156 := n7_; clear n0_ n1_ n2_ n3_ n4_ n5_ n6_ n7_; clear hb hbox hg; have hnb18 := NB167_156.out; have hnc18 := NB156_167.out; obtain ⟨hcz19_0, hcz19_1, hcz19_2, hcz19_3, hcz19_4, hfz19_0, hfz19_1, hfz19_2, hfz19_3, hfz19_4⟩ := zb5 BK167.out)); go_upto_region 15 with (first|((with_reducible refine gate_dst (N := 7) rfl ?_); (try (refine gate_guard (by rfl) ?_; dsimp only)); refine box_event ?hg (N := 7) ?hd (cs := #[.int .i64 0, .bool false, .string (⟨#[]⟩ : ByteArray), .string (⟨#[]⟩ : ByteArray), .int .i64 0]) (t := 81) ?hr ?_; (case hd => rfl); (case hg => rfl); (case hr => first|(go_simp; done)|(go_simp; rfl)); intro gb167 hg w17 hbox hb; have n0_ := Aside0.mk (zM (by (with_reducible repeat (first|apply zE|apply zD|apply zF)); exact HO_4.out) hb); have n1_ := Aside0.mk (zK (g := gb156) (o := .cells #[.slice (some ad166) l0_0.length c0_0, .int .i64 a0_1] 65 (0, 0)) (by (with_reducible repeat (first|refine zA ?_ _|refine zC ?_|refine zB ?_ _)); exact BK156.out) hb); have n2_ := Aside0.mk (zN (by repeat (first|(with_reducible first|exact HB.out|apply zI|apply zG|apply zH|refine zJ ?_ GE156.out)|exact HB.out)) hb); have n3_ := Aside0.mk (hbox); have n4_ := Aside0.mk ((by rw [hg]; exact (below_size (by repeat (first|(with_reducible first|exact HB.out|apply zI|apply zG|apply zH|refine zJ ?_ GE156.out)|exact HB.out))) : w.heap.size ≤ gb167)); have n5_ := Aside0.mk ((by rw [hg]; exact (below_size (by repeat (first|(with_reducible first|exact HB.out|apply zI|apply zG|apply zH|refine zJ ?_ GE156.out)|exact HB.out))) : w.heap.size ≤ gb167)); have n6_ := Aside0.mk ((by rw [hg]; exact Nat.ne_of_lt (blk_lt (g := gb156) (o := .cells #[.slice (some ad166) l0_0.length c0_0, .int .i64 a0_1] 65 (0, 0)) (by (with_reducible repeat (first|refine zA ?_ _|refine zC ?_|refine zB ?_ _)); exact BK156.out)) : gb156 ≠ gb167)); have n7_ := Aside0.mk ((by rw [hg]; exact Nat.ne_of_gt (blk_lt (g := gb156) (o := .cells #[.slice (some ad166) l0_0.length c0_0, .int .i64 a0_1] 65 (0, 0)) (by (with_reducible repeat (first|refine zA ?_ _|refine zC ?_|refine zB ?_ _)); exact BK156.out)) : gb167 ≠ gb156)); clear HO_4; clear BK156; clear HB; have HO_4 := n0_; have BK156 := n1_; have HB := n2_; have BK167 := n3_; have GW167 := n4_; have GE167 := n5_; have NB156_167 := n6_; have NB167_156 := n7_; clear n0_ n1_ n2_ n3_ n4_ n5_ n6_ n7_; clear hb hbox hg; have hnb18 := NB167_156.out; have hnc18 := NB156_167.out; obtain ⟨hcz19_0, hcz19_1, hcz19_2, hcz19_3, hcz19_4, hfz19_0, hfz19_1, hfz19_2, hfz19_3, hfz19_4⟩ := zb5 BK167.out)))
                        (try simp only [Act.put, List.setIfInBounds_toArray, List.set_cons_zero, List.set_cons_succ])
                        go_cut [70] (fun v70 wc => ∃ (kq : Nat) (x70_14 : Bool), v70 = .bool x70_14 ∧ Aside0 (spec_ArenaOk.j2 kq (l0_0.length : Int) x4_1 x6_2 x70_14 l0_0 a0_1 ((rd_T81 l0_0 x6_2).f0) ((rd_T81 l0_0 x6_2).f1) ((rd_T81 l0_0 x6_2).f2) ((rd_T81 l0_0 x6_2).f3) ((rd_T81 l0_0 x6_2).f4) = some r) ∧ Aside0 (kq ≤ k2) ∧ Aside0 (Kd.R Kd.bool 4 wc w.heap.size (fun _ => True) v159 x4_1) ∧ Aside0 (wc.heap[gb156]? = some (.cells #[(.slice (some ad166) l0_0.length c0_0), .int .i64 a0_1] 65 (0, 0))) ∧ Aside0 (wc.heap[gb167]? = some (.cells #[.int .i64 ((rd_T81 l0_0 x6_2).f0), .bool ((rd_T81 l0_0 x6_2).f1), .string ((rd_T81 l0_0 x6_2).f2), .string ((rd_T81 l0_0 x6_2).f3), .int .i64 ((rd_T81 l0_0 x6_2).f4)] 81 (0, 0))) ∧ Aside0 (Below w.heap.size w wc))
                        case first =>
                          have H := HC15.out
                          clear HC15
                          replace H := Option.bind_eq_some_iff.mp H
                          obtain ⟨t168, A200, H⟩ := H
                          replace H : (if t168 = true then (if x6_2 < (x4_1.length : Int) then (spec_ArenaOk.j2 k2 (l0_0.length : Int) x4_1 x6_2 (((rd_T81 l0_0 x6_2).f1) == (rdOf false x4_1 x6_2)) l0_0 a0_1 ((rd_T81 l0_0 x6_2).f0) ((rd_T81 l0_0 x6_2).f1) ((rd_T81 l0_0 x6_2).f2) ((rd_T81 l0_0 x6_2).f3) ((rd_T81 l0_0 x6_2).f4)) else (none)) else (spec_ArenaOk.j2 k2 (l0_0.length : Int) x4_1 x6_2 true l0_0 a0_1 ((rd_T81 l0_0 x6_2).f0) ((rd_T81 l0_0 x6_2).f1) ((rd_T81 l0_0 x6_2).f2) ((rd_T81 l0_0 x6_2).f3) ((rd_T81 l0_0 x6_2).f4))) = some r := H
                          have A20 := Aside0.mk A200
                          clear A200
                          by_cases c21 : t168 = true
                          · subst c21
                            have H1 : (if x6_2 < (x4_1.length : Int) then (spec_ArenaOk.j2 k2 (l0_0.length : Int) x4_1 x6_2 (((rd_T81 l0_0 x6_2).f1) == (rdOf false x4_1 x6_2)) l0_0 a0_1 ((rd_T81 l0_0 x6_2).f0) ((rd_T81 l0_0 x6_2).f1) ((rd_T81 l0_0 x6_2).f2) ((rd_T81 l0_0 x6_2).f3) ((rd_T81 l0_0 x6_2).f4)) else (none)) = some r := by rw [if_pos rfl] at H; exact H
                            clear H
                            have H := H1
                            clear H1
                            by_cases c22 : x6_2 < (x4_1.length : Int)
                            · rw [if_pos c22] at H
                              have c22b0 : decide (x6_2 < (x4_1.length : Int)) = true := decide_eq_true c22
                              clear c22
                              (first|rw [c22b0]|(simp only [i64_w, i32_w]; rw [c22b0])|skip)
                              have H' := Aside0.mk H
                              clear H
                              have hnb23 := NB167_156.out
                              have hnc23 := NB156_167.out
                              obtain ⟨hcz24_0, hcz24_1, hcz24_2, hcz24_3, hcz24_4, hfz24_0, hfz24_1, hfz24_2, hfz24_3, hfz24_4⟩ := zb5 BK167.out
                              go_wp2_with (first|(go_at_call 68; (with_reducible refine (spec_l01In.calls ((rd_T81 l0_0 x6_2).f0) 0 41666665 true _ A20.out).mono ?_); rintro e w' ⟨rfl, ⟨nd, rfl⟩⟩; (try first|exact ⟨rfl, _, World.drewN_drewN _ _ _⟩|exact ⟨rfl, _, Eq.trans (World.drewN_drewN _ _ _) (congrArg (World.drewN _) (Nat.add_assoc _ _ _))⟩); obtain ⟨Ao25, co25, eo25⟩ := Kd.R_slice HO_4.out; subst eo25; have p169 : 0 ≤ (x6_2 : Int) := of_decide_eq_true (by first|(with_reducible assumption)|assumption); have q169 : x6_2 < (x4_1.length : Int) := of_decide_eq_true (by first|(with_reducible assumption)|assumption); obtain ⟨ad169, e169, hx169_0⟩ := Kd.at_bool (Kd.R_reads' HO_4.out).2.2 x6_2 p169 q169; cases e169; have hn169_0 : ad169.block ≠ gb167 := Kd.own_blk (Kd.R_ne HO_4.out BK167.out (by decide)); have hn169_1 : ad169.block ≠ gb167 := Kd.own_blk (Kd.R_ne HO_4.out BK167.out (by decide)); have hn169_2 : ad169.block ≠ gb167 := Kd.own_blk (Kd.R_ne HO_4.out BK167.out (by decide)); have hn169_3 : ad169.block ≠ gb167 := Kd.own_blk (Kd.R_ne HO_4.out BK167.out (by decide)); have hn169_4 : ad169.block ≠ gb167 := Kd.own_blk (Kd.R_ne HO_4.out BK167.out (by decide)); replace hx169_0 := (cell_far (p := ⟨gb167, 0, none⟩) (by first|(rw [add_block]; exact hn169_0)|(show (Addr.add _ _).block ≠ _; rw [add_block]; exact hn169_0)|exact hn169_0) (.int .i64 ((rd_T81 l0_0 x6_2).f0))).trans hx169_0; replace hx169_0 := (cell_far (p := ⟨gb167, 1, none⟩) (by first|(rw [add_block]; exact hn169_1)|(show (Addr.add _ _).block ≠ _; rw [add_block]; exact hn169_1)|exact hn169_1) (.bool ((rd_T81 l0_0 x6_2).f1))).trans hx169_0; replace hx169_0 := (cell_far (p := ⟨gb167, 2, none⟩) (by first|(rw [add_block]; exact hn169_2)|(show (Addr.add _ _).block ≠ _; rw [add_block]; exact hn169_2)|exact hn169_2) (.string ((rd_T81 l0_0 x6_2).f2))).trans hx169_0; replace hx169_0 := (cell_far (p := ⟨gb167, 3, none⟩) (by first|(rw [add_block]; exact hn169_3)|(show (Addr.add _ _).block ≠ _; rw [add_block]; exact hn169_3)|exact hn169_3) (.string ((rd_T81 l0_0 x6_2).f3))).trans hx169_0; replace hx169_0 := (cell_far (p := ⟨gb167, 4, none⟩) (by first|(rw [add_block]; exact hn169_4)|(show (Addr.add _ _).block ≠ _; rw [add_block]; exact hn169_4)|exact hn169_4) (.int .i64 ((rd_T81 l0_0 x6_2).f4))).trans hx169_0; (try have hy169_0 := fun (n_ : Nat) => (show (((((((w17.drewN n_).setCell ⟨gb167, 0, none⟩ (.int .i64 ((rd_T81 l0_0 x6_2).f0))).setCell ⟨gb167, 1, none⟩ (.bool ((rd_T81 l0_0 x6_2).f1))).setCell ⟨gb167, 2, none⟩ (.string ((rd_T81 l0_0 x6_2).f2))).setCell ⟨gb167, 3, none⟩ (.string ((rd_T81 l0_0 x6_2).f3))).setCell ⟨gb167, 4, none⟩ (.int .i64 ((rd_T81 l0_0 x6_2).f4)))).cell? _ = some _ from hx169_0)); clear hn169_0; clear hn169_1; clear hn169_2; clear hn169_3; clear hn169_4; replace p169 := eq_true p169; replace q169 := eq_true q169))
                              repeat (go_quiet (first|(go_at_call 68; (with_reducible refine (spec_l01In.calls ((rd_T81 l0_0 x6_2).f0) 0 41666665 true _ A20.out).mono ?_); rintro e w' ⟨rfl, ⟨nd, rfl⟩⟩; (try first|exact ⟨rfl, _, World.drewN_drewN _ _ _⟩|exact ⟨rfl, _, Eq.trans (World.drewN_drewN _ _ _) (congrArg (World.drewN _) (Nat.add_assoc _ _ _))⟩); obtain ⟨Ao25, co25, eo25⟩ := Kd.R_slice HO_4.out; subst eo25; have p169 : 0 ≤ (x6_2 : Int) := of_decide_eq_true (by first|(with_reducible assumption)|assumption); have q169 : x6_2 < (x4_1.length : Int) := of_decide_eq_true (by first|(with_reducible assumption)|assumption); obtain ⟨ad169, e169, hx169_0⟩ := Kd.at_bool (Kd.R_reads' HO_4.out).2.2 x6_2 p169 q169; cases e169; have hn169_0 : ad169.block ≠ gb167 := Kd.own_blk (Kd.R_ne HO_4.out BK167.out (by decide)); have hn169_1 : ad169.block ≠ gb167 := Kd.own_blk (Kd.R_ne HO_4.out BK167.out (by decide)); have hn169_2 : ad169.block ≠ gb167 := Kd.own_blk (Kd.R_ne HO_4.out BK167.out (by decide)); have hn169_3 : ad169.block ≠ gb167 := Kd.own_blk (Kd.R_ne HO_4.out BK167.out (by decide)); have hn169_4 : ad169.block ≠ gb167 := Kd.own_blk (Kd.R_ne HO_4.out BK167.out (by decide)); replace hx169_0 := (cell_far (p := ⟨gb167, 0, none⟩) (by first|(rw [add_block]; exact hn169_0)|(show (Addr.add _ _).block ≠ _; rw [add_block]; exact hn169_0)|exact hn169_0) (.int .i64 ((rd_T81 l0_0 x6_2).f0))).trans hx169_0; replace hx169_0 := (cell_far (p := ⟨gb167, 1, none⟩) (by first|(rw [add_block]; exact hn169_1)|(show (Addr.add _ _).block ≠ _; rw [add_block]; exact hn169_1)|exact hn169_1) (.bool ((rd_T81 l0_0 x6_2).f1))).trans hx169_0; replace hx169_0 := (cell_far (p := ⟨gb167, 2, none⟩) (by first|(rw [add_block]; exact hn169_2)|(show (Addr.add _ _).block ≠ _; rw [add_block]; exact hn169_2)|exact hn169_2) (.string ((rd_T81 l0_0 x6_2).f2))).trans hx169_0; replace hx169_0 := (cell_far (p := ⟨gb167, 3, none⟩) (by first|(rw [add_block]; exact hn169_3)|(show (Addr.add _ _).block ≠ _; rw [add_block]; exact hn169_3)|exact hn169_3) (.string ((rd_T81 l0_0 x6_2).f3))).trans hx169_0; replace hx169_0 := (cell_far (p := ⟨gb167, 4, none⟩) (by first|(rw [add_block]; exact hn169_4)|(show (Addr.add _ _).block ≠ _; rw [add_block]; exact hn169_4)|exact hn169_4) (.int .i64 ((rd_T81 l0_0 x6_2).f4))).trans hx169_0; (try have hy169_0 := fun (n_ : Nat) => (show (((((((w17.drewN n_).setCell ⟨gb167, 0, none⟩ (.int .i64 ((rd_T81 l0_0 x6_2).f0))).setCell ⟨gb167, 1, none⟩ (.bool ((rd_T81 l0_0 x6_2).f1))).setCell ⟨gb167, 2, none⟩ (.string ((rd_T81 l0_0 x6_2).f2))).setCell ⟨gb167, 3, none⟩ (.string ((rd_T81 l0_0 x6_2).f3))).setCell ⟨gb167, 4, none⟩ (.int .i64 ((rd_T81 l0_0 x6_2).f4)))).cell? _ = some _ from hx169_0)); clear hn169_0; clear hn169_1; clear hn169_2; clear hn169_3; clear hn169_4; replace p169 := eq_true p169; replace q169 := eq_true q169)); try go_wp2_with (first|(go_at_call 68; (with_reducible refine (spec_l01In.calls ((rd_T81 l0_0 x6_2).f0) 0 41666665 true _ A20.out).mono ?_); rintro e w' ⟨rfl, ⟨nd, rfl⟩⟩; (try first|exact ⟨rfl, _, World.drewN_drewN _ _ _⟩|exact ⟨rfl, _, Eq.trans (World.drewN_drewN _ _ _) (congrArg (World.drewN _) (Nat.add_assoc _ _ _))⟩); obtain ⟨Ao25, co25, eo25⟩ := Kd.R_slice HO_4.out; subst eo25; have p169 : 0 ≤ (x6_2 : Int) := of_decide_eq_true (by first|(with_reducible assumption)|assumption); have q169 : x6_2 < (x4_1.length : Int) := of_decide_eq_true (by first|(with_reducible assumption)|assumption); obtain ⟨ad169, e169, hx169_0⟩ := Kd.at_bool (Kd.R_reads' HO_4.out).2.2 x6_2 p169 q169; cases e169; have hn169_0 : ad169.block ≠ gb167 := Kd.own_blk (Kd.R_ne HO_4.out BK167.out (by decide)); have hn169_1 : ad169.block ≠ gb167 := Kd.own_blk (Kd.R_ne HO_4.out BK167.out (by decide)); have hn169_2 : ad169.block ≠ gb167 := Kd.own_blk (Kd.R_ne HO_4.out BK167.out (by decide)); have hn169_3 : ad169.block ≠ gb167 := Kd.own_blk (Kd.R_ne HO_4.out BK167.out (by decide)); have hn169_4 : ad169.block ≠ gb167 := Kd.own_blk (Kd.R_ne HO_4.out BK167.out (by decide)); replace hx169_0 := (cell_far (p := ⟨gb167, 0, none⟩) (by first|(rw [add_block]; exact hn169_0)|(show (Addr.add _ _).block ≠ _; rw [add_block]; exact hn169_0)|exact hn169_0) (.int .i64 ((rd_T81 l0_0 x6_2).f0))).trans hx169_0; replace hx169_0 := (cell_far (p := ⟨gb167, 1, none⟩) (by first|(rw [add_block]; exact hn169_1)|(show (Addr.add _ _).block ≠ _; rw [add_block]; exact hn169_1)|exact hn169_1) (.bool ((rd_T81 l0_0 x6_2).f1))).trans hx169_0; replace hx169_0 := (cell_far (p := ⟨gb167, 2, none⟩) (by first|(rw [add_block]; exact hn169_2)|(show (Addr.add _ _).block ≠ _; rw [add_block]; exact hn169_2)|exact hn169_2) (.string ((rd_T81 l0_0 x6_2).f2))).trans hx169_0; replace hx169_0 := (cell_far (p := ⟨gb167, 3, none⟩) (by first|(rw [add_block]; exact hn169_3)|(show (Addr.add _ _).block ≠ _; rw [add_block]; exact hn169_3)|exact hn169_3) (.string ((rd_T81 l0_0 x6_2).f3))).trans hx169_0; replace hx169_0 := (cell_far (p := ⟨gb167, 4, none⟩) (by first|(rw [add_block]; exact hn169_4)|(show (Addr.add _ _).block ≠ _; rw [add_block]; exact hn169_4)|exact hn169_4) (.int .i64 ((rd_T81 l0_0 x6_2).f4))).trans hx169_0; (try have hy169_0 := fun (n_ : Nat) => (show (((((((w17.drewN n_).setCell ⟨gb167, 0, none⟩ (.int .i64 ((rd_T81 l0_0 x6_2).f0))).setCell ⟨gb167, 1, none⟩ (.bool ((rd_T81 l0_0 x6_2).f1))).setCell ⟨gb167, 2, none⟩ (.string ((rd_T81 l0_0 x6_2).f2))).setCell ⟨gb167, 3, none⟩ (.string ((rd_T81 l0_0 x6_2).f3))).setCell ⟨gb167, 4, none⟩ (.int .i64 ((rd_T81 l0_0 x6_2).f4)))).cell? _ = some _ from hx169_0)); clear hn169_0; clear hn169_1; clear hn169_2; clear hn169_3; clear hn169_4; replace p169 := eq_true p169; replace q169 := eq_true q169)))
                              go_meet
                              case rel => exact ⟨_, ((((rd_T81 l0_0 x6_2).f1) == (rdOf false x4_1 x6_2))), (by first|rfl|(simp; done)|(simp [*]; done)), H', ⟨by have := HK1.out; have := HK2.out; first|omega|exact Nat.le_refl _⟩, ⟨by (with_reducible repeat (first|apply zE|apply zD|apply zF)); exact zR (zL (p := ⟨gb167, 4, none⟩) (zL (p := ⟨gb167, 3, none⟩) (zL (p := ⟨gb167, 2, none⟩) (zL (p := ⟨gb167, 1, none⟩) (zL (p := ⟨gb167, 0, none⟩) (zQ HO_4.out BK167.out (by decide)) (fun _ hk => hk.2) (.int .i64 ((rd_T81 l0_0 x6_2).f0))) (fun _ hk => hk.2) (.bool ((rd_T81 l0_0 x6_2).f1))) (fun _ hk => hk.2) (.string ((rd_T81 l0_0 x6_2).f2))) (fun _ hk => hk.2) (.string ((rd_T81 l0_0 x6_2).f3))) (fun _ hk => hk.2) (.int .i64 ((rd_T81 l0_0 x6_2).f4))) (fun _ hk => trivial)⟩, ⟨by (with_reducible repeat (first|refine zA ?_ _|refine zC ?_|refine zB ?_ _)); refine zT ?_ NB156_167.out _; (with_reducible repeat (first|refine zA ?_ _|refine zC ?_|refine zB ?_ _)); refine zT ?_ NB156_167.out _; (with_reducible repeat (first|refine zA ?_ _|refine zC ?_|refine zB ?_ _)); refine zT ?_ NB156_167.out _; (with_reducible repeat (first|refine zA ?_ _|refine zC ?_|refine zB ?_ _)); refine zT ?_ NB156_167.out _; (with_reducible repeat (first|refine zA ?_ _|refine zC ?_|refine zB ?_ _)); refine zT ?_ NB156_167.out _; (with_reducible repeat (first|refine zA ?_ _|refine zC ?_|refine zB ?_ _)); exact BK156.out⟩, ⟨by (with_reducible repeat (first|refine zA ?_ _|refine zC ?_|refine zB ?_ _)); refine blk_put (cs := #[.int .i64 ((rd_T81 l0_0 x6_2).f0), .bool ((rd_T81 l0_0 x6_2).f1), .string ((rd_T81 l0_0 x6_2).f2), .string ((rd_T81 l0_0 x6_2).f3), .int .i64 0]) ?_ 4 _ rfl; (with_reducible repeat (first|refine zA ?_ _|refine zC ?_|refine zB ?_ _)); refine blk_put (cs := #[.int .i64 ((rd_T81 l0_0 x6_2).f0), .bool ((rd_T81 l0_0 x6_2).f1), .string ((rd_T81 l0_0 x6_2).f2), .string (⟨#[]⟩ : ByteArray), .int .i64 0]) ?_ 3 _ rfl; (with_reducible repeat (first|refine zA ?_ _|refine zC ?_|refine zB ?_ _)); refine blk_put (cs := #[.int .i64 ((rd_T81 l0_0 x6_2).f0), .bool ((rd_T81 l0_0 x6_2).f1), .string (⟨#[]⟩ : ByteArray), .string (⟨#[]⟩ : ByteArray), .int .i64 0]) ?_ 2 _ rfl; (with_reducible repeat (first|refine zA ?_ _|refine zC ?_|refine zB ?_ _)); refine blk_put (cs := #[.int .i64 ((rd_T81 l0_0 x6_2).f0), .bool false, .string (⟨#[]⟩ : ByteArray), .string (⟨#[]⟩ : ByteArray), .int .i64 0]) ?_ 1 _ rfl; (with_reducible repeat (first|refine zA ?_ _|refine zC ?_|refine zB ?_ _)); refine blk_put (cs := #[.int .i64 0, .bool false, .string (⟨#[]⟩ : ByteArray), .string (⟨#[]⟩ : ByteArray), .int .i64 0]) ?_ 0 _ rfl; (with_reducible repeat (first|refine zA ?_ _|refine zC ?_|refine zB ?_ _)); exact BK167.out⟩, ⟨by repeat (first|(with_reducible first|exact HB.out|apply zI|apply zG|apply zH|refine zJ ?_ GE156.out|refine zJ ?_ GE167.out)|exact HB.out)⟩⟩
                            · rw [if_neg c22] at H
                              exact absurd H (by simp)
                          · replace c21 := Bool.eq_false_iff.mpr c21
                            subst c21
                            have H1 : (spec_ArenaOk.j2 k2 (l0_0.length : Int) x4_1 x6_2 true l0_0 a0_1 ((rd_T81 l0_0 x6_2).f0) ((rd_T81 l0_0 x6_2).f1) ((rd_T81 l0_0 x6_2).f2) ((rd_T81 l0_0 x6_2).f3) ((rd_T81 l0_0 x6_2).f4)) = some r := by rw [if_neg (show ¬ (false = true) by decide)] at H; exact H
                            clear H
                            have H := H1
                            clear H1
                            have H' := Aside0.mk H
                            clear H
                            have hnb26 := NB167_156.out
                            have hnc26 := NB156_167.out
                            obtain ⟨hcz27_0, hcz27_1, hcz27_2, hcz27_3, hcz27_4, hfz27_0, hfz27_1, hfz27_2, hfz27_3, hfz27_4⟩ := zb5 BK167.out
                            go_wp2_with (first|(go_at_call 68; (with_reducible refine (spec_l01In.calls ((rd_T81 l0_0 x6_2).f0) 0 41666665 false _ A20.out).mono ?_); rintro e w' ⟨rfl, ⟨nd, rfl⟩⟩; (try first|exact ⟨rfl, _, World.drewN_drewN _ _ _⟩|exact ⟨rfl, _, Eq.trans (World.drewN_drewN _ _ _) (congrArg (World.drewN _) (Nat.add_assoc _ _ _))⟩)))
                            repeat (go_quiet (first|(go_at_call 68; (with_reducible refine (spec_l01In.calls ((rd_T81 l0_0 x6_2).f0) 0 41666665 false _ A20.out).mono ?_); rintro e w' ⟨rfl, ⟨nd, rfl⟩⟩; (try first|exact ⟨rfl, _, World.drewN_drewN _ _ _⟩|exact ⟨rfl, _, Eq.trans (World.drewN_drewN _ _ _) (congrArg (World.drewN _) (Nat.add_assoc _ _ _))⟩))); try go_wp2_with (first|(go_at_call 68; (with_reducible refine (spec_l01In.calls ((rd_T81 l0_0 x6_2).f0) 0 41666665 false _ A20.out).mono ?_); rintro e w' ⟨rfl, ⟨nd, rfl⟩⟩; (try first|exact ⟨rfl, _, World.drewN_drewN _ _ _⟩|exact ⟨rfl, _, Eq.trans (World.drewN_drewN _ _ _) (congrArg (World.drewN _) (Nat.add_assoc _ _ _))⟩))))
                            go_meet
                            case rel => exact ⟨_, (true), (by first|rfl|(simp; done)|(simp [*]; done)), H', ⟨by have := HK1.out; have := HK2.out; first|omega|exact Nat.le_refl _⟩, ⟨by (with_reducible repeat (first|apply zE|apply zD|apply zF)); exact zR (zL (p := ⟨gb167, 4, none⟩) (zL (p := ⟨gb167, 3, none⟩) (zL (p := ⟨gb167, 2, none⟩) (zL (p := ⟨gb167, 1, none⟩) (zL (p := ⟨gb167, 0, none⟩) (zQ HO_4.out BK167.out (by decide)) (fun _ hk => hk.2) (.int .i64 ((rd_T81 l0_0 x6_2).f0))) (fun _ hk => hk.2) (.bool ((rd_T81 l0_0 x6_2).f1))) (fun _ hk => hk.2) (.string ((rd_T81 l0_0 x6_2).f2))) (fun _ hk => hk.2) (.string ((rd_T81 l0_0 x6_2).f3))) (fun _ hk => hk.2) (.int .i64 ((rd_T81 l0_0 x6_2).f4))) (fun _ hk => trivial)⟩, ⟨by (with_reducible repeat (first|refine zA ?_ _|refine zC ?_|refine zB ?_ _)); refine zT ?_ NB156_167.out _; (with_reducible repeat (first|refine zA ?_ _|refine zC ?_|refine zB ?_ _)); refine zT ?_ NB156_167.out _; (with_reducible repeat (first|refine zA ?_ _|refine zC ?_|refine zB ?_ _)); refine zT ?_ NB156_167.out _; (with_reducible repeat (first|refine zA ?_ _|refine zC ?_|refine zB ?_ _)); refine zT ?_ NB156_167.out _; (with_reducible repeat (first|refine zA ?_ _|refine zC ?_|refine zB ?_ _)); refine zT ?_ NB156_167.out _; (with_reducible repeat (first|refine zA ?_ _|refine zC ?_|refine zB ?_ _)); exact BK156.out⟩, ⟨by (with_reducible repeat (first|refine zA ?_ _|refine zC ?_|refine zB ?_ _)); refine blk_put (cs := #[.int .i64 ((rd_T81 l0_0 x6_2).f0), .bool ((rd_T81 l0_0 x6_2).f1), .string ((rd_T81 l0_0 x6_2).f2), .string ((rd_T81 l0_0 x6_2).f3), .int .i64 0]) ?_ 4 _ rfl; (with_reducible repeat (first|refine zA ?_ _|refine zC ?_|refine zB ?_ _)); refine blk_put (cs := #[.int .i64 ((rd_T81 l0_0 x6_2).f0), .bool ((rd_T81 l0_0 x6_2).f1), .string ((rd_T81 l0_0 x6_2).f2), .string (⟨#[]⟩ : ByteArray), .int .i64 0]) ?_ 3 _ rfl; (with_reducible repeat (first|refine zA ?_ _|refine zC ?_|refine zB ?_ _)); refine blk_put (cs := #[.int .i64 ((rd_T81 l0_0 x6_2).f0), .bool ((rd_T81 l0_0 x6_2).f1), .string (⟨#[]⟩ : ByteArray), .string (⟨#[]⟩ : ByteArray), .int .i64 0]) ?_ 2 _ rfl; (with_reducible repeat (first|refine zA ?_ _|refine zC ?_|refine zB ?_ _)); refine blk_put (cs := #[.int .i64 ((rd_T81 l0_0 x6_2).f0), .bool false, .string (⟨#[]⟩ : ByteArray), .string (⟨#[]⟩ : ByteArray), .int .i64 0]) ?_ 1 _ rfl; (with_reducible repeat (first|refine zA ?_ _|refine zC ?_|refine zB ?_ _)); refine blk_put (cs := #[.int .i64 0, .bool false, .string (⟨#[]⟩ : ByteArray), .string (⟨#[]⟩ : ByteArray), .int .i64 0]) ?_ 0 _ rfl; (with_reducible repeat (first|refine zA ?_ _|refine zC ?_|refine zB ?_ _)); exact BK167.out⟩, ⟨by repeat (first|(with_reducible first|exact HB.out|apply zI|apply zG|apply zH|refine zJ ?_ GE156.out|refine zJ ?_ GE167.out)|exact HB.out)⟩⟩
                        case rest =>
                          clear HC15
                          try clear c1
                          try clear p1
                          try clear q1
                          try clear hx1
                          try clear c2
                          try clear p2
                          try clear c3
                          try clear c4
                          try clear c4b0
                          try clear c4b1
                          try clear c5
                          try clear c5b0
                          try clear c5b1
                          try clear c9
                          try clear c11
                          try clear c11b0
                          try clear c11b1
                          try clear c12
                          try clear c12b0
                          try clear c13
                          try clear c13b0
                          try clear c14
                          try clear c14b0
                          try clear p16
                          try clear q16
                          try clear hx16
                          try clear c18
                          try clear c21
                          try clear c22
                          try clear c22b0
                          try clear c23
                          try clear c26
                          try clear hcz10_0
                          try clear hcz10_1
                          try clear hcz16_0
                          try clear hcz16_1
                          try clear hcz19_0
                          try clear hcz19_1
                          try clear hcz19_2
                          try clear hcz19_3
                          try clear hcz19_4
                          try clear hcz24_0
                          try clear hcz24_1
                          try clear hcz24_2
                          try clear hcz24_3
                          try clear hcz24_4
                          try clear hcz27_0
                          try clear hcz27_1
                          try clear hcz27_2
                          try clear hcz27_3
                          try clear hcz27_4
                          try clear hcz7_0
                          try clear hcz7_1
                          try clear hfz10_0
                          try clear hfz10_1
                          try clear hfz16_0
                          try clear hfz16_1
                          try clear hfz19_0
                          try clear hfz19_1
                          try clear hfz19_2
                          try clear hfz19_3
                          try clear hfz19_4
                          try clear hfz24_0
                          try clear hfz24_1
                          try clear hfz24_2
                          try clear hfz24_3
                          try clear hfz24_4
                          try clear hfz27_0
                          try clear hfz27_1
                          try clear hfz27_2
                          try clear hfz27_3
                          try clear hfz27_4
                          try clear hfz7_0
                          try clear hfz7_1
                          try clear hx166_0
                          try clear hx166_1
                          try clear hx166_2
                          try clear hx166_3
                          try clear hx166_4
                          try clear hx169_0
                          try clear p166
                          try clear p169
                          try clear p2
                          try clear q166
                          try clear q169
                          obtain ⟨kq, x70_14, rfl, HA, HJ14, HO_4, BK156, BK167, HB⟩ := hcut
                          cases kq with
                         |zero => exact absurd HA.out (by simp [spec_ArenaOk.j2])
                         |succ kj14 =>
                            have H := HA.out
                            clear HA
                            simp only [spec_ArenaOk.j2] at H
                            by_cases c28 : x70_14 = true
                            · subst c28
                              have H1 : (some false) = some r := by rw [if_pos rfl] at H; exact H
                              clear H
                              have H := H1
                              clear H1
                              obtain rfl := Option.some.inj H
                              go_wp2
                              repeat (go_quiet (fail); try go_wp2)
                              go_ret
                              exact ⟨by first|rfl|(simp [errW_none, errW_some] <;> rfl)|(simp [*, errW_none, errW_some] <;> rfl), by repeat (first|(with_reducible first|exact HB.out|apply zI|apply zG|apply zH|refine zJ ?_ GE156.out|refine zJ ?_ GE167.out)|exact HB.out)⟩
                            · replace c28 := Bool.eq_false_iff.mpr c28
                              subst c28
                              have H1 : (if ((rd_T81 l0_0 x6_2).f1) = true then ((spec_l01In.f (((rd_T81 l0_0 x6_2).f2).size : Int) 1 12).bind fun t170 => (if t170 = true then (if (((rd_T81 l0_0 x6_2).f3).size : Int) > 20 then (some false) else (if ((rd_T81 l0_0 x6_2).f4) = 0 then (spec_ArenaOk.l1 kj14 (l0_0.length : Int) x4_1 (wrap64 (x6_2 + 1)) l0_0 a0_1) else (some false))) else (some false))) else (if ((rd_T81 l0_0 x6_2).f2).toList = ([] : List UInt8) then (if ((rd_T81 l0_0 x6_2).f3).toList = ([] : List UInt8) then (spec_ArenaOk.l1 kj14 (l0_0.length : Int) x4_1 (wrap64 (x6_2 + 1)) l0_0 a0_1) else (some false)) else (some false))) = some r := by rw [if_neg (show ¬ (false = true) by decide)] at H; exact H
                              clear H
                              have H := H1
                              clear H1
                              by_cases c29 : ((rd_T81 l0_0 x6_2).f1) = true
                              · rw [if_pos c29] at H
                                have c29b0 : ((rd_T81 l0_0 x6_2).f1) = true := c29
                                clear c29
                                replace H := Option.bind_eq_some_iff.mp H
                                obtain ⟨t170, A300, H⟩ := H
                                replace H : (if t170 = true then (if (((rd_T81 l0_0 x6_2).f3).size : Int) > 20 then (some false) else (if ((rd_T81 l0_0 x6_2).f4) = 0 then (spec_ArenaOk.l1 kj14 (l0_0.length : Int) x4_1 (wrap64 (x6_2 + 1)) l0_0 a0_1) else (some false))) else (some false)) = some r := H
                                have A30 := Aside0.mk A300
                                clear A300
                                by_cases c31 : t170 = true
                                · subst c31
                                  have H1 : (if (((rd_T81 l0_0 x6_2).f3).size : Int) > 20 then (some false) else (if ((rd_T81 l0_0 x6_2).f4) = 0 then (spec_ArenaOk.l1 kj14 (l0_0.length : Int) x4_1 (wrap64 (x6_2 + 1)) l0_0 a0_1) else (some false))) = some r := by rw [if_pos rfl] at H; exact H
                                  clear H
                                  have H := H1
                                  clear H1
                                  by_cases c32 : (((rd_T81 l0_0 x6_2).f3).size : Int) > 20
                                  · rw [if_pos c32] at H
                                    have c32b0 : decide (20 < (((rd_T81 l0_0 x6_2).f3).size : Int)) = true := decide_eq_true c32
                                    have c32b1 : decide (20 < ((rd_T81 l0_0 x6_2).f3).size) = true := decide_eq_true (by omega)
                                    clear c32
                                    obtain rfl := Option.some.inj H
                                    have hnb33 := NB167_156.out
                                    have hnc33 := NB156_167.out
                                    obtain ⟨hcz34_0, hcz34_1, hcz34_2, hcz34_3, hcz34_4, hfz34_0, hfz34_1, hfz34_2, hfz34_3, hfz34_4⟩ := zb5 BK167.out
                                    go_wp2_with (first|(go_at_call 68; (with_reducible refine (spec_l01In.calls (((rd_T81 l0_0 x6_2).f2).size : Int) 1 12 true _ A30.out).mono ?_); rintro e w' ⟨rfl, ⟨nd, rfl⟩⟩; (try first|exact ⟨rfl, _, World.drewN_drewN _ _ _⟩|exact ⟨rfl, _, Eq.trans (World.drewN_drewN _ _ _) (congrArg (World.drewN _) (Nat.add_assoc _ _ _))⟩)))
                                    repeat (go_quiet (first|(go_at_call 68; (with_reducible refine (spec_l01In.calls (((rd_T81 l0_0 x6_2).f2).size : Int) 1 12 true _ A30.out).mono ?_); rintro e w' ⟨rfl, ⟨nd, rfl⟩⟩; (try first|exact ⟨rfl, _, World.drewN_drewN _ _ _⟩|exact ⟨rfl, _, Eq.trans (World.drewN_drewN _ _ _) (congrArg (World.drewN _) (Nat.add_assoc _ _ _))⟩))); try go_wp2_with (first|(go_at_call 68; (with_reducible refine (spec_l01In.calls (((rd_T81 l0_0 x6_2).f2).size : Int) 1 12 true _ A30.out).mono ?_); rintro e w' ⟨rfl, ⟨nd, rfl⟩⟩; (try first|exact ⟨rfl, _, World.drewN_drewN _ _ _⟩|exact ⟨rfl, _, Eq.trans (World.drewN_drewN _ _ _) (congrArg (World.drewN _) (Nat.add_assoc _ _ _))⟩))))
                                    go_ret
                                    exact ⟨by first|rfl|(simp [errW_none, errW_some] <;> rfl)|(simp [*, errW_none, errW_some] <;> rfl), by repeat (first|(with_reducible first|exact HB.out|apply zI|apply zG|apply zH|refine zJ ?_ GE156.out|refine zJ ?_ GE167.out)|exact HB.out)⟩
                                  · rw [if_neg c32] at H
                                    have c32b0 : decide (20 < (((rd_T81 l0_0 x6_2).f3).size : Int)) = false := decide_eq_false c32
                                    have c32b1 : decide (20 < ((rd_T81 l0_0 x6_2).f3).size) = false := decide_eq_false (by omega)
                                    clear c32
                                    by_cases c35 : ((rd_T81 l0_0 x6_2).f4) = 0
                                    · rw [if_pos c35] at H
                                      have c35b0 : (((rd_T81 l0_0 x6_2).f4) == 0) = true := beq_iff_eq.mpr c35
                                      have c35b1 : (((rd_T81 l0_0 x6_2).f4) != 0) = false := bne_eq_false_iff_eq.mpr c35
                                      clear c35
                                      have H' := Aside0.mk H
                                      clear H
                                      have hnb36 := NB167_156.out
                                      have hnc36 := NB156_167.out
                                      obtain ⟨hcz37_0, hcz37_1, hcz37_2, hcz37_3, hcz37_4, hfz37_0, hfz37_1, hfz37_2, hfz37_3, hfz37_4⟩ := zb5 BK167.out
                                      go_wp2_with (first|(go_at_call 68; (with_reducible refine (spec_l01In.calls (((rd_T81 l0_0 x6_2).f2).size : Int) 1 12 true _ A30.out).mono ?_); rintro e w' ⟨rfl, ⟨nd, rfl⟩⟩; (try first|exact ⟨rfl, _, World.drewN_drewN _ _ _⟩|exact ⟨rfl, _, Eq.trans (World.drewN_drewN _ _ _) (congrArg (World.drewN _) (Nat.add_assoc _ _ _))⟩)))
                                      repeat (go_quiet (first|(go_at_call 68; (with_reducible refine (spec_l01In.calls (((rd_T81 l0_0 x6_2).f2).size : Int) 1 12 true _ A30.out).mono ?_); rintro e w' ⟨rfl, ⟨nd, rfl⟩⟩; (try first|exact ⟨rfl, _, World.drewN_drewN _ _ _⟩|exact ⟨rfl, _, Eq.trans (World.drewN_drewN _ _ _) (congrArg (World.drewN _) (Nat.add_assoc _ _ _))⟩))); try go_wp2_with (first|(go_at_call 68; (with_reducible refine (spec_l01In.calls (((rd_T81 l0_0 x6_2).f2).size : Int) 1 12 true _ A30.out).mono ?_); rintro e w' ⟨rfl, ⟨nd, rfl⟩⟩; (try first|exact ⟨rfl, _, World.drewN_drewN _ _ _⟩|exact ⟨rfl, _, Eq.trans (World.drewN_drewN _ _ _) (congrArg (World.drewN _) (Nat.add_assoc _ _ _))⟩))))
                                      go_roundg kj14
                                      case measure => have := HK1.out; have := HK2.out; have := HJ14.out; omega
                                      case rel => exact ⟨(wrap64 (x6_2 + 1)), (by first|rfl|(simp; done)|(simp [*]; done)), H', ⟨by have := HK1.out; have := HK2.out; have := HJ14.out; omega⟩, ⟨by (with_reducible repeat (first|apply zE|apply zD|apply zF)); exact HO_4.out⟩, ⟨by (with_reducible repeat (first|refine zA ?_ _|refine zC ?_|refine zB ?_ _)); exact BK156.out⟩, ⟨by repeat (first|(with_reducible first|exact HB.out|apply zI|apply zG|apply zH|refine zJ ?_ GE156.out|refine zJ ?_ GE167.out)|exact HB.out)⟩⟩
                                    · rw [if_neg c35] at H
                                      have c35b0 : (((rd_T81 l0_0 x6_2).f4) == 0) = false := beq_eq_false_iff_ne.mpr c35
                                      have c35b1 : (((rd_T81 l0_0 x6_2).f4) != 0) = true := bne_iff_ne.mpr c35
                                      obtain rfl := Option.some.inj H
                                      have hnb38 := NB167_156.out
                                      have hnc38 := NB156_167.out
                                      obtain ⟨hcz39_0, hcz39_1, hcz39_2, hcz39_3, hcz39_4, hfz39_0, hfz39_1, hfz39_2, hfz39_3, hfz39_4⟩ := zb5 BK167.out
                                      go_wp2_with (first|(go_at_call 68; (with_reducible refine (spec_l01In.calls (((rd_T81 l0_0 x6_2).f2).size : Int) 1 12 true _ A30.out).mono ?_); rintro e w' ⟨rfl, ⟨nd, rfl⟩⟩; (try first|exact ⟨rfl, _, World.drewN_drewN _ _ _⟩|exact ⟨rfl, _, Eq.trans (World.drewN_drewN _ _ _) (congrArg (World.drewN _) (Nat.add_assoc _ _ _))⟩)))
                                      repeat (go_quiet (first|(go_at_call 68; (with_reducible refine (spec_l01In.calls (((rd_T81 l0_0 x6_2).f2).size : Int) 1 12 true _ A30.out).mono ?_); rintro e w' ⟨rfl, ⟨nd, rfl⟩⟩; (try first|exact ⟨rfl, _, World.drewN_drewN _ _ _⟩|exact ⟨rfl, _, Eq.trans (World.drewN_drewN _ _ _) (congrArg (World.drewN _) (Nat.add_assoc _ _ _))⟩))); try go_wp2_with (first|(go_at_call 68; (with_reducible refine (spec_l01In.calls (((rd_T81 l0_0 x6_2).f2).size : Int) 1 12 true _ A30.out).mono ?_); rintro e w' ⟨rfl, ⟨nd, rfl⟩⟩; (try first|exact ⟨rfl, _, World.drewN_drewN _ _ _⟩|exact ⟨rfl, _, Eq.trans (World.drewN_drewN _ _ _) (congrArg (World.drewN _) (Nat.add_assoc _ _ _))⟩))))
                                      go_ret
                                      exact ⟨by first|rfl|(simp [errW_none, errW_some] <;> rfl)|(simp [*, errW_none, errW_some] <;> rfl), by repeat (first|(with_reducible first|exact HB.out|apply zI|apply zG|apply zH|refine zJ ?_ GE156.out|refine zJ ?_ GE167.out)|exact HB.out)⟩
                                · replace c31 := Bool.eq_false_iff.mpr c31
                                  subst c31
                                  have H1 : (some false) = some r := by rw [if_neg (show ¬ (false = true) by decide)] at H; exact H
                                  clear H
                                  have H := H1
                                  clear H1
                                  obtain rfl := Option.some.inj H
                                  have hnb40 := NB167_156.out
                                  have hnc40 := NB156_167.out
                                  obtain ⟨hcz41_0, hcz41_1, hcz41_2, hcz41_3, hcz41_4, hfz41_0, hfz41_1, hfz41_2, hfz41_3, hfz41_4⟩ := zb5 BK167.out
                                  go_wp2_with (first|(go_at_call 68; (with_reducible refine (spec_l01In.calls (((rd_T81 l0_0 x6_2).f2).size : Int) 1 12 false _ A30.out).mono ?_); rintro e w' ⟨rfl, ⟨nd, rfl⟩⟩; (try first|exact ⟨rfl, _, World.drewN_drewN _ _ _⟩|exact ⟨rfl, _, Eq.trans (World.drewN_drewN _ _ _) (congrArg (World.drewN _) (Nat.add_assoc _ _ _))⟩)))
                                  repeat (go_quiet (first|(go_at_call 68; (with_reducible refine (spec_l01In.calls (((rd_T81 l0_0 x6_2).f2).size : Int) 1 12 false _ A30.out).mono ?_); rintro e w' ⟨rfl, ⟨nd, rfl⟩⟩; (try first|exact ⟨rfl, _, World.drewN_drewN _ _ _⟩|exact ⟨rfl, _, Eq.trans (World.drewN_drewN _ _ _) (congrArg (World.drewN _) (Nat.add_assoc _ _ _))⟩))); try go_wp2_with (first|(go_at_call 68; (with_reducible refine (spec_l01In.calls (((rd_T81 l0_0 x6_2).f2).size : Int) 1 12 false _ A30.out).mono ?_); rintro e w' ⟨rfl, ⟨nd, rfl⟩⟩; (try first|exact ⟨rfl, _, World.drewN_drewN _ _ _⟩|exact ⟨rfl, _, Eq.trans (World.drewN_drewN _ _ _) (congrArg (World.drewN _) (Nat.add_assoc _ _ _))⟩))))
                                  go_ret
                                  exact ⟨by first|rfl|(simp [errW_none, errW_some] <;> rfl)|(simp [*, errW_none, errW_some] <;> rfl), by repeat (first|(with_reducible first|exact HB.out|apply zI|apply zG|apply zH|refine zJ ?_ GE156.out|refine zJ ?_ GE167.out)|exact HB.out)⟩
                              · rw [if_neg c29] at H
                                have c29b0 : ((rd_T81 l0_0 x6_2).f1) = false := by simpa using c29
                                clear c29
                                by_cases c42 : ((rd_T81 l0_0 x6_2).f2).toList = ([] : List UInt8)
                                · rw [if_pos c42] at H
                                  have c42b0 : (((rd_T81 l0_0 x6_2).f2).toList == ([] : List UInt8)) = true := beq_iff_eq.mpr c42
                                  have c42b1 : (((rd_T81 l0_0 x6_2).f2).toList != ([] : List UInt8)) = false := bne_eq_false_iff_eq.mpr c42
                                  clear c42
                                  by_cases c43 : ((rd_T81 l0_0 x6_2).f3).toList = ([] : List UInt8)
                                  · rw [if_pos c43] at H
                                    have c43b0 : (((rd_T81 l0_0 x6_2).f3).toList == ([] : List UInt8)) = true := beq_iff_eq.mpr c43
                                    have c43b1 : (((rd_T81 l0_0 x6_2).f3).toList != ([] : List UInt8)) = false := bne_eq_false_iff_eq.mpr c43
                                    clear c43
                                    have H' := Aside0.mk H
                                    clear H
                                    have hnb44 := NB167_156.out
                                    have hnc44 := NB156_167.out
                                    obtain ⟨hcz45_0, hcz45_1, hcz45_2, hcz45_3, hcz45_4, hfz45_0, hfz45_1, hfz45_2, hfz45_3, hfz45_4⟩ := zb5 BK167.out
                                    go_wp2
                                    repeat (go_quiet (fail); try go_wp2)
                                    go_roundg kj14
                                    case measure => have := HK1.out; have := HK2.out; have := HJ14.out; omega
                                    case rel => exact ⟨(wrap64 (x6_2 + 1)), (by first|rfl|(simp; done)|(simp [*]; done)), H', ⟨by have := HK1.out; have := HK2.out; have := HJ14.out; omega⟩, ⟨by (with_reducible repeat (first|apply zE|apply zD|apply zF)); exact HO_4.out⟩, ⟨by (with_reducible repeat (first|refine zA ?_ _|refine zC ?_|refine zB ?_ _)); exact BK156.out⟩, ⟨by repeat (first|(with_reducible first|exact HB.out|apply zI|apply zG|apply zH|refine zJ ?_ GE156.out|refine zJ ?_ GE167.out)|exact HB.out)⟩⟩
                                  · rw [if_neg c43] at H
                                    have c43b0 : (((rd_T81 l0_0 x6_2).f3).toList == ([] : List UInt8)) = false := beq_eq_false_iff_ne.mpr c43
                                    have c43b1 : (((rd_T81 l0_0 x6_2).f3).toList != ([] : List UInt8)) = true := bne_iff_ne.mpr c43
                                    obtain rfl := Option.some.inj H
                                    have hnb46 := NB167_156.out
                                    have hnc46 := NB156_167.out
                                    obtain ⟨hcz47_0, hcz47_1, hcz47_2, hcz47_3, hcz47_4, hfz47_0, hfz47_1, hfz47_2, hfz47_3, hfz47_4⟩ := zb5 BK167.out
                                    go_wp2
                                    repeat (go_quiet (fail); try go_wp2)
                                    go_ret
                                    exact ⟨by first|rfl|(simp [errW_none, errW_some] <;> rfl)|(simp [*, errW_none, errW_some] <;> rfl), by repeat (first|(with_reducible first|exact HB.out|apply zI|apply zG|apply zH|refine zJ ?_ GE156.out|refine zJ ?_ GE167.out)|exact HB.out)⟩
                                · rw [if_neg c42] at H
                                  have c42b0 : (((rd_T81 l0_0 x6_2).f2).toList == ([] : List UInt8)) = false := beq_eq_false_iff_ne.mpr c42
                                  have c42b1 : (((rd_T81 l0_0 x6_2).f2).toList != ([] : List UInt8)) = true := bne_iff_ne.mpr c42
                                  obtain rfl := Option.some.inj H
                                  have hnb48 := NB167_156.out
                                  have hnc48 := NB156_167.out
                                  obtain ⟨hcz49_0, hcz49_1, hcz49_2, hcz49_3, hcz49_4, hfz49_0, hfz49_1, hfz49_2, hfz49_3, hfz49_4⟩ := zb5 BK167.out
                                  go_wp2
                                  repeat (go_quiet (fail); try go_wp2)
                                  go_ret
                                  exact ⟨by first|rfl|(simp [errW_none, errW_some] <;> rfl)|(simp [*, errW_none, errW_some] <;> rfl), by repeat (first|(with_reducible first|exact HB.out|apply zI|apply zG|apply zH|refine zJ ?_ GE156.out|refine zJ ?_ GE167.out)|exact HB.out)⟩
                      · rw [if_neg c14] at H
                        exact absurd H (by simp)
                    · rw [if_neg c13] at H
                      exact absurd H (by simp)
                  · rw [if_neg c12] at H
                    have c12b0 : decide (x6_2 < (l0_0.length : Int)) = false := decide_eq_false c12
                    clear c12
                    obtain rfl := Option.some.inj H
                    go_wp2
                    repeat (go_quiet (fail); try go_wp2)
                    go_ret
                    exact ⟨by first|rfl|(simp [errW_none, errW_some] <;> rfl)|(simp [*, errW_none, errW_some] <;> rfl), by repeat (first|(with_reducible first|exact HB.out|apply zI|apply zG|apply zH|refine zJ ?_ GE156.out)|exact HB.out)⟩
            · rw [if_neg c11] at H
              have c11b0 : (x5_1 == (-1)) = false := beq_eq_false_iff_ne.mpr c11
              have c11b1 : (x5_1 != (-1)) = true := bne_iff_ne.mpr c11
              replace H := Option.bind_eq_some_iff.mp H
              obtain ⟨t161, A500, H⟩ := H
              replace H : (if t161 = true then (if 0 ≤ x5_1 then (if x5_1 < (x4_1.length : Int) then (if rdOf false x4_1 x5_1 = true then (some false) else (if x5_1 < (l0_0.length : Int) then (if (rd_T81 l0_0 x5_1).f1 = true then (some false) else (spec_ArenaOk.l0 k1 (l0_0.length : Int) (x4_1.set (x5_1 : Int).toNat true) ((rd_T81 l0_0 x5_1).f4) l0_0 a0_1)) else (none))) else (none)) else (none)) else (some false)) = some r := H
              have A50 := Aside0.mk A500
              clear A500
              by_cases c51 : t161 = true
              · subst c51
                have H1 : (if 0 ≤ x5_1 then (if x5_1 < (x4_1.length : Int) then (if rdOf false x4_1 x5_1 = true then (some false) else (if x5_1 < (l0_0.length : Int) then (if (rd_T81 l0_0 x5_1).f1 = true then (some false) else (spec_ArenaOk.l0 k1 (l0_0.length : Int) (x4_1.set (x5_1 : Int).toNat true) ((rd_T81 l0_0 x5_1).f4) l0_0 a0_1)) else (none))) else (none)) else (none)) = some r := by rw [if_pos rfl] at H; exact H
                clear H
                have H := H1
                clear H1
                by_cases c52 : 0 ≤ x5_1
                · rw [if_pos c52] at H
                  have c52b0 : decide (0 ≤ x5_1) = true := decide_eq_true c52
                  clear c52
                  by_cases c53 : x5_1 < (x4_1.length : Int)
                  · rw [if_pos c53] at H
                    have c53b0 : decide (x5_1 < (x4_1.length : Int)) = true := decide_eq_true c53
                    clear c53
                    obtain ⟨bq54, hbq54⟩ : ∃ b_ : Bool, b_ = (rdOf false x4_1 x5_1) := ⟨_, rfl⟩
                    replace H : (if bq54 = true then (some false) else (if x5_1 < (l0_0.length : Int) then (if (rd_T81 l0_0 x5_1).f1 = true then (some false) else (spec_ArenaOk.l0 k1 (l0_0.length : Int) (x4_1.set (x5_1 : Int).toNat true) ((rd_T81 l0_0 x5_1).f4) l0_0 a0_1)) else (none))) = some r := by rw [← hbq54] at H; exact H
                    have Nbq54 := Aside0.mk hbq54
                    clear hbq54
                    by_cases c55 : bq54 = true
                    · subst c55
                      have H1 : (some false) = some r := by rw [if_pos rfl] at H; exact H
                      clear H
                      have H := H1
                      clear H1
                      obtain rfl := Option.some.inj H
                      go_wp2_with (first|(go_at_call 68; (with_reducible refine (spec_l01In.calls x5_1 0 (wrap64 ((l0_0.length : Int) - 1)) true _ A50.out).mono ?_); rintro e w' ⟨rfl, ⟨nd, rfl⟩⟩; (try first|exact ⟨rfl, _, World.drewN_drewN _ _ _⟩|exact ⟨rfl, _, Eq.trans (World.drewN_drewN _ _ _) (congrArg (World.drewN _) (Nat.add_assoc _ _ _))⟩); obtain ⟨Ao56, co56, eo56⟩ := Kd.R_slice HO_4.out; subst eo56; have p162 : 0 ≤ (x5_1 : Int) := of_decide_eq_true (by first|(with_reducible assumption)|assumption); have q162 : x5_1 < (x4_1.length : Int) := of_decide_eq_true (by first|(with_reducible assumption)|assumption); obtain ⟨ad162, e162, hx162_0⟩ := Kd.at_bool (Kd.R_reads' HO_4.out).2.2 x5_1 p162 q162; (try rw [← Nbq54.out] at hx162_0); cases e162; replace p162 := eq_true p162; replace q162 := eq_true q162))
                      repeat (go_quiet (first|(go_at_call 68; (with_reducible refine (spec_l01In.calls x5_1 0 (wrap64 ((l0_0.length : Int) - 1)) true _ A50.out).mono ?_); rintro e w' ⟨rfl, ⟨nd, rfl⟩⟩; (try first|exact ⟨rfl, _, World.drewN_drewN _ _ _⟩|exact ⟨rfl, _, Eq.trans (World.drewN_drewN _ _ _) (congrArg (World.drewN _) (Nat.add_assoc _ _ _))⟩); obtain ⟨Ao56, co56, eo56⟩ := Kd.R_slice HO_4.out; subst eo56; have p162 : 0 ≤ (x5_1 : Int) := of_decide_eq_true (by first|(with_reducible assumption)|assumption); have q162 : x5_1 < (x4_1.length : Int) := of_decide_eq_true (by first|(with_reducible assumption)|assumption); obtain ⟨ad162, e162, hx162_0⟩ := Kd.at_bool (Kd.R_reads' HO_4.out).2.2 x5_1 p162 q162; (try rw [← Nbq54.out] at hx162_0); cases e162; replace p162 := eq_true p162; replace q162 := eq_true q162)); try go_wp2_with (first|(go_at_call 68; (with_reducible refine (spec_l01In.calls x5_1 0 (wrap64 ((l0_0.length : Int) - 1)) true _ A50.out).mono ?_); rintro e w' ⟨rfl, ⟨nd, rfl⟩⟩; (try first|exact ⟨rfl, _, World.drewN_drewN _ _ _⟩|exact ⟨rfl, _, Eq.trans (World.drewN_drewN _ _ _) (congrArg (World.drewN _) (Nat.add_assoc _ _ _))⟩); obtain ⟨Ao56, co56, eo56⟩ := Kd.R_slice HO_4.out; subst eo56; have p162 : 0 ≤ (x5_1 : Int) := of_decide_eq_true (by first|(with_reducible assumption)|assumption); have q162 : x5_1 < (x4_1.length : Int) := of_decide_eq_true (by first|(with_reducible assumption)|assumption); obtain ⟨ad162, e162, hx162_0⟩ := Kd.at_bool (Kd.R_reads' HO_4.out).2.2 x5_1 p162 q162; (try rw [← Nbq54.out] at hx162_0); cases e162; replace p162 := eq_true p162; replace q162 := eq_true q162)))
                      go_ret
                      exact ⟨by first|rfl|(simp [errW_none, errW_some] <;> rfl)|(simp [*, errW_none, errW_some] <;> rfl), by repeat (first|(with_reducible first|exact HB.out|apply zI|apply zG|apply zH|refine zJ ?_ GE156.out)|exact HB.out)⟩
                    · replace c55 := Bool.eq_false_iff.mpr c55
                      subst c55
                      have H1 : (if x5_1 < (l0_0.length : Int) then (if (rd_T81 l0_0 x5_1).f1 = true then (some false) else (spec_ArenaOk.l0 k1 (l0_0.length : Int) (x4_1.set (x5_1 : Int).toNat true) ((rd_T81 l0_0 x5_1).f4) l0_0 a0_1)) else (none)) = some r := by rw [if_neg (show ¬ (false = true) by decide)] at H; exact H
                      clear H
                      have H := H1
                      clear H1
                      by_cases c57 : x5_1 < (l0_0.length : Int)
                      · rw [if_pos c57] at H
                        have c57b0 : decide (x5_1 < (l0_0.length : Int)) = true := decide_eq_true c57
                        clear c57
                        obtain ⟨bq58, hbq58⟩ : ∃ b_ : Bool, b_ = ((rd_T81 l0_0 x5_1).f1) := ⟨_, rfl⟩
                        replace H : (if bq58 = true then (some false) else (spec_ArenaOk.l0 k1 (l0_0.length : Int) (x4_1.set (x5_1 : Int).toNat true) ((rd_T81 l0_0 x5_1).f4) l0_0 a0_1)) = some r := by rw [← hbq58] at H; exact H
                        have Nbq58 := Aside0.mk hbq58
                        clear hbq58
                        by_cases c59 : bq58 = true
                        · subst c59
                          have H1 : (some false) = some r := by rw [if_pos rfl] at H; exact H
                          clear H
                          have H := H1
                          clear H1
                          obtain rfl := Option.some.inj H
                          go_wp2_with (first|(go_at_call 68; (with_reducible refine (spec_l01In.calls x5_1 0 (wrap64 ((l0_0.length : Int) - 1)) true _ A50.out).mono ?_); rintro e w' ⟨rfl, ⟨nd, rfl⟩⟩; (try first|exact ⟨rfl, _, World.drewN_drewN _ _ _⟩|exact ⟨rfl, _, Eq.trans (World.drewN_drewN _ _ _) (congrArg (World.drewN _) (Nat.add_assoc _ _ _))⟩); obtain ⟨Ao60, co60, eo60⟩ := Kd.R_slice HO_4.out; subst eo60; have p162 : 0 ≤ (x5_1 : Int) := of_decide_eq_true (by first|(with_reducible assumption)|assumption); have q162 : x5_1 < (x4_1.length : Int) := of_decide_eq_true (by first|(with_reducible assumption)|assumption); obtain ⟨ad162, e162, hx162_0⟩ := Kd.at_bool (Kd.R_reads' HO_4.out).2.2 x5_1 p162 q162; (try rw [← Nbq54.out] at hx162_0); (try rw [← Nbq58.out] at hx162_0); cases e162; replace p162 := eq_true p162; replace q162 := eq_true q162; obtain ⟨hcz61_0, hcz61_1, hfz61_0, hfz61_1⟩ := zb2 BK156.out; have p163 : 0 ≤ (x5_1 : Int) := of_decide_eq_true (by first|(with_reducible assumption)|assumption); have q163 : x5_1 < (l0_0.length : Int) := of_decide_eq_true (by first|(with_reducible assumption)|assumption); obtain ⟨ad163, e163, hx163_0, hx163_1, hx163_2, hx163_3, hx163_4⟩ := at_T81 HR0_0.out x5_1 p163 q163; (try rw [← Nbq54.out] at hx163_1); (try rw [← Nbq58.out] at hx163_1); cases e163; replace hx163_0 := (HB.out.cell (World.block_lt_of_cell? w _ hx163_0)).trans hx163_0; replace hx163_1 := (HB.out.cell (World.block_lt_of_cell? w _ hx163_1)).trans hx163_1; replace hx163_2 := (HB.out.cell (World.block_lt_of_cell? w _ hx163_2)).trans hx163_2; replace hx163_3 := (HB.out.cell (World.block_lt_of_cell? w _ hx163_3)).trans hx163_3; replace hx163_4 := (HB.out.cell (World.block_lt_of_cell? w _ hx163_4)).trans hx163_4; replace p163 := eq_true p163; replace q163 := eq_true q163))
                          repeat (go_quiet (first|(go_at_call 68; (with_reducible refine (spec_l01In.calls x5_1 0 (wrap64 ((l0_0.length : Int) - 1)) true _ A50.out).mono ?_); rintro e w' ⟨rfl, ⟨nd, rfl⟩⟩; (try first|exact ⟨rfl, _, World.drewN_drewN _ _ _⟩|exact ⟨rfl, _, Eq.trans (World.drewN_drewN _ _ _) (congrArg (World.drewN _) (Nat.add_assoc _ _ _))⟩); obtain ⟨Ao60, co60, eo60⟩ := Kd.R_slice HO_4.out; subst eo60; have p162 : 0 ≤ (x5_1 : Int) := of_decide_eq_true (by first|(with_reducible assumption)|assumption); have q162 : x5_1 < (x4_1.length : Int) := of_decide_eq_true (by first|(with_reducible assumption)|assumption); obtain ⟨ad162, e162, hx162_0⟩ := Kd.at_bool (Kd.R_reads' HO_4.out).2.2 x5_1 p162 q162; (try rw [← Nbq54.out] at hx162_0); (try rw [← Nbq58.out] at hx162_0); cases e162; replace p162 := eq_true p162; replace q162 := eq_true q162; obtain ⟨hcz61_0, hcz61_1, hfz61_0, hfz61_1⟩ := zb2 BK156.out; have p163 : 0 ≤ (x5_1 : Int) := of_decide_eq_true (by first|(with_reducible assumption)|assumption); have q163 : x5_1 < (l0_0.length : Int) := of_decide_eq_true (by first|(with_reducible assumption)|assumption); obtain ⟨ad163, e163, hx163_0, hx163_1, hx163_2, hx163_3, hx163_4⟩ := at_T81 HR0_0.out x5_1 p163 q163; (try rw [← Nbq54.out] at hx163_1); (try rw [← Nbq58.out] at hx163_1); cases e163; replace hx163_0 := (HB.out.cell (World.block_lt_of_cell? w _ hx163_0)).trans hx163_0; replace hx163_1 := (HB.out.cell (World.block_lt_of_cell? w _ hx163_1)).trans hx163_1; replace hx163_2 := (HB.out.cell (World.block_lt_of_cell? w _ hx163_2)).trans hx163_2; replace hx163_3 := (HB.out.cell (World.block_lt_of_cell? w _ hx163_3)).trans hx163_3; replace hx163_4 := (HB.out.cell (World.block_lt_of_cell? w _ hx163_4)).trans hx163_4; replace p163 := eq_true p163; replace q163 := eq_true q163)); try go_wp2_with (first|(go_at_call 68; (with_reducible refine (spec_l01In.calls x5_1 0 (wrap64 ((l0_0.length : Int) - 1)) true _ A50.out).mono ?_); rintro e w' ⟨rfl, ⟨nd, rfl⟩⟩; (try first|exact ⟨rfl, _, World.drewN_drewN _ _ _⟩|exact ⟨rfl, _, Eq.trans (World.drewN_drewN _ _ _) (congrArg (World.drewN _) (Nat.add_assoc _ _ _))⟩); obtain ⟨Ao60, co60, eo60⟩ := Kd.R_slice HO_4.out; subst eo60; have p162 : 0 ≤ (x5_1 : Int) := of_decide_eq_true (by first|(with_reducible assumption)|assumption); have q162 : x5_1 < (x4_1.length : Int) := of_decide_eq_true (by first|(with_reducible assumption)|assumption); obtain ⟨ad162, e162, hx162_0⟩ := Kd.at_bool (Kd.R_reads' HO_4.out).2.2 x5_1 p162 q162; (try rw [← Nbq54.out] at hx162_0); (try rw [← Nbq58.out] at hx162_0); cases e162; replace p162 := eq_true p162; replace q162 := eq_true q162; obtain ⟨hcz61_0, hcz61_1, hfz61_0, hfz61_1⟩ := zb2 BK156.out; have p163 : 0 ≤ (x5_1 : Int) := of_decide_eq_true (by first|(with_reducible assumption)|assumption); have q163 : x5_1 < (l0_0.length : Int) := of_decide_eq_true (by first|(with_reducible assumption)|assumption); obtain ⟨ad163, e163, hx163_0, hx163_1, hx163_2, hx163_3, hx163_4⟩ := at_T81 HR0_0.out x5_1 p163 q163; (try rw [← Nbq54.out] at hx163_1); (try rw [← Nbq58.out] at hx163_1); cases e163; replace hx163_0 := (HB.out.cell (World.block_lt_of_cell? w _ hx163_0)).trans hx163_0; replace hx163_1 := (HB.out.cell (World.block_lt_of_cell? w _ hx163_1)).trans hx163_1; replace hx163_2 := (HB.out.cell (World.block_lt_of_cell? w _ hx163_2)).trans hx163_2; replace hx163_3 := (HB.out.cell (World.block_lt_of_cell? w _ hx163_3)).trans hx163_3; replace hx163_4 := (HB.out.cell (World.block_lt_of_cell? w _ hx163_4)).trans hx163_4; replace p163 := eq_true p163; replace q163 := eq_true q163)))
                          go_ret
                          exact ⟨by first|rfl|(simp [errW_none, errW_some] <;> rfl)|(simp [*, errW_none, errW_some] <;> rfl), by repeat (first|(with_reducible first|exact HB.out|apply zI|apply zG|apply zH|refine zJ ?_ GE156.out)|exact HB.out)⟩
                        · replace c59 := Bool.eq_false_iff.mpr c59
                          subst c59
                          have H1 : (spec_ArenaOk.l0 k1 (l0_0.length : Int) (x4_1.set (x5_1 : Int).toNat true) ((rd_T81 l0_0 x5_1).f4) l0_0 a0_1) = some r := by rw [if_neg (show ¬ (false = true) by decide)] at H; exact H
                          clear H
                          have H := H1
                          clear H1
                          obtain ⟨y164, hy164⟩ : ∃ y_ : List Bool, y_ = (x4_1.set (x5_1 : Int).toNat true) := ⟨_, rfl⟩
                          replace H : (spec_ArenaOk.l0 k1 (l0_0.length : Int) y164 ((rd_T81 l0_0 x5_1).f4) l0_0 a0_1) = some r := by first|(rw [hy164]; with_reducible exact H)|(have H2_ := (Option.bind_some _ _).symm.trans H; rw [hy164]; with_reducible exact H2_)|(have H2_ := (Option.bind_some _ _).symm.trans H; with_reducible exact H2_)|with_reducible exact H|(rw [hy164]; exact H)|exact H
                          have Ny164 := Aside0.mk hy164
                          clear hy164
                          have H' := Aside0.mk H
                          clear H
                          go_wp2_with (first|(go_at_call 68; (with_reducible refine (spec_l01In.calls x5_1 0 (wrap64 ((l0_0.length : Int) - 1)) true _ A50.out).mono ?_); rintro e w' ⟨rfl, ⟨nd, rfl⟩⟩; (try first|exact ⟨rfl, _, World.drewN_drewN _ _ _⟩|exact ⟨rfl, _, Eq.trans (World.drewN_drewN _ _ _) (congrArg (World.drewN _) (Nat.add_assoc _ _ _))⟩); obtain ⟨Ao63, co63, eo63⟩ := Kd.R_slice HO_4.out; subst eo63; have p162 : 0 ≤ (x5_1 : Int) := of_decide_eq_true (by first|(with_reducible assumption)|assumption); have q162 : x5_1 < (x4_1.length : Int) := of_decide_eq_true (by first|(with_reducible assumption)|assumption); obtain ⟨ad162, e162, hx162_0⟩ := Kd.at_bool (Kd.R_reads' HO_4.out).2.2 x5_1 p162 q162; (try rw [← Nbq54.out] at hx162_0); (try rw [← Nbq58.out] at hx162_0); cases e162; replace p162 := eq_true p162; replace q162 := eq_true q162; obtain ⟨hcz64_0, hcz64_1, hfz64_0, hfz64_1⟩ := zb2 BK156.out; have p163 : 0 ≤ (x5_1 : Int) := of_decide_eq_true (by first|(with_reducible assumption)|assumption); have q163 : x5_1 < (l0_0.length : Int) := of_decide_eq_true (by first|(with_reducible assumption)|assumption); obtain ⟨ad163, e163, hx163_0, hx163_1, hx163_2, hx163_3, hx163_4⟩ := at_T81 HR0_0.out x5_1 p163 q163; (try rw [← Nbq54.out] at hx163_1); (try rw [← Nbq58.out] at hx163_1); cases e163; replace hx163_0 := (HB.out.cell (World.block_lt_of_cell? w _ hx163_0)).trans hx163_0; replace hx163_1 := (HB.out.cell (World.block_lt_of_cell? w _ hx163_1)).trans hx163_1; replace hx163_2 := (HB.out.cell (World.block_lt_of_cell? w _ hx163_2)).trans hx163_2; replace hx163_3 := (HB.out.cell (World.block_lt_of_cell? w _ hx163_3)).trans hx163_3; replace hx163_4 := (HB.out.cell (World.block_lt_of_cell? w _ hx163_4)).trans hx163_4; replace p163 := eq_true p163; replace q163 := eq_true q163; have p62 : 0 ≤ (x5_1 : Int) := of_decide_eq_true (by first|(with_reducible assumption)|assumption); have q62 : (x5_1 : Int) < ((x4_1.length : Int) : Int) := of_decide_eq_true (by first|(with_reducible assumption)|assumption); obtain ⟨go62, co62, eo62, gb62, gl62, cl62, HG62⟩ := Kd.R_form HO_4.out (by omega); (first|cases eo62|(injection eo62 with ea_ en_ ec_; (first|subst ea_|(injection ea_ with ea_; subst ea_)); subst ec_; clear en_)); have GB62 := Aside0.mk gb62; have GG62 := Aside0.mk HG62; clear gb62 gl62 HG62; (first|simp only [add_plain] at hx162_0|skip); obtain ⟨hx62_0, hf62_0⟩ := Kd.R_celln false HO_4.out (x5_1 : Int) p62 q62; replace p62 := eq_true p62; replace q62 := eq_true q62; obtain ⟨hy65_, hz65_⟩ := Kd.R_celln false HO_4.out (x5_1 : Int) (of_decide_eq_true (by first|(with_reducible assumption)|assumption)) (of_decide_eq_true (by first|(with_reducible assumption)|assumption)); have HP65 := Kd.R_putg HO_4.out (x5_1 : Int) true)|((with_reducible refine gate_store (t := 4) (p := 41) rfl ?_); (try (rw [drewN_self wr]; generalize hq_ : World.drewN wr _ = wr; have n0_ := Aside0.mk (Kd.R_at hq_ HO_4.out); have n1_ := Aside0.mk (blk_at hq_ BK156.out); have n2_ := Aside0.mk (below_at hq_ HB.out); clear hq_ HO_4 BK156 HB; have HO_4 := n0_; have BK156 := n1_; have HB := n2_; clear n0_ n1_ n2_; (try (obtain ⟨hy65_, hz65_⟩ := Kd.R_celln false HO_4.out (x5_1 : Int) (of_decide_eq_true (by first|(with_reducible assumption)|assumption)) (of_decide_eq_true (by first|(with_reducible assumption)|assumption)))); (try (have HP65 := Kd.R_putg HO_4.out (x5_1 : Int) true)))); refine store_event (t := 4) (p := 41) (v := ?vo_w66) (w1 := (wr.setCell ⟨go62, (x5_1 : Int).toNat, none⟩ (.bool true))) ?hg ?ho ?hn ?hr ?_; (case ho => rfl); (case hg => rfl); (case hn => rfl); (case hr => first|(go_simp; done)|(go_simp; rfl)); intro w66 hw; have hg : wr.grownBy w66 (some go62) := (by rw [hw]; exact HP65.2); have hp_ : Kd.R Kd.bool 4 w66 w.heap.size (fun _ => True) (.slice (some ⟨go62, 0, none⟩) x4_1.length co63) y164 := (by rw [hw, Ny164.out]; exact HP65.1); clear HP65; have n0_ := Aside0.mk (hp_); have n1_ := Aside0.mk (blk_grown (g := gb156) (o := .cells #[.slice (some ad163) l0_0.length c0_0, .int .i64 a0_1] 65 (0, 0)) (by (with_reducible repeat (first|refine zA ?_ _|refine zC ?_|refine zB ?_ _)); exact BK156.out) hg (Kd.R_ne HO_4.out BK156.out (by decide))); have n2_ := Aside0.mk ((by rw [hw]; exact zJ (HB.out) GB62.out : Below w.heap.size w w66)); clear HO_4; clear BK156; clear HB; have HO_4 := n0_; have BK156 := n1_; have HB := n2_; clear n0_ n1_ n2_; clear hg hw hp_; obtain ⟨hcz67_0, hcz67_1, hfz67_0, hfz67_1⟩ := zb2 BK156.out; have p165 : 0 ≤ (x5_1 : Int) := of_decide_eq_true (by first|(with_reducible assumption)|assumption); have q165 : x5_1 < (l0_0.length : Int) := of_decide_eq_true (by first|(with_reducible assumption)|assumption); obtain ⟨ad165, e165, hx165_0, hx165_1, hx165_2, hx165_3, hx165_4⟩ := at_T81 HR0_0.out x5_1 p165 q165; (try rw [← Nbq54.out] at hx165_1); (try rw [← Nbq58.out] at hx165_1); obtain rfl : ad163 = ad165 := (by injection e165); replace hx165_0 := (HB.out.cell (World.block_lt_of_cell? w _ hx165_0)).trans hx165_0; replace hx165_1 := (HB.out.cell (World.block_lt_of_cell? w _ hx165_1)).trans hx165_1; replace hx165_2 := (HB.out.cell (World.block_lt_of_cell? w _ hx165_2)).trans hx165_2; replace hx165_3 := (HB.out.cell (World.block_lt_of_cell? w _ hx165_3)).trans hx165_3; replace hx165_4 := (HB.out.cell (World.block_lt_of_cell? w _ hx165_4)).trans hx165_4; replace p165 := eq_true p165; replace q165 := eq_true q165))
                          repeat (go_quiet (first|(go_at_call 68; (with_reducible refine (spec_l01In.calls x5_1 0 (wrap64 ((l0_0.length : Int) - 1)) true _ A50.out).mono ?_); rintro e w' ⟨rfl, ⟨nd, rfl⟩⟩; (try first|exact ⟨rfl, _, World.drewN_drewN _ _ _⟩|exact ⟨rfl, _, Eq.trans (World.drewN_drewN _ _ _) (congrArg (World.drewN _) (Nat.add_assoc _ _ _))⟩); obtain ⟨Ao63, co63, eo63⟩ := Kd.R_slice HO_4.out; subst eo63; have p162 : 0 ≤ (x5_1 : Int) := of_decide_eq_true (by first|(with_reducible assumption)|assumption); have q162 : x5_1 < (x4_1.length : Int) := of_decide_eq_true (by first|(with_reducible assumption)|assumption); obtain ⟨ad162, e162, hx162_0⟩ := Kd.at_bool (Kd.R_reads' HO_4.out).2.2 x5_1 p162 q162; (try rw [← Nbq54.out] at hx162_0); (try rw [← Nbq58.out] at hx162_0); cases e162; replace p162 := eq_true p162; replace q162 := eq_true q162; obtain ⟨hcz64_0, hcz64_1, hfz64_0, hfz64_1⟩ := zb2 BK156.out; have p163 : 0 ≤ (x5_1 : Int) := of_decide_eq_true (by first|(with_reducible assumption)|assumption); have q163 : x5_1 < (l0_0.length : Int) := of_decide_eq_true (by first|(with_reducible assumption)|assumption); obtain ⟨ad163, e163, hx163_0, hx163_1, hx163_2, hx163_3, hx163_4⟩ := at_T81 HR0_0.out x5_1 p163 q163; (try rw [← Nbq54.out] at hx163_1); (try rw [← Nbq58.out] at hx163_1); cases e163; replace hx163_0 := (HB.out.cell (World.block_lt_of_cell? w _ hx163_0)).trans hx163_0; replace hx163_1 := (HB.out.cell (World.block_lt_of_cell? w _ hx163_1)).trans hx163_1; replace hx163_2 := (HB.out.cell (World.block_lt_of_cell? w _ hx163_2)).trans hx163_2; replace hx163_3 := (HB.out.cell (World.block_lt_of_cell? w _ hx163_3)).trans hx163_3; replace hx163_4 := (HB.out.cell (World.block_lt_of_cell? w _ hx163_4)).trans hx163_4; replace p163 := eq_true p163; replace q163 := eq_true q163; have p62 : 0 ≤ (x5_1 : Int) := of_decide_eq_true (by first|(with_reducible assumption)|assumption); have q62 : (x5_1 : Int) < ((x4_1.length : Int) : Int) := of_decide_eq_true (by first|(with_reducible assumption)|assumption); obtain ⟨go62, co62, eo62, gb62, gl62, cl62, HG62⟩ := Kd.R_form HO_4.out (by omega); (first|cases eo62|(injection eo62 with ea_ en_ ec_; (first|subst ea_|(injection ea_ with ea_; subst ea_)); subst ec_; clear en_)); have GB62 := Aside0.mk gb62; have GG62 := Aside0.mk HG62; clear gb62 gl62 HG62; (first|simp only [add_plain] at hx162_0|skip); obtain ⟨hx62_0, hf62_0⟩ := Kd.R_celln false HO_4.out (x5_1 : Int) p62 q62; replace p62 := eq_true p62; replace q62 := eq_true q62; obtain ⟨hy65_, hz65_⟩ := Kd.R_celln false HO_4.out (x5_1 : Int) (of_decide_eq_true (by first|(with_reducible assumption)|assumption)) (of_decide_eq_true (by first|(with_reducible assumption)|assumption)); have HP65 := Kd.R_putg HO_4.out (x5_1 : Int) true)|((with_reducible refine gate_store (t := 4) (p := 41) rfl ?_); (try (rw [drewN_self wr]; generalize hq_ : World.drewN wr _ = wr; have n0_ := Aside0.mk (Kd.R_at hq_ HO_4.out); have n1_ := Aside0.mk (blk_at hq_ BK156.out); have n2_ := Aside0.mk (below_at hq_ HB.out); clear hq_ HO_4 BK156 HB; have HO_4 := n0_; have BK156 := n1_; have HB := n2_; clear n0_ n1_ n2_; (try (obtain ⟨hy65_, hz65_⟩ := Kd.R_celln false HO_4.out (x5_1 : Int) (of_decide_eq_true (by first|(with_reducible assumption)|assumption)) (of_decide_eq_true (by first|(with_reducible assumption)|assumption)))); (try (have HP65 := Kd.R_putg HO_4.out (x5_1 : Int) true)))); refine store_event (t := 4) (p := 41) (v := ?vo_w66) (w1 := (wr.setCell ⟨go62, (x5_1 : Int).toNat, none⟩ (.bool true))) ?hg ?ho ?hn ?hr ?_; (case ho => rfl); (case hg => rfl); (case hn => rfl); (case hr => first|(go_simp; done)|(go_simp; rfl)); intro w66 hw; have hg : wr.grownBy w66 (some go62) := (by rw [hw]; exact HP65.2); have hp_ : Kd.R Kd.bool 4 w66 w.heap.size (fun _ => True) (.slice (some ⟨go62, 0, none⟩) x4_1.length co63) y164 := (by rw [hw, Ny164.out]; exact HP65.1); clear HP65; have n0_ := Aside0.mk (hp_); have n1_ := Aside0.mk (blk_grown (g := gb156) (o := .cells #[.slice (some ad163) l0_0.length c0_0, .int .i64 a0_1] 65 (0, 0)) (by (with_reducible repeat (first|refine zA ?_ _|refine zC ?_|refine zB ?_ _)); exact BK156.out) hg (Kd.R_ne HO_4.out BK156.out (by decide))); have n2_ := Aside0.mk ((by rw [hw]; exact zJ (HB.out) GB62.out : Below w.heap.size w w66)); clear HO_4; clear BK156; clear HB; have HO_4 := n0_; have BK156 := n1_; have HB := n2_; clear n0_ n1_ n2_; clear hg hw hp_; obtain ⟨hcz67_0, hcz67_1, hfz67_0, hfz67_1⟩ := zb2 BK156.out; have p165 : 0 ≤ (x5_1 : Int) := of_decide_eq_true (by first|(with_reducible assumption)|assumption); have q165 : x5_1 < (l0_0.length : Int) := of_decide_eq_true (by first|(with_reducible assumption)|assumption); obtain ⟨ad165, e165, hx165_0, hx165_1, hx165_2, hx165_3, hx165_4⟩ := at_T81 HR0_0.out x5_1 p165 q165; (try rw [← Nbq54.out] at hx165_1); (try rw [← Nbq58.out] at hx165_1); obtain rfl : ad163 = ad165 := (by injection e165); replace hx165_0 := (HB.out.cell (World.block_lt_of_cell? w _ hx165_0)).trans hx165_0; replace hx165_1 := (HB.out.cell (World.block_lt_of_cell? w _ hx165_1)).trans hx165_1; replace hx165_2 := (HB.out.cell (World.block_lt_of_cell? w _ hx165_2)).trans hx165_2; replace hx165_3 := (HB.out.cell (World.block_lt_of_cell? w _ hx165_3)).trans hx165_3; replace hx165_4 := (HB.out.cell (World.block_lt_of_cell? w _ hx165_4)).trans hx165_4; replace p165 := eq_true p165; replace q165 := eq_true q165)); try go_wp2_with (first|(go_at_call 68; (with_reducible refine (spec_l01In.calls x5_1 0 (wrap64 ((l0_0.length : Int) - 1)) true _ A50.out).mono ?_); rintro e w' ⟨rfl, ⟨nd, rfl⟩⟩; (try first|exact ⟨rfl, _, World.drewN_drewN _ _ _⟩|exact ⟨rfl, _, Eq.trans (World.drewN_drewN _ _ _) (congrArg (World.drewN _) (Nat.add_assoc _ _ _))⟩); obtain ⟨Ao63, co63, eo63⟩ := Kd.R_slice HO_4.out; subst eo63; have p162 : 0 ≤ (x5_1 : Int) := of_decide_eq_true (by first|(with_reducible assumption)|assumption); have q162 : x5_1 < (x4_1.length : Int) := of_decide_eq_true (by first|(with_reducible assumption)|assumption); obtain ⟨ad162, e162, hx162_0⟩ := Kd.at_bool (Kd.R_reads' HO_4.out).2.2 x5_1 p162 q162; (try rw [← Nbq54.out] at hx162_0); (try rw [← Nbq58.out] at hx162_0); cases e162; replace p162 := eq_true p162; replace q162 := eq_true q162; obtain ⟨hcz64_0, hcz64_1, hfz64_0, hfz64_1⟩ := zb2 BK156.out; have p163 : 0 ≤ (x5_1 : Int) := of_decide_eq_true (by first|(with_reducible assumption)|assumption); have q163 : x5_1 < (l0_0.length : Int) := of_decide_eq_true (by first|(with_reducible assumption)|assumption); obtain ⟨ad163, e163, hx163_0, hx163_1, hx163_2, hx163_3, hx163_4⟩ := at_T81 HR0_0.out x5_1 p163 q163; (try rw [← Nbq54.out] at hx163_1); (try rw [← Nbq58.out] at hx163_1); cases e163; replace hx163_0 := (HB.out.cell (World.block_lt_of_cell? w _ hx163_0)).trans hx163_0; replace hx163_1 := (HB.out.cell (World.block_lt_of_cell? w _ hx163_1)).trans hx163_1; replace hx163_2 := (HB.out.cell (World.block_lt_of_cell? w _ hx163_2)).trans hx163_2; replace hx163_3 := (HB.out.cell (World.block_lt_of_cell? w _ hx163_3)).trans hx163_3; replace hx163_4 := (HB.out.cell (World.block_lt_of_cell? w _ hx163_4)).trans hx163_4; replace p163 := eq_true p163; replace q163 := eq_true q163; have p62 : 0 ≤ (x5_1 : Int) := of_decide_eq_true (by first|(with_reducible assumption)|assumption); have q62 : (x5_1 : Int) < ((x4_1.length : Int) : Int) := of_decide_eq_true (by first|(with_reducible assumption)|assumption); obtain ⟨go62, co62, eo62, gb62, gl62, cl62, HG62⟩ := Kd.R_form HO_4.out (by omega); (first|cases eo62|(injection eo62 with ea_ en_ ec_; (first|subst ea_|(injection ea_ with ea_; subst ea_)); subst ec_; clear en_)); have GB62 := Aside0.mk gb62; have GG62 := Aside0.mk HG62; clear gb62 gl62 HG62; (first|simp only [add_plain] at hx162_0|skip); obtain ⟨hx62_0, hf62_0⟩ := Kd.R_celln false HO_4.out (x5_1 : Int) p62 q62; replace p62 := eq_true p62; replace q62 := eq_true q62; obtain ⟨hy65_, hz65_⟩ := Kd.R_celln false HO_4.out (x5_1 : Int) (of_decide_eq_true (by first|(with_reducible assumption)|assumption)) (of_decide_eq_true (by first|(with_reducible assumption)|assumption)); have HP65 := Kd.R_putg HO_4.out (x5_1 : Int) true)|((with_reducible refine gate_store (t := 4) (p := 41) rfl ?_); (try (rw [drewN_self wr]; generalize hq_ : World.drewN wr _ = wr; have n0_ := Aside0.mk (Kd.R_at hq_ HO_4.out); have n1_ := Aside0.mk (blk_at hq_ BK156.out); have n2_ := Aside0.mk (below_at hq_ HB.out); clear hq_ HO_4 BK156 HB; have HO_4 := n0_; have BK156 := n1_; have HB := n2_; clear n0_ n1_ n2_; (try (obtain ⟨hy65_, hz65_⟩ := Kd.R_celln false HO_4.out (x5_1 : Int) (of_decide_eq_true (by first|(with_reducible assumption)|assumption)) (of_decide_eq_true (by first|(with_reducible assumption)|assumption)))); (try (have HP65 := Kd.R_putg HO_4.out (x5_1 : Int) true)))); refine store_event (t := 4) (p := 41) (v := ?vo_w66) (w1 := (wr.setCell ⟨go62, (x5_1 : Int).toNat, none⟩ (.bool true))) ?hg ?ho ?hn ?hr ?_; (case ho => rfl); (case hg => rfl); (case hn => rfl); (case hr => first|(go_simp; done)|(go_simp; rfl)); intro w66 hw; have hg : wr.grownBy w66 (some go62) := (by rw [hw]; exact HP65.2); have hp_ : Kd.R Kd.bool 4 w66 w.heap.size (fun _ => True) (.slice (some ⟨go62, 0, none⟩) x4_1.length co63) y164 := (by rw [hw, Ny164.out]; exact HP65.1); clear HP65; have n0_ := Aside0.mk (hp_); have n1_ := Aside0.mk (blk_grown (g := gb156) (o := .cells #[.slice (some ad163) l0_0.length c0_0, .int .i64 a0_1] 65 (0, 0)) (by (with_reducible repeat (first|refine zA ?_ _|refine zC ?_|refine zB ?_ _)); exact BK156.out) hg (Kd.R_ne HO_4.out BK156.out (by decide))); have n2_ := Aside0.mk ((by rw [hw]; exact zJ (HB.out) GB62.out : Below w.heap.size w w66)); clear HO_4; clear BK156; clear HB; have HO_4 := n0_; have BK156 := n1_; have HB := n2_; clear n0_ n1_ n2_; clear hg hw hp_; obtain ⟨hcz67_0, hcz67_1, hfz67_0, hfz67_1⟩ := zb2 BK156.out; have p165 : 0 ≤ (x5_1 : Int) := of_decide_eq_true (by first|(with_reducible assumption)|assumption); have q165 : x5_1 < (l0_0.length : Int) := of_decide_eq_true (by first|(with_reducible assumption)|assumption); obtain ⟨ad165, e165, hx165_0, hx165_1, hx165_2, hx165_3, hx165_4⟩ := at_T81 HR0_0.out x5_1 p165 q165; (try rw [← Nbq54.out] at hx165_1); (try rw [← Nbq58.out] at hx165_1); obtain rfl : ad163 = ad165 := (by injection e165); replace hx165_0 := (HB.out.cell (World.block_lt_of_cell? w _ hx165_0)).trans hx165_0; replace hx165_1 := (HB.out.cell (World.block_lt_of_cell? w _ hx165_1)).trans hx165_1; replace hx165_2 := (HB.out.cell (World.block_lt_of_cell? w _ hx165_2)).trans hx165_2; replace hx165_3 := (HB.out.cell (World.block_lt_of_cell? w _ hx165_3)).trans hx165_3; replace hx165_4 := (HB.out.cell (World.block_lt_of_cell? w _ hx165_4)).trans hx165_4; replace p165 := eq_true p165; replace q165 := eq_true q165)))
                          go_roundg k1
                          case measure => have := HK1.out; omega
                          case rel => exact ⟨(y164), ((rd_T81 l0_0 x5_1).f4), (by first|rfl|(simp; done)|(simp [*]; done)), H', ⟨by have := HK1.out; omega⟩, ⟨by (with_reducible repeat (first|apply zE|apply zD|apply zF)); exact HO_4.out⟩, ⟨by (with_reducible repeat (first|refine zA ?_ _|refine zC ?_|refine zB ?_ _)); exact BK156.out⟩, ⟨by repeat (first|(with_reducible first|exact HB.out|apply zI|apply zG|apply zH|refine zJ ?_ GE156.out)|exact HB.out)⟩⟩
                      · rw [if_neg c57] at H
                        exact absurd H (by simp)
                  · rw [if_neg c53] at H
                    exact absurd H (by simp)
                · rw [if_neg c52] at H
                  exact absurd H (by simp)
              · replace c51 := Bool.eq_false_iff.mpr c51
                subst c51
                have H1 : (some false) = some r := by rw [if_neg (show ¬ (false = true) by decide)] at H; exact H
                clear H
                have H := H1
                clear H1
                obtain rfl := Option.some.inj H
                go_wp2_with (first|(go_at_call 68; (with_reducible refine (spec_l01In.calls x5_1 0 (wrap64 ((l0_0.length : Int) - 1)) false _ A50.out).mono ?_); rintro e w' ⟨rfl, ⟨nd, rfl⟩⟩; (try first|exact ⟨rfl, _, World.drewN_drewN _ _ _⟩|exact ⟨rfl, _, Eq.trans (World.drewN_drewN _ _ _) (congrArg (World.drewN _) (Nat.add_assoc _ _ _))⟩)))
                repeat (go_quiet (first|(go_at_call 68; (with_reducible refine (spec_l01In.calls x5_1 0 (wrap64 ((l0_0.length : Int) - 1)) false _ A50.out).mono ?_); rintro e w' ⟨rfl, ⟨nd, rfl⟩⟩; (try first|exact ⟨rfl, _, World.drewN_drewN _ _ _⟩|exact ⟨rfl, _, Eq.trans (World.drewN_drewN _ _ _) (congrArg (World.drewN _) (Nat.add_assoc _ _ _))⟩))); try go_wp2_with (first|(go_at_call 68; (with_reducible refine (spec_l01In.calls x5_1 0 (wrap64 ((l0_0.length : Int) - 1)) false _ A50.out).mono ?_); rintro e w' ⟨rfl, ⟨nd, rfl⟩⟩; (try first|exact ⟨rfl, _, World.drewN_drewN _ _ _⟩|exact ⟨rfl, _, Eq.trans (World.drewN_drewN _ _ _) (congrArg (World.drewN _) (Nat.add_assoc _ _ _))⟩))))
                go_ret
                exact ⟨by first|rfl|(simp [errW_none, errW_some] <;> rfl)|(simp [*, errW_none, errW_some] <;> rfl), by repeat (first|(with_reducible first|exact HB.out|apply zI|apply zG|apply zH|refine zJ ?_ GE156.out)|exact HB.out)⟩
      · rw [if_neg c5] at H
        exact absurd H (by simp)
    · rw [if_neg c4] at H
      exact absurd H (by simp)
  · replace c3 := Bool.eq_false_iff.mpr c3
    subst c3
    have H1 : (some false) = some r := by rw [if_neg (show ¬ (false = true) by decide)] at H; exact H
    clear H
    have H := H1
    clear H1
    obtain rfl := Option.some.inj H
    go_enter Try.func90, Try.ntmps90
    go_wp2_with (first|((with_reducible refine gate_dst (N := 1) rfl ?_); (try (refine gate_guard (by rfl) ?_; dsimp only)); refine box_event ?hg (N := 1) ?hd (cs := #[.slice A0_0 l0_0.length c0_0, .int .i64 a0_1]) (t := 65) ?hr ?_; (case hd => rfl); (case hg => rfl); (case hr => first|(go_simp; done)|(go_simp; rfl)); intro gb156 hg w68 hbox hb; have n0_ := Aside0.mk (zN (by repeat (first|(with_reducible first|exact HB.out|apply zI|apply zG|apply zH)|exact HB.out)) hb); have n1_ := Aside0.mk (hbox); have n2_ := Aside0.mk ((by rw [hg]; exact (below_size (by repeat (first|(with_reducible first|exact HB.out|apply zI|apply zG|apply zH)|exact HB.out))) : w.heap.size ≤ gb156)); have n3_ := Aside0.mk ((by rw [hg]; exact (below_size (by repeat (first|(with_reducible first|exact HB.out|apply zI|apply zG|apply zH)|exact HB.out))) : w.heap.size ≤ gb156)); clear HB; have HB := n0_; have BK156 := n1_; have GW156 := n2_; have GE156 := n3_; clear n0_ n1_ n2_ n3_; clear hb hbox hg; obtain ⟨hcz69_0, hcz69_1, hfz69_0, hfz69_1⟩ := zb2 BK156.out)|(go_at_call 68; (with_reducible refine (spec_l01In.calls (l0_0.length : Int) 1 24 false _ A2.out).mono ?_); rintro e w' ⟨rfl, ⟨nd, rfl⟩⟩; (try first|exact ⟨rfl, _, World.drewN_drewN _ _ _⟩|exact ⟨rfl, _, Eq.trans (World.drewN_drewN _ _ _) (congrArg (World.drewN _) (Nat.add_assoc _ _ _))⟩)))
    repeat (go_quiet (first|((with_reducible refine gate_dst (N := 1) rfl ?_); (try (refine gate_guard (by rfl) ?_; dsimp only)); refine box_event ?hg (N := 1) ?hd (cs := #[.slice A0_0 l0_0.length c0_0, .int .i64 a0_1]) (t := 65) ?hr ?_; (case hd => rfl); (case hg => rfl); (case hr => first|(go_simp; done)|(go_simp; rfl)); intro gb156 hg w68 hbox hb; have n0_ := Aside0.mk (zN (by repeat (first|(with_reducible first|exact HB.out|apply zI|apply zG|apply zH)|exact HB.out)) hb); have n1_ := Aside0.mk (hbox); have n2_ := Aside0.mk ((by rw [hg]; exact (below_size (by repeat (first|(with_reducible first|exact HB.out|apply zI|apply zG|apply zH)|exact HB.out))) : w.heap.size ≤ gb156)); have n3_ := Aside0.mk ((by rw [hg]; exact (below_size (by repeat (first|(with_reducible first|exact HB.out|apply zI|apply zG|apply zH)|exact HB.out))) : w.heap.size ≤ gb156)); clear HB; have HB := n0_; have BK156 := n1_; have GW156 := n2_; have GE156 := n3_; clear n0_ n1_ n2_ n3_; clear hb hbox hg; obtain ⟨hcz69_0, hcz69_1, hfz69_0, hfz69_1⟩ := zb2 BK156.out)|(go_at_call 68; (with_reducible refine (spec_l01In.calls (l0_0.length : Int) 1 24 false _ A2.out).mono ?_); rintro e w' ⟨rfl, ⟨nd, rfl⟩⟩; (try first|exact ⟨rfl, _, World.drewN_drewN _ _ _⟩|exact ⟨rfl, _, Eq.trans (World.drewN_drewN _ _ _) (congrArg (World.drewN _) (Nat.add_assoc _ _ _))⟩))); try go_wp2_with (first|((with_reducible refine gate_dst (N := 1) rfl ?_); (try (refine gate_guard (by rfl) ?_; dsimp only)); refine box_event ?hg (N := 1) ?hd (cs := #[.slice A0_0 l0_0.length c0_0, .int .i64 a0_1]) (t := 65) ?hr ?_; (case hd => rfl); (case hg => rfl); (case hr => first|(go_simp; done)|(go_simp; rfl)); intro gb156 hg w68 hbox hb; have n0_ := Aside0.mk (zN (by repeat (first|(with_reducible first|exact HB.out|apply zI|apply zG|apply zH)|exact HB.out)) hb); have n1_ := Aside0.mk (hbox); have n2_ := Aside0.mk ((by rw [hg]; exact (below_size (by repeat (first|(with_reducible first|exact HB.out|apply zI|apply zG|apply zH)|exact HB.out))) : w.heap.size ≤ gb156)); have n3_ := Aside0.mk ((by rw [hg]; exact (below_size (by repeat (first|(with_reducible first|exact HB.out|apply zI|apply zG|apply zH)|exact HB.out))) : w.heap.size ≤ gb156)); clear HB; have HB := n0_; have BK156 := n1_; have GW156 := n2_; have GE156 := n3_; clear n0_ n1_ n2_ n3_; clear hb hbox hg; obtain ⟨hcz69_0, hcz69_1, hfz69_0, hfz69_1⟩ := zb2 BK156.out)|(go_at_call 68; (with_reducible refine (spec_l01In.calls (l0_0.length : Int) 1 24 false _ A2.out).mono ?_); rintro e w' ⟨rfl, ⟨nd, rfl⟩⟩; (try first|exact ⟨rfl, _, World.drewN_drewN _ _ _⟩|exact ⟨rfl, _, Eq.trans (World.drewN_drewN _ _ _) (congrArg (World.drewN _) (Nat.add_assoc _ _ _))⟩))))
    go_ret
    exact ⟨by first|rfl|(simp [errW_none, errW_some] <;> rfl)|(simp [*, errW_none, errW_some] <;> rfl), by repeat (first|(with_reducible first|exact HB.out|apply zI|apply zG|apply zH|refine zJ ?_ GE156.out)|exact HB.out)⟩

end Go.Proofs.Ytjiekmbonmbhlaa.GFnLifts
