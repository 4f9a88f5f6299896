/- The law FnExactHearNote, walked: it answers true where what its callees answer agrees. -/
import Derived.Test.YtocgakpicmcemaaQFnExactHearNotex6
import Derived.Deep.DeepMust
namespace Go.Proofs.Ytocgakpicmcemaa.PFnExactHearNote
open Go.RowKit Go.Proofs.YtocgakpicmcemaaW.PrintWords Go.Proofs.YtocgakpicmcemaaW.PrintLast Go.Proofs.YtocgakpicmcemaaW.PrintMore
attribute [local go_sem] max2_int min2_int max_two min_two max_three min_three max_four min_four
set_option linter.unusedVariables false
set_option linter.unusedSimpArgs false
set_option maxHeartbeats 8000000 in
set_option maxRecDepth 100000 in
theorem walk3 (k : Nat) (a0_0 a0_1 : Int) (a0_2 : ByteArray) (a1_0 a1_1 a1_2 a1_3 a1_4 : Int) (a1_5 : ByteArray) (t136 t137 t138 t139 : Int) (t140 : ByteArray) (t141 t142 t143 t144 t145 : Int) (t146 : ByteArray) (t147 t148 : Int) (t149 : ByteArray) (t150 t151 t152 t153 t154 : Int) (t155 : ByteArray) (t156 : Bool) (t159 t160 : Int) (t161 : ByteArray) (t162 t163 t164 t165 t166 : Int) (t167 : ByteArray) (t168 t169 : Int) (t170 : ByteArray) (t171 t172 t173 t174 t175 : Int) (t176 : ByteArray) (t177 : Bool) (w : World) (A3 : Aside0 (laws_szVoice.f a0_0 a0_1 a0_2 1048576 = some t136)) (c4b0 : decide (t136 < 0) = false) (A10 : Aside0 (laws_szNote.f a1_0 a1_1 a1_2 a1_3 a1_4 a1_5 t136 = some t137)) (c11b0 : decide (t137 < 0) = false) (A19 : Aside0 (laws_toVoice.f a0_0 a0_1 a0_2 = some (t138, t139, t140))) (A20 : Aside0 (laws_toNote.f a1_0 a1_1 a1_2 a1_3 a1_4 a1_5 = some (t141, t142, t143, t144, t145, t146))) (A21 : Aside0 (spec_HearNote.f k t138 t139 t140 t141 t142 t143 t144 t145 t146 = some (t147, t148, t149, t150, t151, t152, t153, t154, t155, t156))) (A22 : Aside0 (laws_toVoice.f a0_0 a0_1 a0_2 = some (t159, t160, t161))) (A23 : Aside0 (laws_toNote.f a1_0 a1_1 a1_2 a1_3 a1_4 a1_5 = some (t162, t163, t164, t165, t166, t167))) (A24 : Aside0 (impl_HearNote.f k t159 t160 t161 t162 t163 t164 t165 t166 t167 = some (t168, t169, t170, t171, t172, t173, t174, t175, t176, t177))) (A25 : Aside0 (laws_eqVoice.f t168 t169 t170 t147 t148 t149 = some true)) (A27 : Aside0 (laws_eqNote.f t171 t172 t173 t174 t175 t176 t150 t151 t152 t153 t154 t155 = some true)) (c29b0 : (t177 != t156) = false) (c29b1 : decide (t177 = t156) = true) (c29b2 : (t177 == t156) = true) :
    Calls Try.prog 12 #[.agg #[.int .i64 a0_0, .int .i64 a0_1, .string a0_2], .agg #[.int .i64 a1_0, .int .i64 a1_1, .int .i64 a1_2, .int .i64 a1_3, .int .i64 a1_4, .string a1_5]] w fun e w' => e = .returned (.bool true) ∧ Below w.heap.size w w' := by
  have hu63 := Try.underlying63
  have hu64 := Try.underlying64
  have hu67 := Try.underlying67
  have hu61 := Try.underlying61
  have HB := Aside0.mk (Below.refl w.heap.size w)
  go_enter Try.func12, Try.ntmps12
  try go_wp2_with (first|((with_reducible refine gate_dst (N := 2) rfl ?_); refine box_event ?hg (N := 2) ?hd (cs := #[.int .i64 a0_0, .int .i64 a0_1, .string a0_2]) (t := 63) ?hr ?_; (case hd => rfl); (case hg => rfl); (case hr => first|(go_simp; done)|(go_simp; rfl)); intro gb134 hg w90 hbox hb; have n0_ := Aside0.mk (zN (by repeat (first|(with_reducible first|exact HB.out|apply zI|apply zG|apply zH)|exact HB.out)) hb); have n1_ := Aside0.mk (hbox); have n2_ := Aside0.mk ((by rw [hg]; exact (below_size (by repeat (first|(with_reducible first|exact HB.out|apply zI|apply zG|apply zH)|exact HB.out))) : w.heap.size ≤ gb134)); have n3_ := Aside0.mk ((by rw [hg]; exact (below_size (by repeat (first|(with_reducible first|exact HB.out|apply zI|apply zG|apply zH)|exact HB.out))) : w.heap.size ≤ gb134)); clear HB; have HB := n0_; have BK134 := n1_; have GW134 := n2_; have GE134 := n3_; clear n0_ n1_ n2_ n3_; clear hb hbox hg)|((with_reducible refine gate_dst (N := 3) rfl ?_); refine box_event ?hg (N := 3) ?hd (cs := #[.int .i64 a1_0, .int .i64 a1_1, .int .i64 a1_2, .int .i64 a1_3, .int .i64 a1_4, .string a1_5]) (t := 64) ?hr ?_; (case hd => rfl); (case hg => rfl); (case hr => first|(go_simp; done)|(go_simp; rfl)); intro gb135 hg w91 hbox hb; have n0_ := Aside0.mk (zK (g := gb134) (o := .cells #[.int .i64 a0_0, .int .i64 a0_1, .string a0_2] 63 (0, 0)) (by (with_reducible repeat (first|refine zA ?_ _|refine zC ?_|refine zB ?_ _)); exact BK134.out) hb); have n1_ := Aside0.mk (zN (by repeat (first|(with_reducible first|exact HB.out|apply zI|apply zG|apply zH|refine zJ ?_ GE134.out)|exact HB.out)) hb); have n2_ := Aside0.mk (hbox); have n3_ := Aside0.mk ((by rw [hg]; exact (below_size (by repeat (first|(with_reducible first|exact HB.out|apply zI|apply zG|apply zH|refine zJ ?_ GE134.out)|exact HB.out))) : w.heap.size ≤ gb135)); have n4_ := Aside0.mk ((by rw [hg]; exact (below_size (by repeat (first|(with_reducible first|exact HB.out|apply zI|apply zG|apply zH|refine zJ ?_ GE134.out)|exact HB.out))) : w.heap.size ≤ gb135)); have n5_ := Aside0.mk ((by rw [hg]; exact Nat.ne_of_lt (blk_lt (g := gb134) (o := .cells #[.int .i64 a0_0, .int .i64 a0_1, .string a0_2] 63 (0, 0)) (by (with_reducible repeat (first|refine zA ?_ _|refine zC ?_|refine zB ?_ _)); exact BK134.out)) : gb134 ≠ gb135)); have n6_ := Aside0.mk ((by rw [hg]; exact Nat.ne_of_gt (blk_lt (g := gb134) (o := .cells #[.int .i64 a0_0, .int .i64 a0_1, .string a0_2] 63 (0, 0)) (by (with_reducible repeat (first|refine zA ?_ _|refine zC ?_|refine zB ?_ _)); exact BK134.out)) : gb135 ≠ gb134)); clear BK134; clear HB; have BK134 := n0_; have HB := n1_; have BK135 := n2_; have GW135 := n3_; have GE135 := n4_; have NB134_135 := n5_; have NB135_134 := n6_; clear n0_ n1_ n2_ n3_ n4_ n5_ n6_; clear hb hbox hg; have hnb92 := NB134_135.out; have hnc92 := NB135_134.out; have hcz93_0 : w91.cell? ⟨gb134, 0, none⟩ = some (.int .i64 a0_0) := (zO BK134.out 0).trans rfl; have hcz93_1 : w91.cell? ⟨gb134, 1, none⟩ = some (.int .i64 a0_1) := (zO BK134.out 1).trans rfl; have hcz93_2 : w91.cell? ⟨gb134, 2, none⟩ = some (.string a0_2) := (zO BK134.out 2).trans rfl; have hfz93_0 := zP BK134.out 0; have hfz93_1 := zP BK134.out 1; have hfz93_2 := zP BK134.out 2)|((with_reducible refine gate_callee (f := 44) rfl ?_); refine goesL_ (some 14) rfl rfl Try.func44 (by kernel_rfl) rfl #[.agg #[.int .i64 a0_0, .int .i64 a0_1, .string a0_2], .int .i64 1048576] rfl (by (try simp only [List.map_toArray, List.map_cons, List.map_nil]); first|done|rfl|(simp only [List.length_drop, List.length_take]; rfl)) ?_; (with_reducible refine (laws_szVoice.calls a0_0 a0_1 a0_2 1048576 t136 _ A3.out).mono ?_); rintro e w94 ⟨rfl, hb⟩; refine ⟨_, rfl, ?_⟩; have n0_ := Aside0.mk (zK (g := gb134) (o := .cells #[.int .i64 a0_0, .int .i64 a0_1, .string a0_2] 63 (0, 0)) (by (with_reducible repeat (first|refine zA ?_ _|refine zC ?_|refine zB ?_ _)); exact BK134.out) hb); have n1_ := Aside0.mk (zK (g := gb135) (o := .cells #[.int .i64 a1_0, .int .i64 a1_1, .int .i64 a1_2, .int .i64 a1_3, .int .i64 a1_4, .string a1_5] 64 (0, 0)) (by (with_reducible repeat (first|refine zA ?_ _|refine zC ?_|refine zB ?_ _)); exact BK135.out) hb); have n2_ := Aside0.mk (zN (by repeat (first|(with_reducible first|exact HB.out|apply zI|apply zG|apply zH|refine zJ ?_ GE134.out|refine zJ ?_ GE135.out)|exact HB.out)) hb); clear BK134; clear BK135; clear HB; have BK134 := n0_; have BK135 := n1_; have HB := n2_; clear n0_ n1_ n2_; (try clear hb); (try clear hb2); (try clear hk); (try clear hi); have hcz95_0 : w94.cell? ⟨gb135, 0, none⟩ = some (.int .i64 a1_0) := (zO BK135.out 0).trans rfl; have hcz95_1 : w94.cell? ⟨gb135, 1, none⟩ = some (.int .i64 a1_1) := (zO BK135.out 1).trans rfl; have hcz95_2 : w94.cell? ⟨gb135, 2, none⟩ = some (.int .i64 a1_2) := (zO BK135.out 2).trans rfl; have hcz95_3 : w94.cell? ⟨gb135, 3, none⟩ = some (.int .i64 a1_3) := (zO BK135.out 3).trans rfl; have hcz95_4 : w94.cell? ⟨gb135, 4, none⟩ = some (.int .i64 a1_4) := (zO BK135.out 4).trans rfl; have hcz95_5 : w94.cell? ⟨gb135, 5, none⟩ = some (.string a1_5) := (zO BK135.out 5).trans rfl; have hfz95_0 := zP BK135.out 0; have hfz95_1 := zP BK135.out 1; have hfz95_2 := zP BK135.out 2; have hfz95_3 := zP BK135.out 3; have hfz95_4 := zP BK135.out 4; have hfz95_5 := zP BK135.out 5)|((with_reducible refine gate_callee (f := 45) rfl ?_); refine goesL_ (some 19) rfl rfl Try.func45 (by kernel_rfl) rfl #[.agg #[.int .i64 a1_0, .int .i64 a1_1, .int .i64 a1_2, .int .i64 a1_3, .int .i64 a1_4, .string a1_5], .int .i64 t136] rfl (by (try simp only [List.map_toArray, List.map_cons, List.map_nil]); first|done|rfl|(simp only [List.length_drop, List.length_take]; rfl)) ?_; (with_reducible refine (laws_szNote.calls a1_0 a1_1 a1_2 a1_3 a1_4 a1_5 t136 t137 _ A10.out).mono ?_); rintro e w96 ⟨rfl, hb⟩; refine ⟨_, rfl, ?_⟩; have n0_ := Aside0.mk (zK (g := gb134) (o := .cells #[.int .i64 a0_0, .int .i64 a0_1, .string a0_2] 63 (0, 0)) (by (with_reducible repeat (first|refine zA ?_ _|refine zC ?_|refine zB ?_ _)); exact BK134.out) hb); have n1_ := Aside0.mk (zK (g := gb135) (o := .cells #[.int .i64 a1_0, .int .i64 a1_1, .int .i64 a1_2, .int .i64 a1_3, .int .i64 a1_4, .string a1_5] 64 (0, 0)) (by (with_reducible repeat (first|refine zA ?_ _|refine zC ?_|refine zB ?_ _)); exact BK135.out) hb); have n2_ := Aside0.mk (zN (by repeat (first|(with_reducible first|exact HB.out|apply zI|apply zG|apply zH|refine zJ ?_ GE134.out|refine zJ ?_ GE135.out)|exact HB.out)) hb); clear BK134; clear BK135; clear HB; have BK134 := n0_; have BK135 := n1_; have HB := n2_; clear n0_ n1_ n2_; (try clear hb); (try clear hb2); (try clear hk); (try clear hi)))
  have n0_ := Aside0.mk (zC BK134.out)
  have n1_ := Aside0.mk (zC BK135.out)
  have n2_ := Aside0.mk (zH HB.out)
  clear BK134
  clear BK135
  clear HB
  have BK134 := n0_
  have BK135 := n1_
  have HB := n2_
  clear n0_ n1_ n2_
  refine start_ (n := 14) (S := fun w' => w'.cell? ⟨gb134, 0, none⟩ = some (.int .i64 a0_0) ∧ w'.cell? ⟨gb134, 1, none⟩ = some (.int .i64 a0_1) ∧ w'.cell? ⟨gb134, 2, none⟩ = some (.string a0_2) ∧ w'.cell? ⟨gb135, 0, none⟩ = some (.int .i64 a1_0) ∧ w'.cell? ⟨gb135, 1, none⟩ = some (.int .i64 a1_1) ∧ w'.cell? ⟨gb135, 2, none⟩ = some (.int .i64 a1_2) ∧ w'.cell? ⟨gb135, 3, none⟩ = some (.int .i64 a1_3) ∧ w'.cell? ⟨gb135, 4, none⟩ = some (.int .i64 a1_4) ∧ w'.cell? ⟨gb135, 5, none⟩ = some (.string a1_5)) (ds := []) #[false, false, false, false, false, false, false, false, false, false, false, false, false, false] (by kernel_rfl) rfl rfl ⟨(zO BK134.out 0).trans rfl, (zO BK134.out 1).trans rfl, (zO BK134.out 2).trans rfl, (zO BK135.out 0).trans rfl, (zO BK135.out 1).trans rfl, (zO BK135.out 2).trans rfl, (zO BK135.out 3).trans rfl, (zO BK135.out 4).trans rfl, (zO BK135.out 5).trans rfl⟩ (fun hHeld => ?_); refine with_tabW laws_FnExactHearNote.tab8 laws_FnExactHearNote.bits8 (fun HT_ HW_ => ?_)
  generalize w96.drew = w97 at BK134 BK135 HB hHeld ⊢
  refine take_ (i := 0) (N := some 23) (v := ?_) (a' := ?_) #[true, false, false, false, false, false, false, false, false, false, false, false, false, false] rfl rfl (take_ofW HT_.out HW_.out (by kernel_rfl)) (fun _ _ _ h => h) (Or.inl ⟨by rfl, ?_⟩) hHeld ?_ ?_
  rotate_left
  ·rintro w' ⟨s0, s1, s2, s3, s4, s5, s6, s7, s8⟩
   go_simp
   with_reducible rfl
  rotate_left
  ·simp only [Act.put, List.setIfInBounds_toArray, List.set_cons_zero, List.set_cons_succ, i64_w, i32_w]
   rfl
  refine take_ (i := 2) (N := some 25) (v := ?_) (a' := ?_) #[true, false, true, false, false, false, false, false, false, false, false, false, false, false] rfl rfl (take_ofW HT_.out HW_.out (by kernel_rfl)) (fun _ _ _ h => h) (Or.inl ⟨by rfl, ?_⟩) hHeld ?_ ?_
  rotate_left
  ·rintro w' ⟨s0, s1, s2, s3, s4, s5, s6, s7, s8⟩
   go_simp
   with_reducible rfl
  rotate_left
  ·simp only [Act.put, List.setIfInBounds_toArray, List.set_cons_zero, List.set_cons_succ, i64_w, i32_w]
   rfl
  refine join_ (σ := Nat × Nat) 3 #[true, true, true, true, true, true, true, true, true, true, true, false, false, false] (fun s_ => [(24, .agg #[.int .i64 t138, .int .i64 t139, .string t140]), (26, .agg #[.int .i64 t141, .int .i64 t142, .int .i64 t143, .int .i64 t144, .int .i64 t145, .string t146]), (27, .tuple #[.agg #[.int .i64 t147, .int .i64 t148, .string t149], .agg #[.int .i64 t150, .int .i64 t151, .int .i64 t152, .int .i64 t153, .int .i64 t154, .string t155], .bool t156]), (6, .pointer (some ⟨s_.1, 0, none⟩)), (7, .pointer (some ⟨s_.2, 0, none⟩)), (22, .tuple #[.agg #[.int .i64 t147, .int .i64 t148, .string t149], .agg #[.int .i64 t150, .int .i64 t151, .int .i64 t152, .int .i64 t153, .int .i64 t154, .string t155], .bool t156]), (28, .agg #[.int .i64 t147, .int .i64 t148, .string t149]), (29, .agg #[.int .i64 t150, .int .i64 t151, .int .i64 t152, .int .i64 t153, .int .i64 t154, .string t155]), (30, .bool t156)]) (fun s_ w' => (w'.cell? ⟨gb134, 0, none⟩ = some (.int .i64 a0_0) ∧ w'.cell? ⟨gb134, 1, none⟩ = some (.int .i64 a0_1) ∧ w'.cell? ⟨gb134, 2, none⟩ = some (.string a0_2) ∧ w'.cell? ⟨gb135, 0, none⟩ = some (.int .i64 a1_0) ∧ w'.cell? ⟨gb135, 1, none⟩ = some (.int .i64 a1_1) ∧ w'.cell? ⟨gb135, 2, none⟩ = some (.int .i64 a1_2) ∧ w'.cell? ⟨gb135, 3, none⟩ = some (.int .i64 a1_3) ∧ w'.cell? ⟨gb135, 4, none⟩ = some (.int .i64 a1_4) ∧ w'.cell? ⟨gb135, 5, none⟩ = some (.string a1_5)) ∧ (w'.heap[gb134]? = some (.cells #[.int .i64 a0_0, .int .i64 a0_1, .string a0_2] 63 (0, 0))) ∧ (w'.heap[gb135]? = some (.cells #[.int .i64 a1_0, .int .i64 a1_1, .int .i64 a1_2, .int .i64 a1_3, .int .i64 a1_4, .string a1_5] 64 (0, 0))) ∧ (w'.heap[s_.1]? = some (.cells #[.int .i64 0, .int .i64 0, .string (⟨#[]⟩ : ByteArray)] 67 (0, 0))) ∧ (w'.heap[s_.2]? = some (.cells #[.int .i64 0, .int .i64 0, .int .i64 0, .int .i64 0, .int .i64 0, .string (⟨#[]⟩ : ByteArray)] 61 (0, 0))) ∧ (w.heap.size ≤ s_.1) ∧ (w.heap.size ≤ s_.1) ∧ (gb134 ≠ s_.1) ∧ (s_.1 ≠ gb134) ∧ (gb135 ≠ s_.1) ∧ (s_.1 ≠ gb135) ∧ (s_.2 ≠ s_.1) ∧ (s_.1 ≠ s_.2) ∧ (w.heap.size ≤ s_.2) ∧ (w.heap.size ≤ s_.2) ∧ (gb134 ≠ s_.2) ∧ (s_.2 ≠ gb134) ∧ (gb135 ≠ s_.2) ∧ (s_.2 ≠ gb135) ∧ (Below w.heap.size w w')) ?_ ?_
  rotate_left
  ·intro hJ1_3_4_9_10
   refine join_ (σ := Nat) 4 #[true, true, true, true, true, true, true, true, true, true, false, false, false, false] (fun s_ => [(24, .agg #[.int .i64 t138, .int .i64 t139, .string t140]), (26, .agg #[.int .i64 t141, .int .i64 t142, .int .i64 t143, .int .i64 t144, .int .i64 t145, .string t146]), (27, .tuple #[.agg #[.int .i64 t147, .int .i64 t148, .string t149], .agg #[.int .i64 t150, .int .i64 t151, .int .i64 t152, .int .i64 t153, .int .i64 t154, .string t155], .bool t156]), (6, .pointer (some ⟨s_, 0, none⟩)), (22, .tuple #[.agg #[.int .i64 t147, .int .i64 t148, .string t149], .agg #[.int .i64 t150, .int .i64 t151, .int .i64 t152, .int .i64 t153, .int .i64 t154, .string t155], .bool t156]), (28, .agg #[.int .i64 t147, .int .i64 t148, .string t149]), (29, .agg #[.int .i64 t150, .int .i64 t151, .int .i64 t152, .int .i64 t153, .int .i64 t154, .string t155]), (30, .bool t156)]) (fun s_ w' => (w'.cell? ⟨gb134, 0, none⟩ = some (.int .i64 a0_0) ∧ w'.cell? ⟨gb134, 1, none⟩ = some (.int .i64 a0_1) ∧ w'.cell? ⟨gb134, 2, none⟩ = some (.string a0_2) ∧ w'.cell? ⟨gb135, 0, none⟩ = some (.int .i64 a1_0) ∧ w'.cell? ⟨gb135, 1, none⟩ = some (.int .i64 a1_1) ∧ w'.cell? ⟨gb135, 2, none⟩ = some (.int .i64 a1_2) ∧ w'.cell? ⟨gb135, 3, none⟩ = some (.int .i64 a1_3) ∧ w'.cell? ⟨gb135, 4, none⟩ = some (.int .i64 a1_4) ∧ w'.cell? ⟨gb135, 5, none⟩ = some (.string a1_5)) ∧ (w'.heap[gb134]? = some (.cells #[.int .i64 a0_0, .int .i64 a0_1, .string a0_2] 63 (0, 0))) ∧ (w'.heap[gb135]? = some (.cells #[.int .i64 a1_0, .int .i64 a1_1, .int .i64 a1_2, .int .i64 a1_3, .int .i64 a1_4, .string a1_5] 64 (0, 0))) ∧ (w'.heap[s_]? = some (.cells #[.int .i64 0, .int .i64 0, .string (⟨#[]⟩ : ByteArray)] 67 (0, 0))) ∧ (w.heap.size ≤ s_) ∧ (w.heap.size ≤ s_) ∧ (gb134 ≠ s_) ∧ (s_ ≠ gb134) ∧ (gb135 ≠ s_) ∧ (s_ ≠ gb135) ∧ (Below w.heap.size w w')) ?_ ?_
   rotate_left
   ·intro hJ1_3_4_9
    refine join_ (σ := Nat) 4 #[true, true, true, true, true, true, true, true, true, false, true, false, false, false] (fun s_ => [(24, .agg #[.int .i64 t138, .int .i64 t139, .string t140]), (26, .agg #[.int .i64 t141, .int .i64 t142, .int .i64 t143, .int .i64 t144, .int .i64 t145, .string t146]), (27, .tuple #[.agg #[.int .i64 t147, .int .i64 t148, .string t149], .agg #[.int .i64 t150, .int .i64 t151, .int .i64 t152, .int .i64 t153, .int .i64 t154, .string t155], .bool t156]), (7, .pointer (some ⟨s_, 0, none⟩)), (22, .tuple #[.agg #[.int .i64 t147, .int .i64 t148, .string t149], .agg #[.int .i64 t150, .int .i64 t151, .int .i64 t152, .int .i64 t153, .int .i64 t154, .string t155], .bool t156]), (28, .agg #[.int .i64 t147, .int .i64 t148, .string t149]), (29, .agg #[.int .i64 t150, .int .i64 t151, .int .i64 t152, .int .i64 t153, .int .i64 t154, .string t155]), (30, .bool t156)]) (fun s_ w' => (w'.cell? ⟨gb134, 0, none⟩ = some (.int .i64 a0_0) ∧ w'.cell? ⟨gb134, 1, none⟩ = some (.int .i64 a0_1) ∧ w'.cell? ⟨gb134, 2, none⟩ = some (.string a0_2) ∧ w'.cell? ⟨gb135, 0, none⟩ = some (.int .i64 a1_0) ∧ w'.cell? ⟨gb135, 1, none⟩ = some (.int .i64 a1_1) ∧ w'.cell? ⟨gb135, 2, none⟩ = some (.int .i64 a1_2) ∧ w'.cell? ⟨gb135, 3, none⟩ = some (.int .i64 a1_3) ∧ w'.cell? ⟨gb135, 4, none⟩ = some (.int .i64 a1_4) ∧ w'.cell? ⟨gb135, 5, none⟩ = some (.string a1_5)) ∧ (w'.heap[gb134]? = some (.cells #[.int .i64 a0_0, .int .i64 a0_1, .string a0_2] 63 (0, 0))) ∧ (w'.heap[gb135]? = some (.cells #[.int .i64 a1_0, .int .i64 a1_1, .int .i64 a1_2, .int .i64 a1_3, .int .i64 a1_4, .string a1_5] 64 (0, 0))) ∧ (w'.heap[s_]? = some (.cells #[.int .i64 0, .int .i64 0, .int .i64 0, .int .i64 0, .int .i64 0, .string (⟨#[]⟩ : ByteArray)] 61 (0, 0))) ∧ (w.heap.size ≤ s_) ∧ (w.heap.size ≤ s_) ∧ (gb134 ≠ s_) ∧ (s_ ≠ gb134) ∧ (gb135 ≠ s_) ∧ (s_ ≠ gb135) ∧ (Below w.heap.size w w')) ?_ ?_
    rotate_left
    ·intro hJ1_3_4_10
     refine join_ (σ := Nat × Nat) 8 #[true, true, true, true, false, false, false, false, false, true, true, false, false, false] (fun s_ => [(24, .agg #[.int .i64 t138, .int .i64 t139, .string t140]), (26, .agg #[.int .i64 t141, .int .i64 t142, .int .i64 t143, .int .i64 t144, .int .i64 t145, .string t146]), (6, .pointer (some ⟨s_.1, 0, none⟩)), (7, .pointer (some ⟨s_.2, 0, none⟩))]) (fun s_ w' => (w'.cell? ⟨gb134, 0, none⟩ = some (.int .i64 a0_0) ∧ w'.cell? ⟨gb134, 1, none⟩ = some (.int .i64 a0_1) ∧ w'.cell? ⟨gb134, 2, none⟩ = some (.string a0_2) ∧ w'.cell? ⟨gb135, 0, none⟩ = some (.int .i64 a1_0) ∧ w'.cell? ⟨gb135, 1, none⟩ = some (.int .i64 a1_1) ∧ w'.cell? ⟨gb135, 2, none⟩ = some (.int .i64 a1_2) ∧ w'.cell? ⟨gb135, 3, none⟩ = some (.int .i64 a1_3) ∧ w'.cell? ⟨gb135, 4, none⟩ = some (.int .i64 a1_4) ∧ w'.cell? ⟨gb135, 5, none⟩ = some (.string a1_5)) ∧ (w'.heap[gb134]? = some (.cells #[.int .i64 a0_0, .int .i64 a0_1, .string a0_2] 63 (0, 0))) ∧ (w'.heap[gb135]? = some (.cells #[.int .i64 a1_0, .int .i64 a1_1, .int .i64 a1_2, .int .i64 a1_3, .int .i64 a1_4, .string a1_5] 64 (0, 0))) ∧ (w'.heap[s_.1]? = some (.cells #[.int .i64 0, .int .i64 0, .string (⟨#[]⟩ : ByteArray)] 67 (0, 0))) ∧ (w'.heap[s_.2]? = some (.cells #[.int .i64 0, .int .i64 0, .int .i64 0, .int .i64 0, .int .i64 0, .string (⟨#[]⟩ : ByteArray)] 61 (0, 0))) ∧ (w.heap.size ≤ s_.1) ∧ (w.heap.size ≤ s_.1) ∧ (gb134 ≠ s_.1) ∧ (s_.1 ≠ gb134) ∧ (gb135 ≠ s_.1) ∧ (s_.1 ≠ gb135) ∧ (s_.2 ≠ s_.1) ∧ (s_.1 ≠ s_.2) ∧ (w.heap.size ≤ s_.2) ∧ (w.heap.size ≤ s_.2) ∧ (gb134 ≠ s_.2) ∧ (s_.2 ≠ gb134) ∧ (gb135 ≠ s_.2) ∧ (s_.2 ≠ gb135) ∧ (Below w.heap.size w w')) ?_ ?_
     rotate_left
     ·intro hJ1_3_9_10
      refine join_ (σ := Unit) 5 #[true, true, true, true, true, true, true, true, true, false, false, false, false, false] (fun s_ => [(24, .agg #[.int .i64 t138, .int .i64 t139, .string t140]), (26, .agg #[.int .i64 t141, .int .i64 t142, .int .i64 t143, .int .i64 t144, .int .i64 t145, .string t146]), (27, .tuple #[.agg #[.int .i64 t147, .int .i64 t148, .string t149], .agg #[.int .i64 t150, .int .i64 t151, .int .i64 t152, .int .i64 t153, .int .i64 t154, .string t155], .bool t156]), (22, .tuple #[.agg #[.int .i64 t147, .int .i64 t148, .string t149], .agg #[.int .i64 t150, .int .i64 t151, .int .i64 t152, .int .i64 t153, .int .i64 t154, .string t155], .bool t156]), (28, .agg #[.int .i64 t147, .int .i64 t148, .string t149]), (29, .agg #[.int .i64 t150, .int .i64 t151, .int .i64 t152, .int .i64 t153, .int .i64 t154, .string t155]), (30, .bool t156)]) (fun s_ w' => (w'.cell? ⟨gb134, 0, none⟩ = some (.int .i64 a0_0) ∧ w'.cell? ⟨gb134, 1, none⟩ = some (.int .i64 a0_1) ∧ w'.cell? ⟨gb134, 2, none⟩ = some (.string a0_2) ∧ w'.cell? ⟨gb135, 0, none⟩ = some (.int .i64 a1_0) ∧ w'.cell? ⟨gb135, 1, none⟩ = some (.int .i64 a1_1) ∧ w'.cell? ⟨gb135, 2, none⟩ = some (.int .i64 a1_2) ∧ w'.cell? ⟨gb135, 3, none⟩ = some (.int .i64 a1_3) ∧ w'.cell? ⟨gb135, 4, none⟩ = some (.int .i64 a1_4) ∧ w'.cell? ⟨gb135, 5, none⟩ = some (.string a1_5)) ∧ (w'.heap[gb134]? = some (.cells #[.int .i64 a0_0, .int .i64 a0_1, .string a0_2] 63 (0, 0))) ∧ (w'.heap[gb135]? = some (.cells #[.int .i64 a1_0, .int .i64 a1_1, .int .i64 a1_2, .int .i64 a1_3, .int .i64 a1_4, .string a1_5] 64 (0, 0))) ∧ (Below w.heap.size w w')) ?_ ?_
      rotate_left
      ·intro hJ1_3_4
       refine join_ (σ := Nat) 9 #[true, true, true, true, false, false, false, false, false, true, false, false, false, false] (fun s_ => [(24, .agg #[.int .i64 t138, .int .i64 t139, .string t140]), (26, .agg #[.int .i64 t141, .int .i64 t142, .int .i64 t143, .int .i64 t144, .int .i64 t145, .string t146]), (6, .pointer (some ⟨s_, 0, none⟩))]) (fun s_ w' => (w'.cell? ⟨gb134, 0, none⟩ = some (.int .i64 a0_0) ∧ w'.cell? ⟨gb134, 1, none⟩ = some (.int .i64 a0_1) ∧ w'.cell? ⟨gb134, 2, none⟩ = some (.string a0_2) ∧ w'.cell? ⟨gb135, 0, none⟩ = some (.int .i64 a1_0) ∧ w'.cell? ⟨gb135, 1, none⟩ = some (.int .i64 a1_1) ∧ w'.cell? ⟨gb135, 2, none⟩ = some (.int .i64 a1_2) ∧ w'.cell? ⟨gb135, 3, none⟩ = some (.int .i64 a1_3) ∧ w'.cell? ⟨gb135, 4, none⟩ = some (.int .i64 a1_4) ∧ w'.cell? ⟨gb135, 5, none⟩ = some (.string a1_5)) ∧ (w'.heap[gb134]? = some (.cells #[.int .i64 a0_0, .int .i64 a0_1, .string a0_2] 63 (0, 0))) ∧ (w'.heap[gb135]? = some (.cells #[.int .i64 a1_0, .int .i64 a1_1, .int .i64 a1_2, .int .i64 a1_3, .int .i64 a1_4, .string a1_5] 64 (0, 0))) ∧ (w'.heap[s_]? = some (.cells #[.int .i64 0, .int .i64 0, .string (⟨#[]⟩ : ByteArray)] 67 (0, 0))) ∧ (w.heap.size ≤ s_) ∧ (w.heap.size ≤ s_) ∧ (gb134 ≠ s_) ∧ (s_ ≠ gb134) ∧ (gb135 ≠ s_) ∧ (s_ ≠ gb135) ∧ (Below w.heap.size w w')) ?_ ?_
       rotate_left
       ·intro hJ1_3_9
        refine join_ (σ := Nat) 9 #[true, true, true, true, false, false, false, false, false, false, true, false, false, false] (fun s_ => [(24, .agg #[.int .i64 t138, .int .i64 t139, .string t140]), (26, .agg #[.int .i64 t141, .int .i64 t142, .int .i64 t143, .int .i64 t144, .int .i64 t145, .string t146]), (7, .pointer (some ⟨s_, 0, none⟩))]) (fun s_ w' => (w'.cell? ⟨gb134, 0, none⟩ = some (.int .i64 a0_0) ∧ w'.cell? ⟨gb134, 1, none⟩ = some (.int .i64 a0_1) ∧ w'.cell? ⟨gb134, 2, none⟩ = some (.string a0_2) ∧ w'.cell? ⟨gb135, 0, none⟩ = some (.int .i64 a1_0) ∧ w'.cell? ⟨gb135, 1, none⟩ = some (.int .i64 a1_1) ∧ w'.cell? ⟨gb135, 2, none⟩ = some (.int .i64 a1_2) ∧ w'.cell? ⟨gb135, 3, none⟩ = some (.int .i64 a1_3) ∧ w'.cell? ⟨gb135, 4, none⟩ = some (.int .i64 a1_4) ∧ w'.cell? ⟨gb135, 5, none⟩ = some (.string a1_5)) ∧ (w'.heap[gb134]? = some (.cells #[.int .i64 a0_0, .int .i64 a0_1, .string a0_2] 63 (0, 0))) ∧ (w'.heap[gb135]? = some (.cells #[.int .i64 a1_0, .int .i64 a1_1, .int .i64 a1_2, .int .i64 a1_3, .int .i64 a1_4, .string a1_5] 64 (0, 0))) ∧ (w'.heap[s_]? = some (.cells #[.int .i64 0, .int .i64 0, .int .i64 0, .int .i64 0, .int .i64 0, .string (⟨#[]⟩ : ByteArray)] 61 (0, 0))) ∧ (w.heap.size ≤ s_) ∧ (w.heap.size ≤ s_) ∧ (gb134 ≠ s_) ∧ (s_ ≠ gb134) ∧ (gb135 ≠ s_) ∧ (s_ ≠ gb135) ∧ (Below w.heap.size w w')) ?_ ?_
        rotate_left
        ·intro hJ1_3_10
         refine join_ (σ := Nat × Nat) 9 #[true, true, true, false, false, false, false, false, false, true, true, false, false, false] (fun s_ => [(24, .agg #[.int .i64 t138, .int .i64 t139, .string t140]), (6, .pointer (some ⟨s_.1, 0, none⟩)), (7, .pointer (some ⟨s_.2, 0, none⟩))]) (fun s_ w' => (w'.cell? ⟨gb134, 0, none⟩ = some (.int .i64 a0_0) ∧ w'.cell? ⟨gb134, 1, none⟩ = some (.int .i64 a0_1) ∧ w'.cell? ⟨gb134, 2, none⟩ = some (.string a0_2) ∧ w'.cell? ⟨gb135, 0, none⟩ = some (.int .i64 a1_0) ∧ w'.cell? ⟨gb135, 1, none⟩ = some (.int .i64 a1_1) ∧ w'.cell? ⟨gb135, 2, none⟩ = some (.int .i64 a1_2) ∧ w'.cell? ⟨gb135, 3, none⟩ = some (.int .i64 a1_3) ∧ w'.cell? ⟨gb135, 4, none⟩ = some (.int .i64 a1_4) ∧ w'.cell? ⟨gb135, 5, none⟩ = some (.string a1_5)) ∧ (w'.heap[gb134]? = some (.cells #[.int .i64 a0_0, .int .i64 a0_1, .string a0_2] 63 (0, 0))) ∧ (w'.heap[gb135]? = some (.cells #[.int .i64 a1_0, .int .i64 a1_1, .int .i64 a1_2, .int .i64 a1_3, .int .i64 a1_4, .string a1_5] 64 (0, 0))) ∧ (w'.heap[s_.1]? = some (.cells #[.int .i64 0, .int .i64 0, .string (⟨#[]⟩ : ByteArray)] 67 (0, 0))) ∧ (w'.heap[s_.2]? = some (.cells #[.int .i64 0, .int .i64 0, .int .i64 0, .int .i64 0, .int .i64 0, .string (⟨#[]⟩ : ByteArray)] 61 (0, 0))) ∧ (w.heap.size ≤ s_.1) ∧ (w.heap.size ≤ s_.1) ∧ (gb134 ≠ s_.1) ∧ (s_.1 ≠ gb134) ∧ (gb135 ≠ s_.1) ∧ (s_.1 ≠ gb135) ∧ (s_.2 ≠ s_.1) ∧ (s_.1 ≠ s_.2) ∧ (w.heap.size ≤ s_.2) ∧ (w.heap.size ≤ s_.2) ∧ (gb134 ≠ s_.2) ∧ (s_.2 ≠ gb134) ∧ (gb135 ≠ s_.2) ∧ (s_.2 ≠ gb135) ∧ (Below w.heap.size w w')) ?_ ?_
         rotate_left
         ·intro hJ1_9_10
          refine join_ (σ := Unit) 10 #[true, true, true, true, false, false, false, false, false, false, false, false, false, false] (fun s_ => [(24, .agg #[.int .i64 t138, .int .i64 t139, .string t140]), (26, .agg #[.int .i64 t141, .int .i64 t142, .int .i64 t143, .int .i64 t144, .int .i64 t145, .string t146])]) (fun s_ w' => (w'.cell? ⟨gb134, 0, none⟩ = some (.int .i64 a0_0) ∧ w'.cell? ⟨gb134, 1, none⟩ = some (.int .i64 a0_1) ∧ w'.cell? ⟨gb134, 2, none⟩ = some (.string a0_2) ∧ w'.cell? ⟨gb135, 0, none⟩ = some (.int .i64 a1_0) ∧ w'.cell? ⟨gb135, 1, none⟩ = some (.int .i64 a1_1) ∧ w'.cell? ⟨gb135, 2, none⟩ = some (.int .i64 a1_2) ∧ w'.cell? ⟨gb135, 3, none⟩ = some (.int .i64 a1_3) ∧ w'.cell? ⟨gb135, 4, none⟩ = some (.int .i64 a1_4) ∧ w'.cell? ⟨gb135, 5, none⟩ = some (.string a1_5)) ∧ (w'.heap[gb134]? = some (.cells #[.int .i64 a0_0, .int .i64 a0_1, .string a0_2] 63 (0, 0))) ∧ (w'.heap[gb135]? = some (.cells #[.int .i64 a1_0, .int .i64 a1_1, .int .i64 a1_2, .int .i64 a1_3, .int .i64 a1_4, .string a1_5] 64 (0, 0))) ∧ (Below w.heap.size w w')) ?_ ?_
          rotate_left
          ·intro hJ1_3
           refine join_ (σ := Nat) 10 #[true, true, true, false, false, false, false, false, false, true, false, false, false, false] (fun s_ => [(24, .agg #[.int .i64 t138, .int .i64 t139, .string t140]), (6, .pointer (some ⟨s_, 0, none⟩))]) (fun s_ w' => (w'.cell? ⟨gb134, 0, none⟩ = some (.int .i64 a0_0) ∧ w'.cell? ⟨gb134, 1, none⟩ = some (.int .i64 a0_1) ∧ w'.cell? ⟨gb134, 2, none⟩ = some (.string a0_2) ∧ w'.cell? ⟨gb135, 0, none⟩ = some (.int .i64 a1_0) ∧ w'.cell? ⟨gb135, 1, none⟩ = some (.int .i64 a1_1) ∧ w'.cell? ⟨gb135, 2, none⟩ = some (.int .i64 a1_2) ∧ w'.cell? ⟨gb135, 3, none⟩ = some (.int .i64 a1_3) ∧ w'.cell? ⟨gb135, 4, none⟩ = some (.int .i64 a1_4) ∧ w'.cell? ⟨gb135, 5, none⟩ = some (.string a1_5)) ∧ (w'.heap[gb134]? = some (.cells #[.int .i64 a0_0, .int .i64 a0_1, .string a0_2] 63 (0, 0))) ∧ (w'.heap[gb135]? = some (.cells #[.int .i64 a1_0, .int .i64 a1_1, .int .i64 a1_2, .int .i64 a1_3, .int .i64 a1_4, .string a1_5] 64 (0, 0))) ∧ (w'.heap[s_]? = some (.cells #[.int .i64 0, .int .i64 0, .string (⟨#[]⟩ : ByteArray)] 67 (0, 0))) ∧ (w.heap.size ≤ s_) ∧ (w.heap.size ≤ s_) ∧ (gb134 ≠ s_) ∧ (s_ ≠ gb134) ∧ (gb135 ≠ s_) ∧ (s_ ≠ gb135) ∧ (Below w.heap.size w w')) ?_ ?_
           rotate_left
           ·intro hJ1_9
            refine join_ (σ := Nat) 10 #[true, true, true, false, false, false, false, false, false, false, true, false, false, false] (fun s_ => [(24, .agg #[.int .i64 t138, .int .i64 t139, .string t140]), (7, .pointer (some ⟨s_, 0, none⟩))]) (fun s_ w' => (w'.cell? ⟨gb134, 0, none⟩ = some (.int .i64 a0_0) ∧ w'.cell? ⟨gb134, 1, none⟩ = some (.int .i64 a0_1) ∧ w'.cell? ⟨gb134, 2, none⟩ = some (.string a0_2) ∧ w'.cell? ⟨gb135, 0, none⟩ = some (.int .i64 a1_0) ∧ w'.cell? ⟨gb135, 1, none⟩ = some (.int .i64 a1_1) ∧ w'.cell? ⟨gb135, 2, none⟩ = some (.int .i64 a1_2) ∧ w'.cell? ⟨gb135, 3, none⟩ = some (.int .i64 a1_3) ∧ w'.cell? ⟨gb135, 4, none⟩ = some (.int .i64 a1_4) ∧ w'.cell? ⟨gb135, 5, none⟩ = some (.string a1_5)) ∧ (w'.heap[gb134]? = some (.cells #[.int .i64 a0_0, .int .i64 a0_1, .string a0_2] 63 (0, 0))) ∧ (w'.heap[gb135]? = some (.cells #[.int .i64 a1_0, .int .i64 a1_1, .int .i64 a1_2, .int .i64 a1_3, .int .i64 a1_4, .string a1_5] 64 (0, 0))) ∧ (w'.heap[s_]? = some (.cells #[.int .i64 0, .int .i64 0, .int .i64 0, .int .i64 0, .int .i64 0, .string (⟨#[]⟩ : ByteArray)] 61 (0, 0))) ∧ (w.heap.size ≤ s_) ∧ (w.heap.size ≤ s_) ∧ (gb134 ≠ s_) ∧ (s_ ≠ gb134) ∧ (gb135 ≠ s_) ∧ (s_ ≠ gb135) ∧ (Below w.heap.size w w')) ?_ ?_
            rotate_left
            ·intro hJ1_10
             refine join_ (σ := Nat × Nat) 10 #[true, false, true, false, false, false, false, false, false, true, true, false, false, false] (fun s_ => [(6, .pointer (some ⟨s_.1, 0, none⟩)), (7, .pointer (some ⟨s_.2, 0, none⟩))]) (fun s_ w' => (w'.cell? ⟨gb134, 0, none⟩ = some (.int .i64 a0_0) ∧ w'.cell? ⟨gb134, 1, none⟩ = some (.int .i64 a0_1) ∧ w'.cell? ⟨gb134, 2, none⟩ = some (.string a0_2) ∧ w'.cell? ⟨gb135, 0, none⟩ = some (.int .i64 a1_0) ∧ w'.cell? ⟨gb135, 1, none⟩ = some (.int .i64 a1_1) ∧ w'.cell? ⟨gb135, 2, none⟩ = some (.int .i64 a1_2) ∧ w'.cell? ⟨gb135, 3, none⟩ = some (.int .i64 a1_3) ∧ w'.cell? ⟨gb135, 4, none⟩ = some (.int .i64 a1_4) ∧ w'.cell? ⟨gb135, 5, none⟩ = some (.string a1_5)) ∧ (w'.heap[gb134]? = some (.cells #[.int .i64 a0_0, .int .i64 a0_1, .string a0_2] 63 (0, 0))) ∧ (w'.heap[gb135]? = some (.cells #[.int .i64 a1_0, .int .i64 a1_1, .int .i64 a1_2, .int .i64 a1_3, .int .i64 a1_4, .string a1_5] 64 (0, 0))) ∧ (w'.heap[s_.1]? = some (.cells #[.int .i64 0, .int .i64 0, .string (⟨#[]⟩ : ByteArray)] 67 (0, 0))) ∧ (w'.heap[s_.2]? = some (.cells #[.int .i64 0, .int .i64 0, .int .i64 0, .int .i64 0, .int .i64 0, .string (⟨#[]⟩ : ByteArray)] 61 (0, 0))) ∧ (w.heap.size ≤ s_.1) ∧ (w.heap.size ≤ s_.1) ∧ (gb134 ≠ s_.1) ∧ (s_.1 ≠ gb134) ∧ (gb135 ≠ s_.1) ∧ (s_.1 ≠ gb135) ∧ (s_.2 ≠ s_.1) ∧ (s_.1 ≠ s_.2) ∧ (w.heap.size ≤ s_.2) ∧ (w.heap.size ≤ s_.2) ∧ (gb134 ≠ s_.2) ∧ (s_.2 ≠ gb134) ∧ (gb135 ≠ s_.2) ∧ (s_.2 ≠ gb135) ∧ (Below w.heap.size w w')) ?_ ?_
             rotate_left
             ·intro hJ9_10
              refine join_ (σ := Unit) 11 #[true, true, true, false, false, false, false, false, false, false, false, false, false, false] (fun s_ => [(24, .agg #[.int .i64 t138, .int .i64 t139, .string t140])]) (fun s_ w' => (w'.cell? ⟨gb134, 0, none⟩ = some (.int .i64 a0_0) ∧ w'.cell? ⟨gb134, 1, none⟩ = some (.int .i64 a0_1) ∧ w'.cell? ⟨gb134, 2, none⟩ = some (.string a0_2) ∧ w'.cell? ⟨gb135, 0, none⟩ = some (.int .i64 a1_0) ∧ w'.cell? ⟨gb135, 1, none⟩ = some (.int .i64 a1_1) ∧ w'.cell? ⟨gb135, 2, none⟩ = some (.int .i64 a1_2) ∧ w'.cell? ⟨gb135, 3, none⟩ = some (.int .i64 a1_3) ∧ w'.cell? ⟨gb135, 4, none⟩ = some (.int .i64 a1_4) ∧ w'.cell? ⟨gb135, 5, none⟩ = some (.string a1_5)) ∧ (w'.heap[gb134]? = some (.cells #[.int .i64 a0_0, .int .i64 a0_1, .string a0_2] 63 (0, 0))) ∧ (w'.heap[gb135]? = some (.cells #[.int .i64 a1_0, .int .i64 a1_1, .int .i64 a1_2, .int .i64 a1_3, .int .i64 a1_4, .string a1_5] 64 (0, 0))) ∧ (Below w.heap.size w w')) ?_ ?_
              rotate_left
              ·intro hJ1
               refine join_ (σ := Nat) 11 #[true, false, true, false, false, false, false, false, false, true, false, false, false, false] (fun s_ => [(6, .pointer (some ⟨s_, 0, none⟩))]) (fun s_ w' => (w'.cell? ⟨gb134, 0, none⟩ = some (.int .i64 a0_0) ∧ w'.cell? ⟨gb134, 1, none⟩ = some (.int .i64 a0_1) ∧ w'.cell? ⟨gb134, 2, none⟩ = some (.string a0_2) ∧ w'.cell? ⟨gb135, 0, none⟩ = some (.int .i64 a1_0) ∧ w'.cell? ⟨gb135, 1, none⟩ = some (.int .i64 a1_1) ∧ w'.cell? ⟨gb135, 2, none⟩ = some (.int .i64 a1_2) ∧ w'.cell? ⟨gb135, 3, none⟩ = some (.int .i64 a1_3) ∧ w'.cell? ⟨gb135, 4, none⟩ = some (.int .i64 a1_4) ∧ w'.cell? ⟨gb135, 5, none⟩ = some (.string a1_5)) ∧ (w'.heap[gb134]? = some (.cells #[.int .i64 a0_0, .int .i64 a0_1, .string a0_2] 63 (0, 0))) ∧ (w'.heap[gb135]? = some (.cells #[.int .i64 a1_0, .int .i64 a1_1, .int .i64 a1_2, .int .i64 a1_3, .int .i64 a1_4, .string a1_5] 64 (0, 0))) ∧ (w'.heap[s_]? = some (.cells #[.int .i64 0, .int .i64 0, .string (⟨#[]⟩ : ByteArray)] 67 (0, 0))) ∧ (w.heap.size ≤ s_) ∧ (w.heap.size ≤ s_) ∧ (gb134 ≠ s_) ∧ (s_ ≠ gb134) ∧ (gb135 ≠ s_) ∧ (s_ ≠ gb135) ∧ (Below w.heap.size w w')) ?_ ?_
               rotate_left
               ·intro hJ9
                refine join_ (σ := Nat) 11 #[true, false, true, false, false, false, false, false, false, false, true, false, false, false] (fun s_ => [(7, .pointer (some ⟨s_, 0, none⟩))]) (fun s_ w' => (w'.cell? ⟨gb134, 0, none⟩ = some (.int .i64 a0_0) ∧ w'.cell? ⟨gb134, 1, none⟩ = some (.int .i64 a0_1) ∧ w'.cell? ⟨gb134, 2, none⟩ = some (.string a0_2) ∧ w'.cell? ⟨gb135, 0, none⟩ = some (.int .i64 a1_0) ∧ w'.cell? ⟨gb135, 1, none⟩ = some (.int .i64 a1_1) ∧ w'.cell? ⟨gb135, 2, none⟩ = some (.int .i64 a1_2) ∧ w'.cell? ⟨gb135, 3, none⟩ = some (.int .i64 a1_3) ∧ w'.cell? ⟨gb135, 4, none⟩ = some (.int .i64 a1_4) ∧ w'.cell? ⟨gb135, 5, none⟩ = some (.string a1_5)) ∧ (w'.heap[gb134]? = some (.cells #[.int .i64 a0_0, .int .i64 a0_1, .string a0_2] 63 (0, 0))) ∧ (w'.heap[gb135]? = some (.cells #[.int .i64 a1_0, .int .i64 a1_1, .int .i64 a1_2, .int .i64 a1_3, .int .i64 a1_4, .string a1_5] 64 (0, 0))) ∧ (w'.heap[s_]? = some (.cells #[.int .i64 0, .int .i64 0, .int .i64 0, .int .i64 0, .int .i64 0, .string (⟨#[]⟩ : ByteArray)] 61 (0, 0))) ∧ (w.heap.size ≤ s_) ∧ (w.heap.size ≤ s_) ∧ (gb134 ≠ s_) ∧ (s_ ≠ gb134) ∧ (gb135 ≠ s_) ∧ (s_ ≠ gb135) ∧ (Below w.heap.size w w')) ?_ ?_
                rotate_left
                ·intro hJ10
                 refine three_ (i := 1) (j := 9) (k := 10) (Ni := some 24) (Nj := some 6) (Nk := some 7) #[true, true, true, false, false, false, false, false, false, false, false, false, false, false] #[true, false, true, false, false, false, false, false, false, true, false, false, false, false] #[true, false, true, false, false, false, false, false, false, false, true, false, false, false] rfl rfl rfl rfl rfl rfl (three_of HT_.out (by kernel_rfl)) (by decide) (by decide) (by decide) (fun K hK => ?_) (fun K hK => ?_) (fun K hK => ?_)
                 ·skip
                  refine goes_ Try.func47 (by kernel_rfl) rfl #[.agg #[.int .i64 a0_0, .int .i64 a0_1, .string a0_2]] (by rfl) rfl rfl (by (try simp only [List.map_toArray, List.map_cons, List.map_nil]); first|done|rfl|(simp only [List.length_drop, List.length_take]; rfl)) ?_
                  with_reducible refine (laws_toVoice.calls a0_0 a0_1 a0_2 t138 t139 t140 _ A19.out).mono ?_
                  rintro e w98 ⟨rfl, hb⟩
                  refine ⟨_, rfl, ?_⟩
                  have n0_ := Aside0.mk (zK (by exact BK134.out) hb)
                  have n1_ := Aside0.mk (zK (by exact BK135.out) hb)
                  have n2_ := Aside0.mk (zN (by repeat (first|(with_reducible first|exact HB.out|apply zI|apply zG|apply zH|refine zJ ?_ GE134.out|refine zJ ?_ GE135.out)|exact HB.out)) hb)
                  clear BK134
                  clear BK135
                  clear HB
                  have BK134 := n0_
                  have BK135 := n1_
                  have HB := n2_
                  clear n0_ n1_ n2_
                  (try clear hb)
                  (try clear hb2)
                  (try clear hk)
                  (try clear hi)
                  refine hK.out _ _ ⟨(zO BK134.out 0).trans rfl, (zO BK134.out 1).trans rfl, (zO BK134.out 2).trans rfl, (zO BK135.out 0).trans rfl, (zO BK135.out 1).trans rfl, (zO BK135.out 2).trans rfl, (zO BK135.out 3).trans rfl, (zO BK135.out 4).trans rfl, (zO BK135.out 5).trans rfl⟩ (fun hHeld => ?_)
                  clear hK K
                  refine norm_ (a' := ?_) ?_ ?_
                  rotate_left
                  ·show Act.put _ (some 24) _ = _
                   simp only [Act.put, List.setIfInBounds_toArray, List.set_cons_zero, List.set_cons_succ, i64_w, i32_w]
                   rfl
                  exact norm_ (by first|(simp only [putAll, Act.put, List.setIfInBounds_toArray, List.set_cons_zero, List.set_cons_succ]; done)|(simp only [putAll, Act.put, List.setIfInBounds_toArray, List.set_cons_zero, List.set_cons_succ]; rfl)) (hJ1 () _ ⟨hHeld, (by (with_reducible repeat (first|refine zA ?_ _|refine zC ?_|refine zB ?_ _)); exact BK134.out), (by (with_reducible repeat (first|refine zA ?_ _|refine zC ?_|refine zB ?_ _)); exact BK135.out), (by repeat (first|(with_reducible first|exact HB.out|apply zI|apply zG|apply zH|refine zJ ?_ GE134.out|refine zJ ?_ GE135.out)|exact HB.out))⟩)
                 ·skip
                  refine box_step ?hg (N := 6) ?hd (cs := #[.int .i64 0, .int .i64 0, .string (⟨#[]⟩ : ByteArray)]) (t := 67) ?hr ?_; (case hd => rfl); (case hg => rfl); (case hr => first|(go_simp; done)|(go_simp; rfl))
                  intro gb157 hg w98 hbox hb
                  have n0_ := Aside0.mk (zK (by exact BK134.out) hb)
                  have n1_ := Aside0.mk (zK (by exact BK135.out) hb)
                  have n2_ := Aside0.mk (zN (by repeat (first|(with_reducible first|exact HB.out|apply zI|apply zG|apply zH|refine zJ ?_ GE134.out|refine zJ ?_ GE135.out)|exact HB.out)) hb)
                  have n3_ := Aside0.mk (hbox)
                  have n4_ := Aside0.mk ((by rw [hg]; exact (below_size (by repeat (first|(with_reducible first|exact HB.out|apply zI|apply zG|apply zH|refine zJ ?_ GE134.out|refine zJ ?_ GE135.out)|exact HB.out))) : w.heap.size ≤ gb157))
                  have n5_ := Aside0.mk ((by rw [hg]; exact (below_size (by repeat (first|(with_reducible first|exact HB.out|apply zI|apply zG|apply zH|refine zJ ?_ GE134.out|refine zJ ?_ GE135.out)|exact HB.out))) : w.heap.size ≤ gb157))
                  have n6_ := Aside0.mk ((by rw [hg]; exact Nat.ne_of_lt (blk_lt (g := gb134) (o := .cells #[.int .i64 a0_0, .int .i64 a0_1, .string a0_2] 63 (0, 0)) (by (with_reducible repeat (first|refine zA ?_ _|refine zC ?_|refine zB ?_ _)); exact BK134.out)) : gb134 ≠ gb157))
                  have n7_ := Aside0.mk ((by rw [hg]; exact Nat.ne_of_gt (blk_lt (g := gb134) (o := .cells #[.int .i64 a0_0, .int .i64 a0_1, .string a0_2] 63 (0, 0)) (by (with_reducible repeat (first|refine zA ?_ _|refine zC ?_|refine zB ?_ _)); exact BK134.out)) : gb157 ≠ gb134))
                  have n8_ := Aside0.mk ((by rw [hg]; exact Nat.ne_of_lt (blk_lt (g := gb135) (o := .cells #[.int .i64 a1_0, .int .i64 a1_1, .int .i64 a1_2, .int .i64 a1_3, .int .i64 a1_4, .string a1_5] 64 (0, 0)) (by (with_reducible repeat (first|refine zA ?_ _|refine zC ?_|refine zB ?_ _)); exact BK135.out)) : gb135 ≠ gb157))
                  have n9_ := Aside0.mk ((by rw [hg]; exact Nat.ne_of_gt (blk_lt (g := gb135) (o := .cells #[.int .i64 a1_0, .int .i64 a1_1, .int .i64 a1_2, .int .i64 a1_3, .int .i64 a1_4, .string a1_5] 64 (0, 0)) (by (with_reducible repeat (first|refine zA ?_ _|refine zC ?_|refine zB ?_ _)); exact BK135.out)) : gb157 ≠ gb135))
                  clear BK134
                  clear BK135
                  clear HB
                  have BK134 := n0_
                  have BK135 := n1_
                  have HB := n2_
                  have BK157 := n3_
                  have GW157 := n4_
                  have GE157 := n5_
                  have NB134_157 := n6_
                  have NB157_134 := n7_
                  have NB135_157 := n8_
                  have NB157_135 := n9_
                  clear n0_ n1_ n2_ n3_ n4_ n5_ n6_ n7_ n8_ n9_
                  clear hb hbox hg
                  refine hK.out _ _ ⟨(zO BK134.out 0).trans rfl, (zO BK134.out 1).trans rfl, (zO BK134.out 2).trans rfl, (zO BK135.out 0).trans rfl, (zO BK135.out 1).trans rfl, (zO BK135.out 2).trans rfl, (zO BK135.out 3).trans rfl, (zO BK135.out 4).trans rfl, (zO BK135.out 5).trans rfl⟩ (fun hHeld => ?_)
                  clear hK K
                  refine norm_ (a' := ?_) ?_ ?_
                  rotate_left
                  ·show Act.put _ (some 6) _ = _
                   simp only [Act.put, List.setIfInBounds_toArray, List.set_cons_zero, List.set_cons_succ, i64_w, i32_w]
                   rfl
                  exact norm_ (by first|(simp only [putAll, Act.put, List.setIfInBounds_toArray, List.set_cons_zero, List.set_cons_succ]; done)|(simp only [putAll, Act.put, List.setIfInBounds_toArray, List.set_cons_zero, List.set_cons_succ]; rfl)) (hJ9 (gb157) _ ⟨hHeld, (by (with_reducible repeat (first|refine zA ?_ _|refine zC ?_|refine zB ?_ _)); exact BK134.out), (by (with_reducible repeat (first|refine zA ?_ _|refine zC ?_|refine zB ?_ _)); exact BK135.out), (by (with_reducible repeat (first|refine zA ?_ _|refine zC ?_|refine zB ?_ _)); exact BK157.out), GW157.out, GE157.out, NB134_157.out, NB157_134.out, NB135_157.out, NB157_135.out, (by repeat (first|(with_reducible first|exact HB.out|apply zI|apply zG|apply zH|refine zJ ?_ GE134.out|refine zJ ?_ GE135.out|refine zJ ?_ GE157.out)|exact HB.out))⟩)
                 ·skip
                  refine box_step ?hg (N := 7) ?hd (cs := #[.int .i64 0, .int .i64 0, .int .i64 0, .int .i64 0, .int .i64 0, .string (⟨#[]⟩ : ByteArray)]) (t := 61) ?hr ?_; (case hd => rfl); (case hg => rfl); (case hr => first|(go_simp; done)|(go_simp; rfl))
                  intro gb158 hg w98 hbox hb
                  have n0_ := Aside0.mk (zK (by exact BK134.out) hb)
                  have n1_ := Aside0.mk (zK (by exact BK135.out) hb)
                  have n2_ := Aside0.mk (zN (by repeat (first|(with_reducible first|exact HB.out|apply zI|apply zG|apply zH|refine zJ ?_ GE134.out|refine zJ ?_ GE135.out)|exact HB.out)) hb)
                  have n3_ := Aside0.mk (hbox)
                  have n4_ := Aside0.mk ((by rw [hg]; exact (below_size (by repeat (first|(with_reducible first|exact HB.out|apply zI|apply zG|apply zH|refine zJ ?_ GE134.out|refine zJ ?_ GE135.out)|exact HB.out))) : w.heap.size ≤ gb158))
                  have n5_ := Aside0.mk ((by rw [hg]; exact (below_size (by repeat (first|(with_reducible first|exact HB.out|apply zI|apply zG|apply zH|refine zJ ?_ GE134.out|refine zJ ?_ GE135.out)|exact HB.out))) : w.heap.size ≤ gb158))
                  have n6_ := Aside0.mk ((by rw [hg]; exact Nat.ne_of_lt (blk_lt (g := gb134) (o := .cells #[.int .i64 a0_0, .int .i64 a0_1, .string a0_2] 63 (0, 0)) (by (with_reducible repeat (first|refine zA ?_ _|refine zC ?_|refine zB ?_ _)); exact BK134.out)) : gb134 ≠ gb158))
                  have n7_ := Aside0.mk ((by rw [hg]; exact Nat.ne_of_gt (blk_lt (g := gb134) (o := .cells #[.int .i64 a0_0, .int .i64 a0_1, .string a0_2] 63 (0, 0)) (by (with_reducible repeat (first|refine zA ?_ _|refine zC ?_|refine zB ?_ _)); exact BK134.out)) : gb158 ≠ gb134))
                  have n8_ := Aside0.mk ((by rw [hg]; exact Nat.ne_of_lt (blk_lt (g := gb135) (o := .cells #[.int .i64 a1_0, .int .i64 a1_1, .int .i64 a1_2, .int .i64 a1_3, .int .i64 a1_4, .string a1_5] 64 (0, 0)) (by (with_reducible repeat (first|refine zA ?_ _|refine zC ?_|refine zB ?_ _)); exact BK135.out)) : gb135 ≠ gb158))
                  have n9_ := Aside0.mk ((by rw [hg]; exact Nat.ne_of_gt (blk_lt (g := gb135) (o := .cells #[.int .i64 a1_0, .int .i64 a1_1, .int .i64 a1_2, .int .i64 a1_3, .int .i64 a1_4, .string a1_5] 64 (0, 0)) (by (with_reducible repeat (first|refine zA ?_ _|refine zC ?_|refine zB ?_ _)); exact BK135.out)) : gb158 ≠ gb135))
                  clear BK134
                  clear BK135
                  clear HB
                  have BK134 := n0_
                  have BK135 := n1_
                  have HB := n2_
                  have BK158 := n3_
                  have GW158 := n4_
                  have GE158 := n5_
                  have NB134_158 := n6_
                  have NB158_134 := n7_
                  have NB135_158 := n8_
                  have NB158_135 := n9_
                  clear n0_ n1_ n2_ n3_ n4_ n5_ n6_ n7_ n8_ n9_
                  clear hb hbox hg
                  refine hK.out _ _ ⟨(zO BK134.out 0).trans rfl, (zO BK134.out 1).trans rfl, (zO BK134.out 2).trans rfl, (zO BK135.out 0).trans rfl, (zO BK135.out 1).trans rfl, (zO BK135.out 2).trans rfl, (zO BK135.out 3).trans rfl, (zO BK135.out 4).trans rfl, (zO BK135.out 5).trans rfl⟩ (fun hHeld => ?_)
                  clear hK K
                  refine norm_ (a' := ?_) ?_ ?_
                  rotate_left
                  ·show Act.put _ (some 7) _ = _
                   simp only [Act.put, List.setIfInBounds_toArray, List.set_cons_zero, List.set_cons_succ, i64_w, i32_w]
                   rfl
                  exact norm_ (by first|(simp only [putAll, Act.put, List.setIfInBounds_toArray, List.set_cons_zero, List.set_cons_succ]; done)|(simp only [putAll, Act.put, List.setIfInBounds_toArray, List.set_cons_zero, List.set_cons_succ]; rfl)) (hJ10 (gb158) _ ⟨hHeld, (by (with_reducible repeat (first|refine zA ?_ _|refine zC ?_|refine zB ?_ _)); exact BK134.out), (by (with_reducible repeat (first|refine zA ?_ _|refine zC ?_|refine zB ?_ _)); exact BK135.out), (by (with_reducible repeat (first|refine zA ?_ _|refine zC ?_|refine zB ?_ _)); exact BK158.out), GW158.out, GE158.out, NB134_158.out, NB158_134.out, NB135_158.out, NB158_135.out, (by repeat (first|(with_reducible first|exact HB.out|apply zI|apply zG|apply zH|refine zJ ?_ GE134.out|refine zJ ?_ GE135.out|refine zJ ?_ GE158.out)|exact HB.out))⟩)
                ·skip
                 rintro gb158 w99 ⟨hS_, h0_, h1_, h2_, h3_, h4_, h5_, h6_, h7_, h8_, h9_⟩
                 have n0_ : Aside0 (w99.heap[gb134]? = some (.cells #[.int .i64 a0_0, .int .i64 a0_1, .string a0_2] 63 (0, 0))) := ⟨h0_⟩
                 have n1_ : Aside0 (w99.heap[gb135]? = some (.cells #[.int .i64 a1_0, .int .i64 a1_1, .int .i64 a1_2, .int .i64 a1_3, .int .i64 a1_4, .string a1_5] 64 (0, 0))) := ⟨h1_⟩
                 have n2_ : Aside0 (w99.heap[gb158]? = some (.cells #[.int .i64 0, .int .i64 0, .int .i64 0, .int .i64 0, .int .i64 0, .string (⟨#[]⟩ : ByteArray)] 61 (0, 0))) := ⟨h2_⟩
                 have n3_ : Aside0 (w.heap.size ≤ gb158) := ⟨h3_⟩
                 have n4_ : Aside0 (w.heap.size ≤ gb158) := ⟨h4_⟩
                 have n5_ : Aside0 (gb134 ≠ gb158) := ⟨h5_⟩
                 have n6_ : Aside0 (gb158 ≠ gb134) := ⟨h6_⟩
                 have n7_ : Aside0 (gb135 ≠ gb158) := ⟨h7_⟩
                 have n8_ : Aside0 (gb158 ≠ gb135) := ⟨h8_⟩
                 have n9_ : Aside0 (Below w.heap.size w w99) := ⟨h9_⟩
                 clear BK134
                 clear BK135
                 clear HB
                 clear h0_ h1_ h2_ h3_ h4_ h5_ h6_ h7_ h8_ h9_
                 have BK134 := n0_
                 have BK135 := n1_
                 have BK158 := n2_
                 have GW158 := n3_
                 have GE158 := n4_
                 have NB134_158 := n5_
                 have NB158_134 := n6_
                 have NB135_158 := n7_
                 have NB158_135 := n8_
                 have HB := n9_
                 clear n0_ n1_ n2_ n3_ n4_ n5_ n6_ n7_ n8_ n9_
                 have hHeld : w99.cell? ⟨gb134, 0, none⟩ = some (.int .i64 a0_0) ∧ w99.cell? ⟨gb134, 1, none⟩ = some (.int .i64 a0_1) ∧ w99.cell? ⟨gb134, 2, none⟩ = some (.string a0_2) ∧ w99.cell? ⟨gb135, 0, none⟩ = some (.int .i64 a1_0) ∧ w99.cell? ⟨gb135, 1, none⟩ = some (.int .i64 a1_1) ∧ w99.cell? ⟨gb135, 2, none⟩ = some (.int .i64 a1_2) ∧ w99.cell? ⟨gb135, 3, none⟩ = some (.int .i64 a1_3) ∧ w99.cell? ⟨gb135, 4, none⟩ = some (.int .i64 a1_4) ∧ w99.cell? ⟨gb135, 5, none⟩ = some (.string a1_5) := hS_
                 refine norm_ (a' := ?_) ?_ ?_
                 rotate_left
                 ·simp only [putAll, Act.put, List.setIfInBounds_toArray, List.set_cons_zero, List.set_cons_succ]
                  rfl
                 refine two_ (i := 1) (j := 9) (Ni := some 24) (Nj := some 6) #[true, true, true, false, false, false, false, false, false, false, true, false, false, false] #[true, false, true, false, false, false, false, false, false, true, true, false, false, false] rfl rfl rfl rfl (two_of HT_.out (by kernel_rfl)) (by decide) (by decide) (fun K hK => ?_) (fun K hK => ?_)
                 ·skip
                  refine goes_ Try.func47 (by kernel_rfl) rfl #[.agg #[.int .i64 a0_0, .int .i64 a0_1, .string a0_2]] (by rfl) rfl rfl (by (try simp only [List.map_toArray, List.map_cons, List.map_nil]); first|done|rfl|(simp only [List.length_drop, List.length_take]; rfl)) ?_
                  with_reducible refine (laws_toVoice.calls a0_0 a0_1 a0_2 t138 t139 t140 _ A19.out).mono ?_
                  rintro e w100 ⟨rfl, hb⟩
                  refine ⟨_, rfl, ?_⟩
                  have n0_ := Aside0.mk (zK (by exact BK134.out) hb)
                  have n1_ := Aside0.mk (zK (by exact BK135.out) hb)
                  have n2_ := Aside0.mk (zK (by exact BK158.out) hb)
                  have n3_ := Aside0.mk (zN (by repeat (first|(with_reducible first|exact HB.out|apply zI|apply zG|apply zH|refine zJ ?_ GE134.out|refine zJ ?_ GE135.out|refine zJ ?_ GE158.out)|exact HB.out)) hb)
                  clear BK134
                  clear BK135
                  clear BK158
                  clear HB
                  have BK134 := n0_
                  have BK135 := n1_
                  have BK158 := n2_
                  have HB := n3_
                  clear n0_ n1_ n2_ n3_
                  (try clear hb)
                  (try clear hb2)
                  (try clear hk)
                  (try clear hi)
                  refine hK.out _ _ ⟨(zO BK134.out 0).trans rfl, (zO BK134.out 1).trans rfl, (zO BK134.out 2).trans rfl, (zO BK135.out 0).trans rfl, (zO BK135.out 1).trans rfl, (zO BK135.out 2).trans rfl, (zO BK135.out 3).trans rfl, (zO BK135.out 4).trans rfl, (zO BK135.out 5).trans rfl⟩ (fun hHeld => ?_)
                  clear hK K
                  refine norm_ (a' := ?_) ?_ ?_
                  rotate_left
                  ·show Act.put _ (some 24) _ = _
                   simp only [Act.put, List.setIfInBounds_toArray, List.set_cons_zero, List.set_cons_succ, i64_w, i32_w]
                   rfl
                  exact norm_ (by first|(simp only [putAll, Act.put, List.setIfInBounds_toArray, List.set_cons_zero, List.set_cons_succ]; done)|(simp only [putAll, Act.put, List.setIfInBounds_toArray, List.set_cons_zero, List.set_cons_succ]; rfl)) (hJ1_10 (gb158) _ ⟨hHeld, (by (with_reducible repeat (first|refine zA ?_ _|refine zC ?_|refine zB ?_ _)); exact BK134.out), (by (with_reducible repeat (first|refine zA ?_ _|refine zC ?_|refine zB ?_ _)); exact BK135.out), (by (with_reducible repeat (first|refine zA ?_ _|refine zC ?_|refine zB ?_ _)); exact BK158.out), GW158.out, GE158.out, NB134_158.out, NB158_134.out, NB135_158.out, NB158_135.out, (by repeat (first|(with_reducible first|exact HB.out|apply zI|apply zG|apply zH|refine zJ ?_ GE134.out|refine zJ ?_ GE135.out|refine zJ ?_ GE158.out)|exact HB.out))⟩)
                 ·skip
                  refine box_step ?hg (N := 6) ?hd (cs := #[.int .i64 0, .int .i64 0, .string (⟨#[]⟩ : ByteArray)]) (t := 67) ?hr ?_; (case hd => rfl); (case hg => rfl); (case hr => first|(go_simp; done)|(go_simp; rfl))
                  intro gb157 hg w100 hbox hb
                  have n0_ := Aside0.mk (zK (by exact BK134.out) hb)
                  have n1_ := Aside0.mk (zK (by exact BK135.out) hb)
                  have n2_ := Aside0.mk (zK (by exact BK158.out) hb)
                  have n3_ := Aside0.mk (zN (by repeat (first|(with_reducible first|exact HB.out|apply zI|apply zG|apply zH|refine zJ ?_ GE134.out|refine zJ ?_ GE135.out|refine zJ ?_ GE158.out)|exact HB.out)) hb)
                  have n4_ := Aside0.mk (hbox)
                  have n5_ := Aside0.mk ((by rw [hg]; exact (below_size (by repeat (first|(with_reducible first|exact HB.out|apply zI|apply zG|apply zH|refine zJ ?_ GE134.out|refine zJ ?_ GE135.out|refine zJ ?_ GE158.out)|exact HB.out))) : w.heap.size ≤ gb157))
                  have n6_ := Aside0.mk ((by rw [hg]; exact (below_size (by repeat (first|(with_reducible first|exact HB.out|apply zI|apply zG|apply zH|refine zJ ?_ GE134.out|refine zJ ?_ GE135.out|refine zJ ?_ GE158.out)|exact HB.out))) : w.heap.size ≤ gb157))
                  have n7_ := Aside0.mk ((by rw [hg]; exact Nat.ne_of_lt (blk_lt (g := gb134) (o := .cells #[.int .i64 a0_0, .int .i64 a0_1, .string a0_2] 63 (0, 0)) (by (with_reducible repeat (first|refine zA ?_ _|refine zC ?_|refine zB ?_ _)); exact BK134.out)) : gb134 ≠ gb157))
                  have n8_ := Aside0.mk ((by rw [hg]; exact Nat.ne_of_gt (blk_lt (g := gb134) (o := .cells #[.int .i64 a0_0, .int .i64 a0_1, .string a0_2] 63 (0, 0)) (by (with_reducible repeat (first|refine zA ?_ _|refine zC ?_|refine zB ?_ _)); exact BK134.out)) : gb157 ≠ gb134))
                  have n9_ := Aside0.mk ((by rw [hg]; exact Nat.ne_of_lt (blk_lt (g := gb135) (o := .cells #[.int .i64 a1_0, .int .i64 a1_1, .int .i64 a1_2, .int .i64 a1_3, .int .i64 a1_4, .string a1_5] 64 (0, 0)) (by (with_reducible repeat (first|refine zA ?_ _|refine zC ?_|refine zB ?_ _)); exact BK135.out)) : gb135 ≠ gb157))
                  have n10_ := Aside0.mk ((by rw [hg]; exact Nat.ne_of_gt (blk_lt (g := gb135) (o := .cells #[.int .i64 a1_0, .int .i64 a1_1, .int .i64 a1_2, .int .i64 a1_3, .int .i64 a1_4, .string a1_5] 64 (0, 0)) (by (with_reducible repeat (first|refine zA ?_ _|refine zC ?_|refine zB ?_ _)); exact BK135.out)) : gb157 ≠ gb135))
                  have n11_ := Aside0.mk ((by rw [hg]; exact Nat.ne_of_lt (blk_lt (g := gb158) (o := .cells #[.int .i64 0, .int .i64 0, .int .i64 0, .int .i64 0, .int .i64 0, .string (⟨#[]⟩ : ByteArray)] 61 (0, 0)) (by (with_reducible repeat (first|refine zA ?_ _|refine zC ?_|refine zB ?_ _)); exact BK158.out)) : gb158 ≠ gb157))
                  have n12_ := Aside0.mk ((by rw [hg]; exact Nat.ne_of_gt (blk_lt (g := gb158) (o := .cells #[.int .i64 0, .int .i64 0, .int .i64 0, .int .i64 0, .int .i64 0, .string (⟨#[]⟩ : ByteArray)] 61 (0, 0)) (by (with_reducible repeat (first|refine zA ?_ _|refine zC ?_|refine zB ?_ _)); exact BK158.out)) : gb157 ≠ gb158))
                  clear BK134
                  clear BK135
                  clear BK158
                  clear HB
                  have BK134 := n0_
                  have BK135 := n1_
                  have BK158 := n2_
                  have HB := n3_
                  have BK157 := n4_
                  have GW157 := n5_
                  have GE157 := n6_
                  have NB134_157 := n7_
                  have NB157_134 := n8_
                  have NB135_157 := n9_
                  have NB157_135 := n10_
                  have NB158_157 := n11_
                  have NB157_158 := n12_
                  clear n0_ n1_ n2_ n3_ n4_ n5_ n6_ n7_ n8_ n9_ n10_ n11_ n12_
                  clear hb hbox hg
                  refine hK.out _ _ ⟨(zO BK134.out 0).trans rfl, (zO BK134.out 1).trans rfl, (zO BK134.out 2).trans rfl, (zO BK135.out 0).trans rfl, (zO BK135.out 1).trans rfl, (zO BK135.out 2).trans rfl, (zO BK135.out 3).trans rfl, (zO BK135.out 4).trans rfl, (zO BK135.out 5).trans rfl⟩ (fun hHeld => ?_)
                  clear hK K
                  refine norm_ (a' := ?_) ?_ ?_
                  rotate_left
                  ·show Act.put _ (some 6) _ = _
                   simp only [Act.put, List.setIfInBounds_toArray, List.set_cons_zero, List.set_cons_succ, i64_w, i32_w]
                   rfl
                  exact norm_ (by first|(simp only [putAll, Act.put, List.setIfInBounds_toArray, List.set_cons_zero, List.set_cons_succ]; done)|(simp only [putAll, Act.put, List.setIfInBounds_toArray, List.set_cons_zero, List.set_cons_succ]; rfl)) (hJ9_10 (gb157, gb158) _ ⟨hHeld, (by (with_reducible repeat (first|refine zA ?_ _|refine zC ?_|refine zB ?_ _)); exact BK134.out), (by (with_reducible repeat (first|refine zA ?_ _|refine zC ?_|refine zB ?_ _)); exact BK135.out), (by (with_reducible repeat (first|refine zA ?_ _|refine zC ?_|refine zB ?_ _)); exact BK157.out), (by (with_reducible repeat (first|refine zA ?_ _|refine zC ?_|refine zB ?_ _)); exact BK158.out), GW157.out, GE157.out, NB134_157.out, NB157_134.out, NB135_157.out, NB157_135.out, NB158_157.out, NB157_158.out, GW158.out, GE158.out, NB134_158.out, NB158_134.out, NB135_158.out, NB158_135.out, (by repeat (first|(with_reducible first|exact HB.out|apply zI|apply zG|apply zH|refine zJ ?_ GE134.out|refine zJ ?_ GE135.out|refine zJ ?_ GE158.out|refine zJ ?_ GE157.out)|exact HB.out))⟩)
               ·skip
                rintro gb157 w99 ⟨hS_, h0_, h1_, h2_, h3_, h4_, h5_, h6_, h7_, h8_, h9_⟩
                have n0_ : Aside0 (w99.heap[gb134]? = some (.cells #[.int .i64 a0_0, .int .i64 a0_1, .string a0_2] 63 (0, 0))) := ⟨h0_⟩
                have n1_ : Aside0 (w99.heap[gb135]? = some (.cells #[.int .i64 a1_0, .int .i64 a1_1, .int .i64 a1_2, .int .i64 a1_3, .int .i64 a1_4, .string a1_5] 64 (0, 0))) := ⟨h1_⟩
                have n2_ : Aside0 (w99.heap[gb157]? = some (.cells #[.int .i64 0, .int .i64 0, .string (⟨#[]⟩ : ByteArray)] 67 (0, 0))) := ⟨h2_⟩
                have n3_ : Aside0 (w.heap.size ≤ gb157) := ⟨h3_⟩
                have n4_ : Aside0 (w.heap.size ≤ gb157) := ⟨h4_⟩
                have n5_ : Aside0 (gb134 ≠ gb157) := ⟨h5_⟩
                have n6_ : Aside0 (gb157 ≠ gb134) := ⟨h6_⟩
                have n7_ : Aside0 (gb135 ≠ gb157) := ⟨h7_⟩
                have n8_ : Aside0 (gb157 ≠ gb135) := ⟨h8_⟩
                have n9_ : Aside0 (Below w.heap.size w w99) := ⟨h9_⟩
                clear BK134
                clear BK135
                clear HB
                clear h0_ h1_ h2_ h3_ h4_ h5_ h6_ h7_ h8_ h9_
                have BK134 := n0_
                have BK135 := n1_
                have BK157 := n2_
                have GW157 := n3_
                have GE157 := n4_
                have NB134_157 := n5_
                have NB157_134 := n6_
                have NB135_157 := n7_
                have NB157_135 := n8_
                have HB := n9_
                clear n0_ n1_ n2_ n3_ n4_ n5_ n6_ n7_ n8_ n9_
                have hHeld : w99.cell? ⟨gb134, 0, none⟩ = some (.int .i64 a0_0) ∧ w99.cell? ⟨gb134, 1, none⟩ = some (.int .i64 a0_1) ∧ w99.cell? ⟨gb134, 2, none⟩ = some (.string a0_2) ∧ w99.cell? ⟨gb135, 0, none⟩ = some (.int .i64 a1_0) ∧ w99.cell? ⟨gb135, 1, none⟩ = some (.int .i64 a1_1) ∧ w99.cell? ⟨gb135, 2, none⟩ = some (.int .i64 a1_2) ∧ w99.cell? ⟨gb135, 3, none⟩ = some (.int .i64 a1_3) ∧ w99.cell? ⟨gb135, 4, none⟩ = some (.int .i64 a1_4) ∧ w99.cell? ⟨gb135, 5, none⟩ = some (.string a1_5) := hS_
                refine norm_ (a' := ?_) ?_ ?_
                rotate_left
                ·simp only [putAll, Act.put, List.setIfInBounds_toArray, List.set_cons_zero, List.set_cons_succ]
                 rfl
                refine two_ (i := 1) (j := 10) (Ni := some 24) (Nj := some 7) #[true, true, true, false, false, false, false, false, false, true, false, false, false, false] #[true, false, true, false, false, false, false, false, false, true, true, false, false, false] rfl rfl rfl rfl (two_of HT_.out (by kernel_rfl)) (by decide) (by decide) (fun K hK => ?_) (fun K hK => ?_)
                ·skip
                 refine goes_ Try.func47 (by kernel_rfl) rfl #[.agg #[.int .i64 a0_0, .int .i64 a0_1, .string a0_2]] (by rfl) rfl rfl (by (try simp only [List.map_toArray, List.map_cons, List.map_nil]); first|done|rfl|(simp only [List.length_drop, List.length_take]; rfl)) ?_
                 with_reducible refine (laws_toVoice.calls a0_0 a0_1 a0_2 t138 t139 t140 _ A19.out).mono ?_
                 rintro e w100 ⟨rfl, hb⟩
                 refine ⟨_, rfl, ?_⟩
                 have n0_ := Aside0.mk (zK (by exact BK134.out) hb)
                 have n1_ := Aside0.mk (zK (by exact BK135.out) hb)
                 have n2_ := Aside0.mk (zK (by exact BK157.out) hb)
                 have n3_ := Aside0.mk (zN (by repeat (first|(with_reducible first|exact HB.out|apply zI|apply zG|apply zH|refine zJ ?_ GE134.out|refine zJ ?_ GE135.out|refine zJ ?_ GE157.out)|exact HB.out)) hb)
                 clear BK134
                 clear BK135
                 clear BK157
                 clear HB
                 have BK134 := n0_
                 have BK135 := n1_
                 have BK157 := n2_
                 have HB := n3_
                 clear n0_ n1_ n2_ n3_
                 (try clear hb)
                 (try clear hb2)
                 (try clear hk)
                 (try clear hi)
                 refine hK.out _ _ ⟨(zO BK134.out 0).trans rfl, (zO BK134.out 1).trans rfl, (zO BK134.out 2).trans rfl, (zO BK135.out 0).trans rfl, (zO BK135.out 1).trans rfl, (zO BK135.out 2).trans rfl, (zO BK135.out 3).trans rfl, (zO BK135.out 4).trans rfl, (zO BK135.out 5).trans rfl⟩ (fun hHeld => ?_)
                 clear hK K
                 refine norm_ (a' := ?_) ?_ ?_
                 rotate_left
                 ·show Act.put _ (some 24) _ = _
                  simp only [Act.put, List.setIfInBounds_toArray, List.set_cons_zero, List.set_cons_succ, i64_w, i32_w]
                  rfl
                 exact norm_ (by first|(simp only [putAll, Act.put, List.setIfInBounds_toArray, List.set_cons_zero, List.set_cons_succ]; done)|(simp only [putAll, Act.put, List.setIfInBounds_toArray, List.set_cons_zero, List.set_cons_succ]; rfl)) (hJ1_9 (gb157) _ ⟨hHeld, (by (with_reducible repeat (first|refine zA ?_ _|refine zC ?_|refine zB ?_ _)); exact BK134.out), (by (with_reducible repeat (first|refine zA ?_ _|refine zC ?_|refine zB ?_ _)); exact BK135.out), (by (with_reducible repeat (first|refine zA ?_ _|refine zC ?_|refine zB ?_ _)); exact BK157.out), GW157.out, GE157.out, NB134_157.out, NB157_134.out, NB135_157.out, NB157_135.out, (by repeat (first|(with_reducible first|exact HB.out|apply zI|apply zG|apply zH|refine zJ ?_ GE134.out|refine zJ ?_ GE135.out|refine zJ ?_ GE157.out)|exact HB.out))⟩)
                ·skip
                 refine box_step ?hg (N := 7) ?hd (cs := #[.int .i64 0, .int .i64 0, .int .i64 0, .int .i64 0, .int .i64 0, .string (⟨#[]⟩ : ByteArray)]) (t := 61) ?hr ?_; (case hd => rfl); (case hg => rfl); (case hr => first|(go_simp; done)|(go_simp; rfl))
                 intro gb158 hg w100 hbox hb
                 have n0_ := Aside0.mk (zK (by exact BK134.out) hb)
                 have n1_ := Aside0.mk (zK (by exact BK135.out) hb)
                 have n2_ := Aside0.mk (zK (by exact BK157.out) hb)
                 have n3_ := Aside0.mk (zN (by repeat (first|(with_reducible first|exact HB.out|apply zI|apply zG|apply zH|refine zJ ?_ GE134.out|refine zJ ?_ GE135.out|refine zJ ?_ GE157.out)|exact HB.out)) hb)
                 have n4_ := Aside0.mk (hbox)
                 have n5_ := Aside0.mk ((by rw [hg]; exact (below_size (by repeat (first|(with_reducible first|exact HB.out|apply zI|apply zG|apply zH|refine zJ ?_ GE134.out|refine zJ ?_ GE135.out|refine zJ ?_ GE157.out)|exact HB.out))) : w.heap.size ≤ gb158))
                 have n6_ := Aside0.mk ((by rw [hg]; exact (below_size (by repeat (first|(with_reducible first|exact HB.out|apply zI|apply zG|apply zH|refine zJ ?_ GE134.out|refine zJ ?_ GE135.out|refine zJ ?_ GE157.out)|exact HB.out))) : w.heap.size ≤ gb158))
                 have n7_ := Aside0.mk ((by rw [hg]; exact Nat.ne_of_lt (blk_lt (g := gb134) (o := .cells #[.int .i64 a0_0, .int .i64 a0_1, .string a0_2] 63 (0, 0)) (by (with_reducible repeat (first|refine zA ?_ _|refine zC ?_|refine zB ?_ _)); exact BK134.out)) : gb134 ≠ gb158))
                 have n8_ := Aside0.mk ((by rw [hg]; exact Nat.ne_of_gt (blk_lt (g := gb134) (o := .cells #[.int .i64 a0_0, .int .i64 a0_1, .string a0_2] 63 (0, 0)) (by (with_reducible repeat (first|refine zA ?_ _|refine zC ?_|refine zB ?_ _)); exact BK134.out)) : gb158 ≠ gb134))
                 have n9_ := Aside0.mk ((by rw [hg]; exact Nat.ne_of_lt (blk_lt (g := gb135) (o := .cells #[.int .i64 a1_0, .int .i64 a1_1, .int .i64 a1_2, .int .i64 a1_3, .int .i64 a1_4, .string a1_5] 64 (0, 0)) (by (with_reducible repeat (first|refine zA ?_ _|refine zC ?_|refine zB ?_ _)); exact BK135.out)) : gb135 ≠ gb158))
                 have n10_ := Aside0.mk ((by rw [hg]; exact Nat.ne_of_gt (blk_lt (g := gb135) (o := .cells #[.int .i64 a1_0, .int .i64 a1_1, .int .i64 a1_2, .int .i64 a1_3, .int .i64 a1_4, .string a1_5] 64 (0, 0)) (by (with_reducible repeat (first|refine zA ?_ _|refine zC ?_|refine zB ?_ _)); exact BK135.out)) : gb158 ≠ gb135))
                 have n11_ := Aside0.mk ((by rw [hg]; exact Nat.ne_of_lt (blk_lt (g := gb157) (o := .cells #[.int .i64 0, .int .i64 0, .string (⟨#[]⟩ : ByteArray)] 67 (0, 0)) (by (with_reducible repeat (first|refine zA ?_ _|refine zC ?_|refine zB ?_ _)); exact BK157.out)) : gb157 ≠ gb158))
                 have n12_ := Aside0.mk ((by rw [hg]; exact Nat.ne_of_gt (blk_lt (g := gb157) (o := .cells #[.int .i64 0, .int .i64 0, .string (⟨#[]⟩ : ByteArray)] 67 (0, 0)) (by (with_reducible repeat (first|refine zA ?_ _|refine zC ?_|refine zB ?_ _)); exact BK157.out)) : gb158 ≠ gb157))
                 clear BK134
                 clear BK135
                 clear BK157
                 clear HB
                 have BK134 := n0_
                 have BK135 := n1_
                 have BK157 := n2_
                 have HB := n3_
                 have BK158 := n4_
                 have GW158 := n5_
                 have GE158 := n6_
                 have NB134_158 := n7_
                 have NB158_134 := n8_
                 have NB135_158 := n9_
                 have NB158_135 := n10_
                 have NB157_158 := n11_
                 have NB158_157 := n12_
                 clear n0_ n1_ n2_ n3_ n4_ n5_ n6_ n7_ n8_ n9_ n10_ n11_ n12_
                 clear hb hbox hg
                 refine hK.out _ _ ⟨(zO BK134.out 0).trans rfl, (zO BK134.out 1).trans rfl, (zO BK134.out 2).trans rfl, (zO BK135.out 0).trans rfl, (zO BK135.out 1).trans rfl, (zO BK135.out 2).trans rfl, (zO BK135.out 3).trans rfl, (zO BK135.out 4).trans rfl, (zO BK135.out 5).trans rfl⟩ (fun hHeld => ?_)
                 clear hK K
                 refine norm_ (a' := ?_) ?_ ?_
                 rotate_left
                 ·show Act.put _ (some 7) _ = _
                  simp only [Act.put, List.setIfInBounds_toArray, List.set_cons_zero, List.set_cons_succ, i64_w, i32_w]
                  rfl
                 exact norm_ (by first|(simp only [putAll, Act.put, List.setIfInBounds_toArray, List.set_cons_zero, List.set_cons_succ]; done)|(simp only [putAll, Act.put, List.setIfInBounds_toArray, List.set_cons_zero, List.set_cons_succ]; rfl)) (hJ9_10 (gb157, gb158) _ ⟨hHeld, (by (with_reducible repeat (first|refine zA ?_ _|refine zC ?_|refine zB ?_ _)); exact BK134.out), (by (with_reducible repeat (first|refine zA ?_ _|refine zC ?_|refine zB ?_ _)); exact BK135.out), (by (with_reducible repeat (first|refine zA ?_ _|refine zC ?_|refine zB ?_ _)); exact BK157.out), (by (with_reducible repeat (first|refine zA ?_ _|refine zC ?_|refine zB ?_ _)); exact BK158.out), GW157.out, GE157.out, NB134_157.out, NB157_134.out, NB135_157.out, NB157_135.out, NB158_157.out, NB157_158.out, GW158.out, GE158.out, NB134_158.out, NB158_134.out, NB135_158.out, NB158_135.out, (by repeat (first|(with_reducible first|exact HB.out|apply zI|apply zG|apply zH|refine zJ ?_ GE134.out|refine zJ ?_ GE135.out|refine zJ ?_ GE157.out|refine zJ ?_ GE158.out)|exact HB.out))⟩)
              ·skip
               rintro _ w99 ⟨hS_, h0_, h1_, h2_⟩
               have n0_ : Aside0 (w99.heap[gb134]? = some (.cells #[.int .i64 a0_0, .int .i64 a0_1, .string a0_2] 63 (0, 0))) := ⟨h0_⟩
               have n1_ : Aside0 (w99.heap[gb135]? = some (.cells #[.int .i64 a1_0, .int .i64 a1_1, .int .i64 a1_2, .int .i64 a1_3, .int .i64 a1_4, .string a1_5] 64 (0, 0))) := ⟨h1_⟩
               have n2_ : Aside0 (Below w.heap.size w w99) := ⟨h2_⟩
               clear BK134
               clear BK135
               clear HB
               clear h0_ h1_ h2_
               have BK134 := n0_
               have BK135 := n1_
               have HB := n2_
               clear n0_ n1_ n2_
               have hHeld : w99.cell? ⟨gb134, 0, none⟩ = some (.int .i64 a0_0) ∧ w99.cell? ⟨gb134, 1, none⟩ = some (.int .i64 a0_1) ∧ w99.cell? ⟨gb134, 2, none⟩ = some (.string a0_2) ∧ w99.cell? ⟨gb135, 0, none⟩ = some (.int .i64 a1_0) ∧ w99.cell? ⟨gb135, 1, none⟩ = some (.int .i64 a1_1) ∧ w99.cell? ⟨gb135, 2, none⟩ = some (.int .i64 a1_2) ∧ w99.cell? ⟨gb135, 3, none⟩ = some (.int .i64 a1_3) ∧ w99.cell? ⟨gb135, 4, none⟩ = some (.int .i64 a1_4) ∧ w99.cell? ⟨gb135, 5, none⟩ = some (.string a1_5) := hS_
               refine norm_ (a' := ?_) ?_ ?_
               rotate_left
               ·simp only [putAll, Act.put, List.setIfInBounds_toArray, List.set_cons_zero, List.set_cons_succ]
                rfl
               refine three_ (i := 3) (j := 9) (k := 10) (Ni := some 26) (Nj := some 6) (Nk := some 7) #[true, true, true, true, false, false, false, false, false, false, false, false, false, false] #[true, true, true, false, false, false, false, false, false, true, false, false, false, false] #[true, true, true, false, false, false, false, false, false, false, true, false, false, false] rfl rfl rfl rfl rfl rfl (three_of HT_.out (by kernel_rfl)) (by decide) (by decide) (by decide) (fun K hK => ?_) (fun K hK => ?_) (fun K hK => ?_)
               ·skip
                refine goes_ Try.func48 (by kernel_rfl) rfl #[.agg #[.int .i64 a1_0, .int .i64 a1_1, .int .i64 a1_2, .int .i64 a1_3, .int .i64 a1_4, .string a1_5]] (by rfl) rfl rfl (by (try simp only [List.map_toArray, List.map_cons, List.map_nil]); first|done|rfl|(simp only [List.length_drop, List.length_take]; rfl)) ?_
                with_reducible refine (laws_toNote.calls a1_0 a1_1 a1_2 a1_3 a1_4 a1_5 t141 t142 t143 t144 t145 t146 _ A20.out).mono ?_
                rintro e w100 ⟨rfl, hb⟩
                refine ⟨_, rfl, ?_⟩
                have n0_ := Aside0.mk (zK (by exact BK134.out) hb)
                have n1_ := Aside0.mk (zK (by exact BK135.out) hb)
                have n2_ := Aside0.mk (zN (by repeat (first|(with_reducible first|exact HB.out|apply zI|apply zG|apply zH|refine zJ ?_ GE134.out|refine zJ ?_ GE135.out)|exact HB.out)) hb)
                clear BK134
                clear BK135
                clear HB
                have BK134 := n0_
                have BK135 := n1_
                have HB := n2_
                clear n0_ n1_ n2_
                (try clear hb)
                (try clear hb2)
                (try clear hk)
                (try clear hi)
                refine hK.out _ _ ⟨(zO BK134.out 0).trans rfl, (zO BK134.out 1).trans rfl, (zO BK134.out 2).trans rfl, (zO BK135.out 0).trans rfl, (zO BK135.out 1).trans rfl, (zO BK135.out 2).trans rfl, (zO BK135.out 3).trans rfl, (zO BK135.out 4).trans rfl, (zO BK135.out 5).trans rfl⟩ (fun hHeld => ?_)
                clear hK K
                refine norm_ (a' := ?_) ?_ ?_
                rotate_left
                ·show Act.put _ (some 26) _ = _
                 simp only [Act.put, List.setIfInBounds_toArray, List.set_cons_zero, List.set_cons_succ, i64_w, i32_w]
                 rfl
                exact norm_ (by first|(simp only [putAll, Act.put, List.setIfInBounds_toArray, List.set_cons_zero, List.set_cons_succ]; done)|(simp only [putAll, Act.put, List.setIfInBounds_toArray, List.set_cons_zero, List.set_cons_succ]; rfl)) (hJ1_3 () _ ⟨hHeld, (by (with_reducible repeat (first|refine zA ?_ _|refine zC ?_|refine zB ?_ _)); exact BK134.out), (by (with_reducible repeat (first|refine zA ?_ _|refine zC ?_|refine zB ?_ _)); exact BK135.out), (by repeat (first|(with_reducible first|exact HB.out|apply zI|apply zG|apply zH|refine zJ ?_ GE134.out|refine zJ ?_ GE135.out)|exact HB.out))⟩)
               ·skip
                refine box_step ?hg (N := 6) ?hd (cs := #[.int .i64 0, .int .i64 0, .string (⟨#[]⟩ : ByteArray)]) (t := 67) ?hr ?_; (case hd => rfl); (case hg => rfl); (case hr => first|(go_simp; done)|(go_simp; rfl))
                intro gb157 hg w100 hbox hb
                have n0_ := Aside0.mk (zK (by exact BK134.out) hb)
                have n1_ := Aside0.mk (zK (by exact BK135.out) hb)
                have n2_ := Aside0.mk (zN (by repeat (first|(with_reducible first|exact HB.out|apply zI|apply zG|apply zH|refine zJ ?_ GE134.out|refine zJ ?_ GE135.out)|exact HB.out)) hb)
                have n3_ := Aside0.mk (hbox)
                have n4_ := Aside0.mk ((by rw [hg]; exact (below_size (by repeat (first|(with_reducible first|exact HB.out|apply zI|apply zG|apply zH|refine zJ ?_ GE134.out|refine zJ ?_ GE135.out)|exact HB.out))) : w.heap.size ≤ gb157))
                have n5_ := Aside0.mk ((by rw [hg]; exact (below_size (by repeat (first|(with_reducible first|exact HB.out|apply zI|apply zG|apply zH|refine zJ ?_ GE134.out|refine zJ ?_ GE135.out)|exact HB.out))) : w.heap.size ≤ gb157))
                have n6_ := Aside0.mk ((by rw [hg]; exact Nat.ne_of_lt (blk_lt (g := gb134) (o := .cells #[.int .i64 a0_0, .int .i64 a0_1, .string a0_2] 63 (0, 0)) (by (with_reducible repeat (first|refine zA ?_ _|refine zC ?_|refine zB ?_ _)); exact BK134.out)) : gb134 ≠ gb157))
                have n7_ := Aside0.mk ((by rw [hg]; exact Nat.ne_of_gt (blk_lt (g := gb134) (o := .cells #[.int .i64 a0_0, .int .i64 a0_1, .string a0_2] 63 (0, 0)) (by (with_reducible repeat (first|refine zA ?_ _|refine zC ?_|refine zB ?_ _)); exact BK134.out)) : gb157 ≠ gb134))
                have n8_ := Aside0.mk ((by rw [hg]; exact Nat.ne_of_lt (blk_lt (g := gb135) (o := .cells #[.int .i64 a1_0, .int .i64 a1_1, .int .i64 a1_2, .int .i64 a1_3, .int .i64 a1_4, .string a1_5] 64 (0, 0)) (by (with_reducible repeat (first|refine zA ?_ _|refine zC ?_|refine zB ?_ _)); exact BK135.out)) : gb135 ≠ gb157))
                have n9_ := Aside0.mk ((by rw [hg]; exact Nat.ne_of_gt (blk_lt (g := gb135) (o := .cells #[.int .i64 a1_0, .int .i64 a1_1, .int .i64 a1_2, .int .i64 a1_3, .int .i64 a1_4, .string a1_5] 64 (0, 0)) (by (with_reducible repeat (first|refine zA ?_ _|refine zC ?_|refine zB ?_ _)); exact BK135.out)) : gb157 ≠ gb135))
                clear BK134
                clear BK135
                clear HB
                have BK134 := n0_
                have BK135 := n1_
                have HB := n2_
                have BK157 := n3_
                have GW157 := n4_
                have GE157 := n5_
                have NB134_157 := n6_
                have NB157_134 := n7_
                have NB135_157 := n8_
                have NB157_135 := n9_
                clear n0_ n1_ n2_ n3_ n4_ n5_ n6_ n7_ n8_ n9_
                clear hb hbox hg
                refine hK.out _ _ ⟨(zO BK134.out 0).trans rfl, (zO BK134.out 1).trans rfl, (zO BK134.out 2).trans rfl, (zO BK135.out 0).trans rfl, (zO BK135.out 1).trans rfl, (zO BK135.out 2).trans rfl, (zO BK135.out 3).trans rfl, (zO BK135.out 4).trans rfl, (zO BK135.out 5).trans rfl⟩ (fun hHeld => ?_)
                clear hK K
                refine norm_ (a' := ?_) ?_ ?_
                rotate_left
                ·show Act.put _ (some 6) _ = _
                 simp only [Act.put, List.setIfInBounds_toArray, List.set_cons_zero, List.set_cons_succ, i64_w, i32_w]
                 rfl
                exact norm_ (by first|(simp only [putAll, Act.put, List.setIfInBounds_toArray, List.set_cons_zero, List.set_cons_succ]; done)|(simp only [putAll, Act.put, List.setIfInBounds_toArray, List.set_cons_zero, List.set_cons_succ]; rfl)) (hJ1_9 (gb157) _ ⟨hHeld, (by (with_reducible repeat (first|refine zA ?_ _|refine zC ?_|refine zB ?_ _)); exact BK134.out), (by (with_reducible repeat (first|refine zA ?_ _|refine zC ?_|refine zB ?_ _)); exact BK135.out), (by (with_reducible repeat (first|refine zA ?_ _|refine zC ?_|refine zB ?_ _)); exact BK157.out), GW157.out, GE157.out, NB134_157.out, NB157_134.out, NB135_157.out, NB157_135.out, (by repeat (first|(with_reducible first|exact HB.out|apply zI|apply zG|apply zH|refine zJ ?_ GE134.out|refine zJ ?_ GE135.out|refine zJ ?_ GE157.out)|exact HB.out))⟩)
               ·skip
                refine box_step ?hg (N := 7) ?hd (cs := #[.int .i64 0, .int .i64 0, .int .i64 0, .int .i64 0, .int .i64 0, .string (⟨#[]⟩ : ByteArray)]) (t := 61) ?hr ?_; (case hd => rfl); (case hg => rfl); (case hr => first|(go_simp; done)|(go_simp; rfl))
                intro gb158 hg w100 hbox hb
                have n0_ := Aside0.mk (zK (by exact BK134.out) hb)
                have n1_ := Aside0.mk (zK (by exact BK135.out) hb)
                have n2_ := Aside0.mk (zN (by repeat (first|(with_reducible first|exact HB.out|apply zI|apply zG|apply zH|refine zJ ?_ GE134.out|refine zJ ?_ GE135.out)|exact HB.out)) hb)
                have n3_ := Aside0.mk (hbox)
                have n4_ := Aside0.mk ((by rw [hg]; exact (below_size (by repeat (first|(with_reducible first|exact HB.out|apply zI|apply zG|apply zH|refine zJ ?_ GE134.out|refine zJ ?_ GE135.out)|exact HB.out))) : w.heap.size ≤ gb158))
                have n5_ := Aside0.mk ((by rw [hg]; exact (below_size (by repeat (first|(with_reducible first|exact HB.out|apply zI|apply zG|apply zH|refine zJ ?_ GE134.out|refine zJ ?_ GE135.out)|exact HB.out))) : w.heap.size ≤ gb158))
                have n6_ := Aside0.mk ((by rw [hg]; exact Nat.ne_of_lt (blk_lt (g := gb134) (o := .cells #[.int .i64 a0_0, .int .i64 a0_1, .string a0_2] 63 (0, 0)) (by (with_reducible repeat (first|refine zA ?_ _|refine zC ?_|refine zB ?_ _)); exact BK134.out)) : gb134 ≠ gb158))
                have n7_ := Aside0.mk ((by rw [hg]; exact Nat.ne_of_gt (blk_lt (g := gb134) (o := .cells #[.int .i64 a0_0, .int .i64 a0_1, .string a0_2] 63 (0, 0)) (by (with_reducible repeat (first|refine zA ?_ _|refine zC ?_|refine zB ?_ _)); exact BK134.out)) : gb158 ≠ gb134))
                have n8_ := Aside0.mk ((by rw [hg]; exact Nat.ne_of_lt (blk_lt (g := gb135) (o := .cells #[.int .i64 a1_0, .int .i64 a1_1, .int .i64 a1_2, .int .i64 a1_3, .int .i64 a1_4, .string a1_5] 64 (0, 0)) (by (with_reducible repeat (first|refine zA ?_ _|refine zC ?_|refine zB ?_ _)); exact BK135.out)) : gb135 ≠ gb158))
                have n9_ := Aside0.mk ((by rw [hg]; exact Nat.ne_of_gt (blk_lt (g := gb135) (o := .cells #[.int .i64 a1_0, .int .i64 a1_1, .int .i64 a1_2, .int .i64 a1_3, .int .i64 a1_4, .string a1_5] 64 (0, 0)) (by (with_reducible repeat (first|refine zA ?_ _|refine zC ?_|refine zB ?_ _)); exact BK135.out)) : gb158 ≠ gb135))
                clear BK134
                clear BK135
                clear HB
                have BK134 := n0_
                have BK135 := n1_
                have HB := n2_
                have BK158 := n3_
                have GW158 := n4_
                have GE158 := n5_
                have NB134_158 := n6_
                have NB158_134 := n7_
                have NB135_158 := n8_
                have NB158_135 := n9_
                clear n0_ n1_ n2_ n3_ n4_ n5_ n6_ n7_ n8_ n9_
                clear hb hbox hg
                refine hK.out _ _ ⟨(zO BK134.out 0).trans rfl, (zO BK134.out 1).trans rfl, (zO BK134.out 2).trans rfl, (zO BK135.out 0).trans rfl, (zO BK135.out 1).trans rfl, (zO BK135.out 2).trans rfl, (zO BK135.out 3).trans rfl, (zO BK135.out 4).trans rfl, (zO BK135.out 5).trans rfl⟩ (fun hHeld => ?_)
                clear hK K
                refine norm_ (a' := ?_) ?_ ?_
                rotate_left
                ·show Act.put _ (some 7) _ = _
                 simp only [Act.put, List.setIfInBounds_toArray, List.set_cons_zero, List.set_cons_succ, i64_w, i32_w]
                 rfl
                exact norm_ (by first|(simp only [putAll, Act.put, List.setIfInBounds_toArray, List.set_cons_zero, List.set_cons_succ]; done)|(simp only [putAll, Act.put, List.setIfInBounds_toArray, List.set_cons_zero, List.set_cons_succ]; rfl)) (hJ1_10 (gb158) _ ⟨hHeld, (by (with_reducible repeat (first|refine zA ?_ _|refine zC ?_|refine zB ?_ _)); exact BK134.out), (by (with_reducible repeat (first|refine zA ?_ _|refine zC ?_|refine zB ?_ _)); exact BK135.out), (by (with_reducible repeat (first|refine zA ?_ _|refine zC ?_|refine zB ?_ _)); exact BK158.out), GW158.out, GE158.out, NB134_158.out, NB158_134.out, NB135_158.out, NB158_135.out, (by repeat (first|(with_reducible first|exact HB.out|apply zI|apply zG|apply zH|refine zJ ?_ GE134.out|refine zJ ?_ GE135.out|refine zJ ?_ GE158.out)|exact HB.out))⟩)
             ·skip
              rintro ⟨gb157, gb158⟩ w100 ⟨hS_, h0_, h1_, h2_, h3_, h4_, h5_, h6_, h7_, h8_, h9_, h10_, h11_, h12_, h13_, h14_, h15_, h16_, h17_, h18_⟩
              have n0_ : Aside0 (w100.heap[gb134]? = some (.cells #[.int .i64 a0_0, .int .i64 a0_1, .string a0_2] 63 (0, 0))) := ⟨h0_⟩
              have n1_ : Aside0 (w100.heap[gb135]? = some (.cells #[.int .i64 a1_0, .int .i64 a1_1, .int .i64 a1_2, .int .i64 a1_3, .int .i64 a1_4, .string a1_5] 64 (0, 0))) := ⟨h1_⟩
              have n2_ : Aside0 (w100.heap[gb157]? = some (.cells #[.int .i64 0, .int .i64 0, .string (⟨#[]⟩ : ByteArray)] 67 (0, 0))) := ⟨h2_⟩
              have n3_ : Aside0 (w100.heap[gb158]? = some (.cells #[.int .i64 0, .int .i64 0, .int .i64 0, .int .i64 0, .int .i64 0, .string (⟨#[]⟩ : ByteArray)] 61 (0, 0))) := ⟨h3_⟩
              have n4_ : Aside0 (w.heap.size ≤ gb157) := ⟨h4_⟩
              have n5_ : Aside0 (w.heap.size ≤ gb157) := ⟨h5_⟩
              have n6_ : Aside0 (gb134 ≠ gb157) := ⟨h6_⟩
              have n7_ : Aside0 (gb157 ≠ gb134) := ⟨h7_⟩
              have n8_ : Aside0 (gb135 ≠ gb157) := ⟨h8_⟩
              have n9_ : Aside0 (gb157 ≠ gb135) := ⟨h9_⟩
              have n10_ : Aside0 (gb158 ≠ gb157) := ⟨h10_⟩
              have n11_ : Aside0 (gb157 ≠ gb158) := ⟨h11_⟩
              have n12_ : Aside0 (w.heap.size ≤ gb158) := ⟨h12_⟩
              have n13_ : Aside0 (w.heap.size ≤ gb158) := ⟨h13_⟩
              have n14_ : Aside0 (gb134 ≠ gb158) := ⟨h14_⟩
              have n15_ : Aside0 (gb158 ≠ gb134) := ⟨h15_⟩
              have n16_ : Aside0 (gb135 ≠ gb158) := ⟨h16_⟩
              have n17_ : Aside0 (gb158 ≠ gb135) := ⟨h17_⟩
              have n18_ : Aside0 (Below w.heap.size w w100) := ⟨h18_⟩
              clear BK134
              clear BK135
              clear HB
              clear h0_ h1_ h2_ h3_ h4_ h5_ h6_ h7_ h8_ h9_ h10_ h11_ h12_ h13_ h14_ h15_ h16_ h17_ h18_
              have BK134 := n0_
              have BK135 := n1_
              have BK157 := n2_
              have BK158 := n3_
              have GW157 := n4_
              have GE157 := n5_
              have NB134_157 := n6_
              have NB157_134 := n7_
              have NB135_157 := n8_
              have NB157_135 := n9_
              have NB158_157 := n10_
              have NB157_158 := n11_
              have GW158 := n12_
              have GE158 := n13_
              have NB134_158 := n14_
              have NB158_134 := n15_
              have NB135_158 := n16_
              have NB158_135 := n17_
              have HB := n18_
              clear n0_ n1_ n2_ n3_ n4_ n5_ n6_ n7_ n8_ n9_ n10_ n11_ n12_ n13_ n14_ n15_ n16_ n17_ n18_
              have hHeld : w100.cell? ⟨gb134, 0, none⟩ = some (.int .i64 a0_0) ∧ w100.cell? ⟨gb134, 1, none⟩ = some (.int .i64 a0_1) ∧ w100.cell? ⟨gb134, 2, none⟩ = some (.string a0_2) ∧ w100.cell? ⟨gb135, 0, none⟩ = some (.int .i64 a1_0) ∧ w100.cell? ⟨gb135, 1, none⟩ = some (.int .i64 a1_1) ∧ w100.cell? ⟨gb135, 2, none⟩ = some (.int .i64 a1_2) ∧ w100.cell? ⟨gb135, 3, none⟩ = some (.int .i64 a1_3) ∧ w100.cell? ⟨gb135, 4, none⟩ = some (.int .i64 a1_4) ∧ w100.cell? ⟨gb135, 5, none⟩ = some (.string a1_5) := hS_
              refine norm_ (a' := ?_) ?_ ?_
              rotate_left
              ·simp only [putAll, Act.put, List.setIfInBounds_toArray, List.set_cons_zero, List.set_cons_succ]
               rfl
              refine one_ (i := 1) (N := some 24) #[true, true, true, false, false, false, false, false, false, true, true, false, false, false] rfl rfl (one_of HT_.out (by kernel_rfl)) (by decide) (fun K hK => ?_)
              refine goes_ Try.func47 (by kernel_rfl) rfl #[.agg #[.int .i64 a0_0, .int .i64 a0_1, .string a0_2]] (by rfl) rfl rfl (by (try simp only [List.map_toArray, List.map_cons, List.map_nil]); first|done|rfl|(simp only [List.length_drop, List.length_take]; rfl)) ?_
              with_reducible refine (laws_toVoice.calls a0_0 a0_1 a0_2 t138 t139 t140 _ A19.out).mono ?_
              rintro e w101 ⟨rfl, hb⟩
              refine ⟨_, rfl, ?_⟩
              have n0_ := Aside0.mk (zK (by exact BK134.out) hb)
              have n1_ := Aside0.mk (zK (by exact BK135.out) hb)
              have n2_ := Aside0.mk (zK (by exact BK157.out) hb)
              have n3_ := Aside0.mk (zK (by exact BK158.out) hb)
              have n4_ := Aside0.mk (zN (by repeat (first|(with_reducible first|exact HB.out|apply zI|apply zG|apply zH|refine zJ ?_ GE134.out|refine zJ ?_ GE135.out|refine zJ ?_ GE157.out|refine zJ ?_ GE158.out)|exact HB.out)) hb)
              clear BK134
              clear BK135
              clear BK157
              clear BK158
              clear HB
              have BK134 := n0_
              have BK135 := n1_
              have BK157 := n2_
              have BK158 := n3_
              have HB := n4_
              clear n0_ n1_ n2_ n3_ n4_
              (try clear hb)
              (try clear hb2)
              (try clear hk)
              (try clear hi)
              refine hK.out _ _ ⟨(zO BK134.out 0).trans rfl, (zO BK134.out 1).trans rfl, (zO BK134.out 2).trans rfl, (zO BK135.out 0).trans rfl, (zO BK135.out 1).trans rfl, (zO BK135.out 2).trans rfl, (zO BK135.out 3).trans rfl, (zO BK135.out 4).trans rfl, (zO BK135.out 5).trans rfl⟩ (fun hHeld => ?_)
              clear hK K
              refine norm_ (a' := ?_) ?_ ?_
              rotate_left
              ·show Act.put _ (some 24) _ = _
               simp only [Act.put, List.setIfInBounds_toArray, List.set_cons_zero, List.set_cons_succ, i64_w, i32_w]
               rfl
              exact norm_ (by first|(simp only [putAll, Act.put, List.setIfInBounds_toArray, List.set_cons_zero, List.set_cons_succ]; done)|(simp only [putAll, Act.put, List.setIfInBounds_toArray, List.set_cons_zero, List.set_cons_succ]; rfl)) (hJ1_9_10 (gb157, gb158) _ ⟨hHeld, (by (with_reducible repeat (first|refine zA ?_ _|refine zC ?_|refine zB ?_ _)); exact BK134.out), (by (with_reducible repeat (first|refine zA ?_ _|refine zC ?_|refine zB ?_ _)); exact BK135.out), (by (with_reducible repeat (first|refine zA ?_ _|refine zC ?_|refine zB ?_ _)); exact BK157.out), (by (with_reducible repeat (first|refine zA ?_ _|refine zC ?_|refine zB ?_ _)); exact BK158.out), GW157.out, GE157.out, NB134_157.out, NB157_134.out, NB135_157.out, NB157_135.out, NB158_157.out, NB157_158.out, GW158.out, GE158.out, NB134_158.out, NB158_134.out, NB135_158.out, NB158_135.out, (by repeat (first|(with_reducible first|exact HB.out|apply zI|apply zG|apply zH|refine zJ ?_ GE134.out|refine zJ ?_ GE135.out|refine zJ ?_ GE157.out|refine zJ ?_ GE158.out)|exact HB.out))⟩)
            ·skip
             rintro gb158 w100 ⟨hS_, h0_, h1_, h2_, h3_, h4_, h5_, h6_, h7_, h8_, h9_⟩
             have n0_ : Aside0 (w100.heap[gb134]? = some (.cells #[.int .i64 a0_0, .int .i64 a0_1, .string a0_2] 63 (0, 0))) := ⟨h0_⟩
             have n1_ : Aside0 (w100.heap[gb135]? = some (.cells #[.int .i64 a1_0, .int .i64 a1_1, .int .i64 a1_2, .int .i64 a1_3, .int .i64 a1_4, .string a1_5] 64 (0, 0))) := ⟨h1_⟩
             have n2_ : Aside0 (w100.heap[gb158]? = some (.cells #[.int .i64 0, .int .i64 0, .int .i64 0, .int .i64 0, .int .i64 0, .string (⟨#[]⟩ : ByteArray)] 61 (0, 0))) := ⟨h2_⟩
             have n3_ : Aside0 (w.heap.size ≤ gb158) := ⟨h3_⟩
             have n4_ : Aside0 (w.heap.size ≤ gb158) := ⟨h4_⟩
             have n5_ : Aside0 (gb134 ≠ gb158) := ⟨h5_⟩
             have n6_ : Aside0 (gb158 ≠ gb134) := ⟨h6_⟩
             have n7_ : Aside0 (gb135 ≠ gb158) := ⟨h7_⟩
             have n8_ : Aside0 (gb158 ≠ gb135) := ⟨h8_⟩
             have n9_ : Aside0 (Below w.heap.size w w100) := ⟨h9_⟩
             clear BK134
             clear BK135
             clear HB
             clear h0_ h1_ h2_ h3_ h4_ h5_ h6_ h7_ h8_ h9_
             have BK134 := n0_
             have BK135 := n1_
             have BK158 := n2_
             have GW158 := n3_
             have GE158 := n4_
             have NB134_158 := n5_
             have NB158_134 := n6_
             have NB135_158 := n7_
             have NB158_135 := n8_
             have HB := n9_
             clear n0_ n1_ n2_ n3_ n4_ n5_ n6_ n7_ n8_ n9_
             have hHeld : w100.cell? ⟨gb134, 0, none⟩ = some (.int .i64 a0_0) ∧ w100.cell? ⟨gb134, 1, none⟩ = some (.int .i64 a0_1) ∧ w100.cell? ⟨gb134, 2, none⟩ = some (.string a0_2) ∧ w100.cell? ⟨gb135, 0, none⟩ = some (.int .i64 a1_0) ∧ w100.cell? ⟨gb135, 1, none⟩ = some (.int .i64 a1_1) ∧ w100.cell? ⟨gb135, 2, none⟩ = some (.int .i64 a1_2) ∧ w100.cell? ⟨gb135, 3, none⟩ = some (.int .i64 a1_3) ∧ w100.cell? ⟨gb135, 4, none⟩ = some (.int .i64 a1_4) ∧ w100.cell? ⟨gb135, 5, none⟩ = some (.string a1_5) := hS_
             refine norm_ (a' := ?_) ?_ ?_
             rotate_left
             ·simp only [putAll, Act.put, List.setIfInBounds_toArray, List.set_cons_zero, List.set_cons_succ]
              rfl
             refine two_ (i := 3) (j := 9) (Ni := some 26) (Nj := some 6) #[true, true, true, true, false, false, false, false, false, false, true, false, false, false] #[true, true, true, false, false, false, false, false, false, true, true, false, false, false] rfl rfl rfl rfl (two_of HT_.out (by kernel_rfl)) (by decide) (by decide) (fun K hK => ?_) (fun K hK => ?_)
             ·skip
              refine goes_ Try.func48 (by kernel_rfl) rfl #[.agg #[.int .i64 a1_0, .int .i64 a1_1, .int .i64 a1_2, .int .i64 a1_3, .int .i64 a1_4, .string a1_5]] (by rfl) rfl rfl (by (try simp only [List.map_toArray, List.map_cons, List.map_nil]); first|done|rfl|(simp only [List.length_drop, List.length_take]; rfl)) ?_
              with_reducible refine (laws_toNote.calls a1_0 a1_1 a1_2 a1_3 a1_4 a1_5 t141 t142 t143 t144 t145 t146 _ A20.out).mono ?_
              rintro e w101 ⟨rfl, hb⟩
              refine ⟨_, rfl, ?_⟩
              have n0_ := Aside0.mk (zK (by exact BK134.out) hb)
              have n1_ := Aside0.mk (zK (by exact BK135.out) hb)
              have n2_ := Aside0.mk (zK (by exact BK158.out) hb)
              have n3_ := Aside0.mk (zN (by repeat (first|(with_reducible first|exact HB.out|apply zI|apply zG|apply zH|refine zJ ?_ GE134.out|refine zJ ?_ GE135.out|refine zJ ?_ GE158.out)|exact HB.out)) hb)
              clear BK134
              clear BK135
              clear BK158
              clear HB
              have BK134 := n0_
              have BK135 := n1_
              have BK158 := n2_
              have HB := n3_
              clear n0_ n1_ n2_ n3_
              (try clear hb)
              (try clear hb2)
              (try clear hk)
              (try clear hi)
              refine hK.out _ _ ⟨(zO BK134.out 0).trans rfl, (zO BK134.out 1).trans rfl, (zO BK134.out 2).trans rfl, (zO BK135.out 0).trans rfl, (zO BK135.out 1).trans rfl, (zO BK135.out 2).trans rfl, (zO BK135.out 3).trans rfl, (zO BK135.out 4).trans rfl, (zO BK135.out 5).trans rfl⟩ (fun hHeld => ?_)
              clear hK K
              refine norm_ (a' := ?_) ?_ ?_
              rotate_left
              ·show Act.put _ (some 26) _ = _
               simp only [Act.put, List.setIfInBounds_toArray, List.set_cons_zero, List.set_cons_succ, i64_w, i32_w]
               rfl
              exact norm_ (by first|(simp only [putAll, Act.put, List.setIfInBounds_toArray, List.set_cons_zero, List.set_cons_succ]; done)|(simp only [putAll, Act.put, List.setIfInBounds_toArray, List.set_cons_zero, List.set_cons_succ]; rfl)) (hJ1_3_10 (gb158) _ ⟨hHeld, (by (with_reducible repeat (first|refine zA ?_ _|refine zC ?_|refine zB ?_ _)); exact BK134.out), (by (with_reducible repeat (first|refine zA ?_ _|refine zC ?_|refine zB ?_ _)); exact BK135.out), (by (with_reducible repeat (first|refine zA ?_ _|refine zC ?_|refine zB ?_ _)); exact BK158.out), GW158.out, GE158.out, NB134_158.out, NB158_134.out, NB135_158.out, NB158_135.out, (by repeat (first|(with_reducible first|exact HB.out|apply zI|apply zG|apply zH|refine zJ ?_ GE134.out|refine zJ ?_ GE135.out|refine zJ ?_ GE158.out)|exact HB.out))⟩)
             ·skip
              refine box_step ?hg (N := 6) ?hd (cs := #[.int .i64 0, .int .i64 0, .string (⟨#[]⟩ : ByteArray)]) (t := 67) ?hr ?_; (case hd => rfl); (case hg => rfl); (case hr => first|(go_simp; done)|(go_simp; rfl))
              intro gb157 hg w101 hbox hb
              have n0_ := Aside0.mk (zK (by exact BK134.out) hb)
              have n1_ := Aside0.mk (zK (by exact BK135.out) hb)
              have n2_ := Aside0.mk (zK (by exact BK158.out) hb)
              have n3_ := Aside0.mk (zN (by repeat (first|(with_reducible first|exact HB.out|apply zI|apply zG|apply zH|refine zJ ?_ GE134.out|refine zJ ?_ GE135.out|refine zJ ?_ GE158.out)|exact HB.out)) hb)
              have n4_ := Aside0.mk (hbox)
              have n5_ := Aside0.mk ((by rw [hg]; exact (below_size (by repeat (first|(with_reducible first|exact HB.out|apply zI|apply zG|apply zH|refine zJ ?_ GE134.out|refine zJ ?_ GE135.out|refine zJ ?_ GE158.out)|exact HB.out))) : w.heap.size ≤ gb157))
              have n6_ := Aside0.mk ((by rw [hg]; exact (below_size (by repeat (first|(with_reducible first|exact HB.out|apply zI|apply zG|apply zH|refine zJ ?_ GE134.out|refine zJ ?_ GE135.out|refine zJ ?_ GE158.out)|exact HB.out))) : w.heap.size ≤ gb157))
              have n7_ := Aside0.mk ((by rw [hg]; exact Nat.ne_of_lt (blk_lt (g := gb134) (o := .cells #[.int .i64 a0_0, .int .i64 a0_1, .string a0_2] 63 (0, 0)) (by (with_reducible repeat (first|refine zA ?_ _|refine zC ?_|refine zB ?_ _)); exact BK134.out)) : gb134 ≠ gb157))
              have n8_ := Aside0.mk ((by rw [hg]; exact Nat.ne_of_gt (blk_lt (g := gb134) (o := .cells #[.int .i64 a0_0, .int .i64 a0_1, .string a0_2] 63 (0, 0)) (by (with_reducible repeat (first|refine zA ?_ _|refine zC ?_|refine zB ?_ _)); exact BK134.out)) : gb157 ≠ gb134))
              have n9_ := Aside0.mk ((by rw [hg]; exact Nat.ne_of_lt (blk_lt (g := gb135) (o := .cells #[.int .i64 a1_0, .int .i64 a1_1, .int .i64 a1_2, .int .i64 a1_3, .int .i64 a1_4, .string a1_5] 64 (0, 0)) (by (with_reducible repeat (first|refine zA ?_ _|refine zC ?_|refine zB ?_ _)); exact BK135.out)) : gb135 ≠ gb157))
              have n10_ := Aside0.mk ((by rw [hg]; exact Nat.ne_of_gt (blk_lt (g := gb135) (o := .cells #[.int .i64 a1_0, .int .i64 a1_1, .int .i64 a1_2, .int .i64 a1_3, .int .i64 a1_4, .string a1_5] 64 (0, 0)) (by (with_reducible repeat (first|refine zA ?_ _|refine zC ?_|refine zB ?_ _)); exact BK135.out)) : gb157 ≠ gb135))
              have n11_ := Aside0.mk ((by rw [hg]; exact Nat.ne_of_lt (blk_lt (g := gb158) (o := .cells #[.int .i64 0, .int .i64 0, .int .i64 0, .int .i64 0, .int .i64 0, .string (⟨#[]⟩ : ByteArray)] 61 (0, 0)) (by (with_reducible repeat (first|refine zA ?_ _|refine zC ?_|refine zB ?_ _)); exact BK158.out)) : gb158 ≠ gb157))
              have n12_ := Aside0.mk ((by rw [hg]; exact Nat.ne_of_gt (blk_lt (g := gb158) (o := .cells #[.int .i64 0, .int .i64 0, .int .i64 0, .int .i64 0, .int .i64 0, .string (⟨#[]⟩ : ByteArray)] 61 (0, 0)) (by (with_reducible repeat (first|refine zA ?_ _|refine zC ?_|refine zB ?_ _)); exact BK158.out)) : gb157 ≠ gb158))
              clear BK134
              clear BK135
              clear BK158
              clear HB
              have BK134 := n0_
              have BK135 := n1_
              have BK158 := n2_
              have HB := n3_
              have BK157 := n4_
              have GW157 := n5_
              have GE157 := n6_
              have NB134_157 := n7_
              have NB157_134 := n8_
              have NB135_157 := n9_
              have NB157_135 := n10_
              have NB158_157 := n11_
              have NB157_158 := n12_
              clear n0_ n1_ n2_ n3_ n4_ n5_ n6_ n7_ n8_ n9_ n10_ n11_ n12_
              clear hb hbox hg
              refine hK.out _ _ ⟨(zO BK134.out 0).trans rfl, (zO BK134.out 1).trans rfl, (zO BK134.out 2).trans rfl, (zO BK135.out 0).trans rfl, (zO BK135.out 1).trans rfl, (zO BK135.out 2).trans rfl, (zO BK135.out 3).trans rfl, (zO BK135.out 4).trans rfl, (zO BK135.out 5).trans rfl⟩ (fun hHeld => ?_)
              clear hK K
              refine norm_ (a' := ?_) ?_ ?_
              rotate_left
              ·show Act.put _ (some 6) _ = _
               simp only [Act.put, List.setIfInBounds_toArray, List.set_cons_zero, List.set_cons_succ, i64_w, i32_w]
               rfl
              exact norm_ (by first|(simp only [putAll, Act.put, List.setIfInBounds_toArray, List.set_cons_zero, List.set_cons_succ]; done)|(simp only [putAll, Act.put, List.setIfInBounds_toArray, List.set_cons_zero, List.set_cons_succ]; rfl)) (hJ1_9_10 (gb157, gb158) _ ⟨hHeld, (by (with_reducible repeat (first|refine zA ?_ _|refine zC ?_|refine zB ?_ _)); exact BK134.out), (by (with_reducible repeat (first|refine zA ?_ _|refine zC ?_|refine zB ?_ _)); exact BK135.out), (by (with_reducible repeat (first|refine zA ?_ _|refine zC ?_|refine zB ?_ _)); exact BK157.out), (by (with_reducible repeat (first|refine zA ?_ _|refine zC ?_|refine zB ?_ _)); exact BK158.out), GW157.out, GE157.out, NB134_157.out, NB157_134.out, NB135_157.out, NB157_135.out, NB158_157.out, NB157_158.out, GW158.out, GE158.out, NB134_158.out, NB158_134.out, NB135_158.out, NB158_135.out, (by repeat (first|(with_reducible first|exact HB.out|apply zI|apply zG|apply zH|refine zJ ?_ GE134.out|refine zJ ?_ GE135.out|refine zJ ?_ GE158.out|refine zJ ?_ GE157.out)|exact HB.out))⟩)
           ·skip
            rintro gb157 w100 ⟨hS_, h0_, h1_, h2_, h3_, h4_, h5_, h6_, h7_, h8_, h9_⟩
            have n0_ : Aside0 (w100.heap[gb134]? = some (.cells #[.int .i64 a0_0, .int .i64 a0_1, .string a0_2] 63 (0, 0))) := ⟨h0_⟩
            have n1_ : Aside0 (w100.heap[gb135]? = some (.cells #[.int .i64 a1_0, .int .i64 a1_1, .int .i64 a1_2, .int .i64 a1_3, .int .i64 a1_4, .string a1_5] 64 (0, 0))) := ⟨h1_⟩
            have n2_ : Aside0 (w100.heap[gb157]? = some (.cells #[.int .i64 0, .int .i64 0, .string (⟨#[]⟩ : ByteArray)] 67 (0, 0))) := ⟨h2_⟩
            have n3_ : Aside0 (w.heap.size ≤ gb157) := ⟨h3_⟩
            have n4_ : Aside0 (w.heap.size ≤ gb157) := ⟨h4_⟩
            have n5_ : Aside0 (gb134 ≠ gb157) := ⟨h5_⟩
            have n6_ : Aside0 (gb157 ≠ gb134) := ⟨h6_⟩
            have n7_ : Aside0 (gb135 ≠ gb157) := ⟨h7_⟩
            have n8_ : Aside0 (gb157 ≠ gb135) := ⟨h8_⟩
            have n9_ : Aside0 (Below w.heap.size w w100) := ⟨h9_⟩
            clear BK134
            clear BK135
            clear HB
            clear h0_ h1_ h2_ h3_ h4_ h5_ h6_ h7_ h8_ h9_
            have BK134 := n0_
            have BK135 := n1_
            have BK157 := n2_
            have GW157 := n3_
            have GE157 := n4_
            have NB134_157 := n5_
            have NB157_134 := n6_
            have NB135_157 := n7_
            have NB157_135 := n8_
            have HB := n9_
            clear n0_ n1_ n2_ n3_ n4_ n5_ n6_ n7_ n8_ n9_
            have hHeld : w100.cell? ⟨gb134, 0, none⟩ = some (.int .i64 a0_0) ∧ w100.cell? ⟨gb134, 1, none⟩ = some (.int .i64 a0_1) ∧ w100.cell? ⟨gb134, 2, none⟩ = some (.string a0_2) ∧ w100.cell? ⟨gb135, 0, none⟩ = some (.int .i64 a1_0) ∧ w100.cell? ⟨gb135, 1, none⟩ = some (.int .i64 a1_1) ∧ w100.cell? ⟨gb135, 2, none⟩ = some (.int .i64 a1_2) ∧ w100.cell? ⟨gb135, 3, none⟩ = some (.int .i64 a1_3) ∧ w100.cell? ⟨gb135, 4, none⟩ = some (.int .i64 a1_4) ∧ w100.cell? ⟨gb135, 5, none⟩ = some (.string a1_5) := hS_
            refine norm_ (a' := ?_) ?_ ?_
            rotate_left
            ·simp only [putAll, Act.put, List.setIfInBounds_toArray, List.set_cons_zero, List.set_cons_succ]
             rfl
            refine two_ (i := 3) (j := 10) (Ni := some 26) (Nj := some 7) #[true, true, true, true, false, false, false, false, false, true, false, false, false, false] #[true, true, true, false, false, false, false, false, false, true, true, false, false, false] rfl rfl rfl rfl (two_of HT_.out (by kernel_rfl)) (by decide) (by decide) (fun K hK => ?_) (fun K hK => ?_)
            ·skip
             refine goes_ Try.func48 (by kernel_rfl) rfl #[.agg #[.int .i64 a1_0, .int .i64 a1_1, .int .i64 a1_2, .int .i64 a1_3, .int .i64 a1_4, .string a1_5]] (by rfl) rfl rfl (by (try simp only [List.map_toArray, List.map_cons, List.map_nil]); first|done|rfl|(simp only [List.length_drop, List.length_take]; rfl)) ?_
             with_reducible refine (laws_toNote.calls a1_0 a1_1 a1_2 a1_3 a1_4 a1_5 t141 t142 t143 t144 t145 t146 _ A20.out).mono ?_
             rintro e w101 ⟨rfl, hb⟩
             refine ⟨_, rfl, ?_⟩
             have n0_ := Aside0.mk (zK (by exact BK134.out) hb)
             have n1_ := Aside0.mk (zK (by exact BK135.out) hb)
             have n2_ := Aside0.mk (zK (by exact BK157.out) hb)
             have n3_ := Aside0.mk (zN (by repeat (first|(with_reducible first|exact HB.out|apply zI|apply zG|apply zH|refine zJ ?_ GE134.out|refine zJ ?_ GE135.out|refine zJ ?_ GE157.out)|exact HB.out)) hb)
             clear BK134
             clear BK135
             clear BK157
             clear HB
             have BK134 := n0_
             have BK135 := n1_
             have BK157 := n2_
             have HB := n3_
             clear n0_ n1_ n2_ n3_
             (try clear hb)
             (try clear hb2)
             (try clear hk)
             (try clear hi)
             refine hK.out _ _ ⟨(zO BK134.out 0).trans rfl, (zO BK134.out 1).trans rfl, (zO BK134.out 2).trans rfl, (zO BK135.out 0).trans rfl, (zO BK135.out 1).trans rfl, (zO BK135.out 2).trans rfl, (zO BK135.out 3).trans rfl, (zO BK135.out 4).trans rfl, (zO BK135.out 5).trans rfl⟩ (fun hHeld => ?_)
             clear hK K
             refine norm_ (a' := ?_) ?_ ?_
             rotate_left
             ·show Act.put _ (some 26) _ = _
              simp only [Act.put, List.setIfInBounds_toArray, List.set_cons_zero, List.set_cons_succ, i64_w, i32_w]
              rfl
             exact norm_ (by first|(simp only [putAll, Act.put, List.setIfInBounds_toArray, List.set_cons_zero, List.set_cons_succ]; done)|(simp only [putAll, Act.put, List.setIfInBounds_toArray, List.set_cons_zero, List.set_cons_succ]; rfl)) (hJ1_3_9 (gb157) _ ⟨hHeld, (by (with_reducible repeat (first|refine zA ?_ _|refine zC ?_|refine zB ?_ _)); exact BK134.out), (by (with_reducible repeat (first|refine zA ?_ _|refine zC ?_|refine zB ?_ _)); exact BK135.out), (by (with_reducible repeat (first|refine zA ?_ _|refine zC ?_|refine zB ?_ _)); exact BK157.out), GW157.out, GE157.out, NB134_157.out, NB157_134.out, NB135_157.out, NB157_135.out, (by repeat (first|(with_reducible first|exact HB.out|apply zI|apply zG|apply zH|refine zJ ?_ GE134.out|refine zJ ?_ GE135.out|refine zJ ?_ GE157.out)|exact HB.out))⟩)
            ·skip
             refine box_step ?hg (N := 7) ?hd (cs := #[.int .i64 0, .int .i64 0, .int .i64 0, .int .i64 0, .int .i64 0, .string (⟨#[]⟩ : ByteArray)]) (t := 61) ?hr ?_; (case hd => rfl); (case hg => rfl); (case hr => first|(go_simp; done)|(go_simp; rfl))
             intro gb158 hg w101 hbox hb
             have n0_ := Aside0.mk (zK (by exact BK134.out) hb)
             have n1_ := Aside0.mk (zK (by exact BK135.out) hb)
             have n2_ := Aside0.mk (zK (by exact BK157.out) hb)
             have n3_ := Aside0.mk (zN (by repeat (first|(with_reducible first|exact HB.out|apply zI|apply zG|apply zH|refine zJ ?_ GE134.out|refine zJ ?_ GE135.out|refine zJ ?_ GE157.out)|exact HB.out)) hb)
             have n4_ := Aside0.mk (hbox)
             have n5_ := Aside0.mk ((by rw [hg]; exact (below_size (by repeat (first|(with_reducible first|exact HB.out|apply zI|apply zG|apply zH|refine zJ ?_ GE134.out|refine zJ ?_ GE135.out|refine zJ ?_ GE157.out)|exact HB.out))) : w.heap.size ≤ gb158))
             have n6_ := Aside0.mk ((by rw [hg]; exact (below_size (by repeat (first|(with_reducible first|exact HB.out|apply zI|apply zG|apply zH|refine zJ ?_ GE134.out|refine zJ ?_ GE135.out|refine zJ ?_ GE157.out)|exact HB.out))) : w.heap.size ≤ gb158))
             have n7_ := Aside0.mk ((by rw [hg]; exact Nat.ne_of_lt (blk_lt (g := gb134) (o := .cells #[.int .i64 a0_0, .int .i64 a0_1, .string a0_2] 63 (0, 0)) (by (with_reducible repeat (first|refine zA ?_ _|refine zC ?_|refine zB ?_ _)); exact BK134.out)) : gb134 ≠ gb158))
             have n8_ := Aside0.mk ((by rw [hg]; exact Nat.ne_of_gt (blk_lt (g := gb134) (o := .cells #[.int .i64 a0_0, .int .i64 a0_1, .string a0_2] 63 (0, 0)) (by (with_reducible repeat (first|refine zA ?_ _|refine zC ?_|refine zB ?_ _)); exact BK134.out)) : gb158 ≠ gb134))
             have n9_ := Aside0.mk ((by rw [hg]; exact Nat.ne_of_lt (blk_lt (g := gb135) (o := .cells #[.int .i64 a1_0, .int .i64 a1_1, .int .i64 a1_2, .int .i64 a1_3, .int .i64 a1_4, .string a1_5] 64 (0, 0)) (by (with_reducible repeat (first|refine zA ?_ _|refine zC ?_|refine zB ?_ _)); exact BK135.out)) : gb135 ≠ gb158))
             have n10_ := Aside0.mk ((by rw [hg]; exact Nat.ne_of_gt (blk_lt (g := gb135) (o := .cells #[.int .i64 a1_0, .int .i64 a1_1, .int .i64 a1_2, .int .i64 a1_3, .int .i64 a1_4, .string a1_5] 64 (0, 0)) (by (with_reducible repeat (first|refine zA ?_ _|refine zC ?_|refine zB ?_ _)); exact BK135.out)) : gb158 ≠ gb135))
             have n11_ := Aside0.mk ((by rw [hg]; exact Nat.ne_of_lt (blk_lt (g := gb157) (o := .cells #[.int .i64 0, .int .i64 0, .string (⟨#[]⟩ : ByteArray)] 67 (0, 0)) (by (with_reducible repeat (first|refine zA ?_ _|refine zC ?_|refine zB ?_ _)); exact BK157.out)) : gb157 ≠ gb158))
             have n12_ := Aside0.mk ((by rw [hg]; exact Nat.ne_of_gt (blk_lt (g := gb157) (o := .cells #[.int .i64 0, .int .i64 0, .string (⟨#[]⟩ : ByteArray)] 67 (0, 0)) (by (with_reducible repeat (first|refine zA ?_ _|refine zC ?_|refine zB ?_ _)); exact BK157.out)) : gb158 ≠ gb157))
             clear BK134
             clear BK135
             clear BK157
             clear HB
             have BK134 := n0_
             have BK135 := n1_
             have BK157 := n2_
             have HB := n3_
             have BK158 := n4_
             have GW158 := n5_
             have GE158 := n6_
             have NB134_158 := n7_
             have NB158_134 := n8_
             have NB135_158 := n9_
             have NB158_135 := n10_
             have NB157_158 := n11_
             have NB158_157 := n12_
             clear n0_ n1_ n2_ n3_ n4_ n5_ n6_ n7_ n8_ n9_ n10_ n11_ n12_
             clear hb hbox hg
             refine hK.out _ _ ⟨(zO BK134.out 0).trans rfl, (zO BK134.out 1).trans rfl, (zO BK134.out 2).trans rfl, (zO BK135.out 0).trans rfl, (zO BK135.out 1).trans rfl, (zO BK135.out 2).trans rfl, (zO BK135.out 3).trans rfl, (zO BK135.out 4).trans rfl, (zO BK135.out 5).trans rfl⟩ (fun hHeld => ?_)
             clear hK K
             refine norm_ (a' := ?_) ?_ ?_
             rotate_left
             ·show Act.put _ (some 7) _ = _
              simp only [Act.put, List.setIfInBounds_toArray, List.set_cons_zero, List.set_cons_succ, i64_w, i32_w]
              rfl
             exact norm_ (by first|(simp only [putAll, Act.put, List.setIfInBounds_toArray, List.set_cons_zero, List.set_cons_succ]; done)|(simp only [putAll, Act.put, List.setIfInBounds_toArray, List.set_cons_zero, List.set_cons_succ]; rfl)) (hJ1_9_10 (gb157, gb158) _ ⟨hHeld, (by (with_reducible repeat (first|refine zA ?_ _|refine zC ?_|refine zB ?_ _)); exact BK134.out), (by (with_reducible repeat (first|refine zA ?_ _|refine zC ?_|refine zB ?_ _)); exact BK135.out), (by (with_reducible repeat (first|refine zA ?_ _|refine zC ?_|refine zB ?_ _)); exact BK157.out), (by (with_reducible repeat (first|refine zA ?_ _|refine zC ?_|refine zB ?_ _)); exact BK158.out), GW157.out, GE157.out, NB134_157.out, NB157_134.out, NB135_157.out, NB157_135.out, NB158_157.out, NB157_158.out, GW158.out, GE158.out, NB134_158.out, NB158_134.out, NB135_158.out, NB158_135.out, (by repeat (first|(with_reducible first|exact HB.out|apply zI|apply zG|apply zH|refine zJ ?_ GE134.out|refine zJ ?_ GE135.out|refine zJ ?_ GE157.out|refine zJ ?_ GE158.out)|exact HB.out))⟩)
          ·skip
           rintro _ w100 ⟨hS_, h0_, h1_, h2_⟩
           have n0_ : Aside0 (w100.heap[gb134]? = some (.cells #[.int .i64 a0_0, .int .i64 a0_1, .string a0_2] 63 (0, 0))) := ⟨h0_⟩
           have n1_ : Aside0 (w100.heap[gb135]? = some (.cells #[.int .i64 a1_0, .int .i64 a1_1, .int .i64 a1_2, .int .i64 a1_3, .int .i64 a1_4, .string a1_5] 64 (0, 0))) := ⟨h1_⟩
           have n2_ : Aside0 (Below w.heap.size w w100) := ⟨h2_⟩
           clear BK134
           clear BK135
           clear HB
           clear h0_ h1_ h2_
           have BK134 := n0_
           have BK135 := n1_
           have HB := n2_
           clear n0_ n1_ n2_
           have hHeld : w100.cell? ⟨gb134, 0, none⟩ = some (.int .i64 a0_0) ∧ w100.cell? ⟨gb134, 1, none⟩ = some (.int .i64 a0_1) ∧ w100.cell? ⟨gb134, 2, none⟩ = some (.string a0_2) ∧ w100.cell? ⟨gb135, 0, none⟩ = some (.int .i64 a1_0) ∧ w100.cell? ⟨gb135, 1, none⟩ = some (.int .i64 a1_1) ∧ w100.cell? ⟨gb135, 2, none⟩ = some (.int .i64 a1_2) ∧ w100.cell? ⟨gb135, 3, none⟩ = some (.int .i64 a1_3) ∧ w100.cell? ⟨gb135, 4, none⟩ = some (.int .i64 a1_4) ∧ w100.cell? ⟨gb135, 5, none⟩ = some (.string a1_5) := hS_
           refine norm_ (a' := ?_) ?_ ?_
           rotate_left
           ·simp only [putAll, Act.put, List.setIfInBounds_toArray, List.set_cons_zero, List.set_cons_succ]
            rfl
           refine three_ (i := 4) (j := 9) (k := 10) (Ni := some 27) (Nj := some 6) (Nk := some 7) #[true, true, true, true, true, false, false, false, false, false, false, false, false, false] #[true, true, true, true, false, false, false, false, false, true, false, false, false, false] #[true, true, true, true, false, false, false, false, false, false, true, false, false, false] rfl rfl rfl rfl rfl rfl (three_of HT_.out (by kernel_rfl)) (by decide) (by decide) (by decide) (fun K hK => ?_) (fun K hK => ?_) (fun K hK => ?_)
           ·skip
            refine goes_ Try.func46 (by kernel_rfl) rfl #[.agg #[.int .i64 t138, .int .i64 t139, .string t140], .agg #[.int .i64 t141, .int .i64 t142, .int .i64 t143, .int .i64 t144, .int .i64 t145, .string t146]] (by rfl) rfl rfl (by (try simp only [List.map_toArray, List.map_cons, List.map_nil]); first|done|rfl|(simp only [List.length_drop, List.length_take]; rfl)) ?_
            with_reducible refine (spec_HearNote.calls k t138 t139 t140 t141 t142 t143 t144 t145 t146 t147 t148 t149 t150 t151 t152 t153 t154 t155 t156 _ A21.out).mono ?_
            rintro e w101 ⟨rfl, hb⟩
            refine ⟨_, rfl, ?_⟩
            have n0_ := Aside0.mk (zK (by exact BK134.out) hb)
            have n1_ := Aside0.mk (zK (by exact BK135.out) hb)
            have n2_ := Aside0.mk (zN (by repeat (first|(with_reducible first|exact HB.out|apply zI|apply zG|apply zH|refine zJ ?_ GE134.out|refine zJ ?_ GE135.out)|exact HB.out)) hb)
            clear BK134
            clear BK135
            clear HB
            have BK134 := n0_
            have BK135 := n1_
            have HB := n2_
            clear n0_ n1_ n2_
            (try clear hb)
            (try clear hb2)
            (try clear hk)
            (try clear hi)
            refine hK.out _ _ ⟨(zO BK134.out 0).trans rfl, (zO BK134.out 1).trans rfl, (zO BK134.out 2).trans rfl, (zO BK135.out 0).trans rfl, (zO BK135.out 1).trans rfl, (zO BK135.out 2).trans rfl, (zO BK135.out 3).trans rfl, (zO BK135.out 4).trans rfl, (zO BK135.out 5).trans rfl⟩ (fun hHeld => ?_)
            clear hK K
            refine norm_ (a' := ?_) ?_ ?_
            rotate_left
            ·show Act.put _ (some 27) _ = _
             simp only [Act.put, List.setIfInBounds_toArray, List.set_cons_zero, List.set_cons_succ, i64_w, i32_w]
             rfl
            refine pure_ (i := 5) (N := some 22) (v := ?_) (a' := ?_) #[true, true, true, true, true, true, false, false, false, false, false, false, false, false] rfl rfl (any_of HT_.out (by kernel_rfl)) (fun _ _ _ h => h) (Or.inl ⟨by rfl, ?_⟩) ?_ ?_
            rotate_left
            ·intro w'
             go_simp
             with_reducible rfl
            rotate_left
            ·simp only [Act.put, List.setIfInBounds_toArray, List.set_cons_zero, List.set_cons_succ, i64_w, i32_w]
             rfl
            refine pure_ (i := 6) (N := some 28) (v := ?_) (a' := ?_) #[true, true, true, true, true, true, true, false, false, false, false, false, false, false] rfl rfl (any_of HT_.out (by kernel_rfl)) (fun _ _ _ h => h) (Or.inl ⟨by rfl, ?_⟩) ?_ ?_
            rotate_left
            ·intro w'
             go_simp
             with_reducible rfl
            rotate_left
            ·simp only [Act.put, List.setIfInBounds_toArray, List.set_cons_zero, List.set_cons_succ, i64_w, i32_w]
             rfl
            refine pure_ (i := 7) (N := some 29) (v := ?_) (a' := ?_) #[true, true, true, true, true, true, true, true, false, false, false, false, false, false] rfl rfl (any_of HT_.out (by kernel_rfl)) (fun _ _ _ h => h) (Or.inl ⟨by rfl, ?_⟩) ?_ ?_
            rotate_left
            ·intro w'
             go_simp
             with_reducible rfl
            rotate_left
            ·simp only [Act.put, List.setIfInBounds_toArray, List.set_cons_zero, List.set_cons_succ, i64_w, i32_w]
             rfl
            refine pure_ (i := 8) (N := some 30) (v := ?_) (a' := ?_) #[true, true, true, true, true, true, true, true, true, false, false, false, false, false] rfl rfl (any_of HT_.out (by kernel_rfl)) (fun _ _ _ h => h) (Or.inl ⟨by rfl, ?_⟩) ?_ ?_
            rotate_left
            ·intro w'
             go_simp
             with_reducible rfl
            rotate_left
            ·simp only [Act.put, List.setIfInBounds_toArray, List.set_cons_zero, List.set_cons_succ, i64_w, i32_w]
             rfl
            exact norm_ (by first|(simp only [putAll, Act.put, List.setIfInBounds_toArray, List.set_cons_zero, List.set_cons_succ]; done)|(simp only [putAll, Act.put, List.setIfInBounds_toArray, List.set_cons_zero, List.set_cons_succ]; rfl)) (hJ1_3_4 () _ ⟨hHeld, (by (with_reducible repeat (first|refine zA ?_ _|refine zC ?_|refine zB ?_ _)); exact BK134.out), (by (with_reducible repeat (first|refine zA ?_ _|refine zC ?_|refine zB ?_ _)); exact BK135.out), (by repeat (first|(with_reducible first|exact HB.out|apply zI|apply zG|apply zH|refine zJ ?_ GE134.out|refine zJ ?_ GE135.out)|exact HB.out))⟩)
           ·skip
            refine box_step ?hg (N := 6) ?hd (cs := #[.int .i64 0, .int .i64 0, .string (⟨#[]⟩ : ByteArray)]) (t := 67) ?hr ?_; (case hd => rfl); (case hg => rfl); (case hr => first|(go_simp; done)|(go_simp; rfl))
            intro gb157 hg w101 hbox hb
            have n0_ := Aside0.mk (zK (by exact BK134.out) hb)
            have n1_ := Aside0.mk (zK (by exact BK135.out) hb)
            have n2_ := Aside0.mk (zN (by repeat (first|(with_reducible first|exact HB.out|apply zI|apply zG|apply zH|refine zJ ?_ GE134.out|refine zJ ?_ GE135.out)|exact HB.out)) hb)
            have n3_ := Aside0.mk (hbox)
            have n4_ := Aside0.mk ((by rw [hg]; exact (below_size (by repeat (first|(with_reducible first|exact HB.out|apply zI|apply zG|apply zH|refine zJ ?_ GE134.out|refine zJ ?_ GE135.out)|exact HB.out))) : w.heap.size ≤ gb157))
            have n5_ := Aside0.mk ((by rw [hg]; exact (below_size (by repeat (first|(with_reducible first|exact HB.out|apply zI|apply zG|apply zH|refine zJ ?_ GE134.out|refine zJ ?_ GE135.out)|exact HB.out))) : w.heap.size ≤ gb157))
            have n6_ := Aside0.mk ((by rw [hg]; exact Nat.ne_of_lt (blk_lt (g := gb134) (o := .cells #[.int .i64 a0_0, .int .i64 a0_1, .string a0_2] 63 (0, 0)) (by (with_reducible repeat (first|refine zA ?_ _|refine zC ?_|refine zB ?_ _)); exact BK134.out)) : gb134 ≠ gb157))
            have n7_ := Aside0.mk ((by rw [hg]; exact Nat.ne_of_gt (blk_lt (g := gb134) (o := .cells #[.int .i64 a0_0, .int .i64 a0_1, .string a0_2] 63 (0, 0)) (by (with_reducible repeat (first|refine zA ?_ _|refine zC ?_|refine zB ?_ _)); exact BK134.out)) : gb157 ≠ gb134))
            have n8_ := Aside0.mk ((by rw [hg]; exact Nat.ne_of_lt (blk_lt (g := gb135) (o := .cells #[.int .i64 a1_0, .int .i64 a1_1, .int .i64 a1_2, .int .i64 a1_3, .int .i64 a1_4, .string a1_5] 64 (0, 0)) (by (with_reducible repeat (first|refine zA ?_ _|refine zC ?_|refine zB ?_ _)); exact BK135.out)) : gb135 ≠ gb157))
            have n9_ := Aside0.mk ((by rw [hg]; exact Nat.ne_of_gt (blk_lt (g := gb135) (o := .cells #[.int .i64 a1_0, .int .i64 a1_1, .int .i64 a1_2, .int .i64 a1_3, .int .i64 a1_4, .string a1_5] 64 (0, 0)) (by (with_reducible repeat (first|refine zA ?_ _|refine zC ?_|refine zB ?_ _)); exact BK135.out)) : gb157 ≠ gb135))
            clear BK134
            clear BK135
            clear HB
            have BK134 := n0_
            have BK135 := n1_
            have HB := n2_
            have BK157 := n3_
            have GW157 := n4_
            have GE157 := n5_
            have NB134_157 := n6_
            have NB157_134 := n7_
            have NB135_157 := n8_
            have NB157_135 := n9_
            clear n0_ n1_ n2_ n3_ n4_ n5_ n6_ n7_ n8_ n9_
            clear hb hbox hg
            refine hK.out _ _ ⟨(zO BK134.out 0).trans rfl, (zO BK134.out 1).trans rfl, (zO BK134.out 2).trans rfl, (zO BK135.out 0).trans rfl, (zO BK135.out 1).trans rfl, (zO BK135.out 2).trans rfl, (zO BK135.out 3).trans rfl, (zO BK135.out 4).trans rfl, (zO BK135.out 5).trans rfl⟩ (fun hHeld => ?_)
            clear hK K
            refine norm_ (a' := ?_) ?_ ?_
            rotate_left
            ·show Act.put _ (some 6) _ = _
             simp only [Act.put, List.setIfInBounds_toArray, List.set_cons_zero, List.set_cons_succ, i64_w, i32_w]
             rfl
            exact norm_ (by first|(simp only [putAll, Act.put, List.setIfInBounds_toArray, List.set_cons_zero, List.set_cons_succ]; done)|(simp only [putAll, Act.put, List.setIfInBounds_toArray, List.set_cons_zero, List.set_cons_succ]; rfl)) (hJ1_3_9 (gb157) _ ⟨hHeld, (by (with_reducible repeat (first|refine zA ?_ _|refine zC ?_|refine zB ?_ _)); exact BK134.out), (by (with_reducible repeat (first|refine zA ?_ _|refine zC ?_|refine zB ?_ _)); exact BK135.out), (by (with_reducible repeat (first|refine zA ?_ _|refine zC ?_|refine zB ?_ _)); exact BK157.out), GW157.out, GE157.out, NB134_157.out, NB157_134.out, NB135_157.out, NB157_135.out, (by repeat (first|(with_reducible first|exact HB.out|apply zI|apply zG|apply zH|refine zJ ?_ GE134.out|refine zJ ?_ GE135.out|refine zJ ?_ GE157.out)|exact HB.out))⟩)
           ·skip
            refine box_step ?hg (N := 7) ?hd (cs := #[.int .i64 0, .int .i64 0, .int .i64 0, .int .i64 0, .int .i64 0, .string (⟨#[]⟩ : ByteArray)]) (t := 61) ?hr ?_; (case hd => rfl); (case hg => rfl); (case hr => first|(go_simp; done)|(go_simp; rfl))
            intro gb158 hg w101 hbox hb
            have n0_ := Aside0.mk (zK (by exact BK134.out) hb)
            have n1_ := Aside0.mk (zK (by exact BK135.out) hb)
            have n2_ := Aside0.mk (zN (by repeat (first|(with_reducible first|exact HB.out|apply zI|apply zG|apply zH|refine zJ ?_ GE134.out|refine zJ ?_ GE135.out)|exact HB.out)) hb)
            have n3_ := Aside0.mk (hbox)
            have n4_ := Aside0.mk ((by rw [hg]; exact (below_size (by repeat (first|(with_reducible first|exact HB.out|apply zI|apply zG|apply zH|refine zJ ?_ GE134.out|refine zJ ?_ GE135.out)|exact HB.out))) : w.heap.size ≤ gb158))
            have n5_ := Aside0.mk ((by rw [hg]; exact (below_size (by repeat (first|(with_reducible first|exact HB.out|apply zI|apply zG|apply zH|refine zJ ?_ GE134.out|refine zJ ?_ GE135.out)|exact HB.out))) : w.heap.size ≤ gb158))
            have n6_ := Aside0.mk ((by rw [hg]; exact Nat.ne_of_lt (blk_lt (g := gb134) (o := .cells #[.int .i64 a0_0, .int .i64 a0_1, .string a0_2] 63 (0, 0)) (by (with_reducible repeat (first|refine zA ?_ _|refine zC ?_|refine zB ?_ _)); exact BK134.out)) : gb134 ≠ gb158))
            have n7_ := Aside0.mk ((by rw [hg]; exact Nat.ne_of_gt (blk_lt (g := gb134) (o := .cells #[.int .i64 a0_0, .int .i64 a0_1, .string a0_2] 63 (0, 0)) (by (with_reducible repeat (first|refine zA ?_ _|refine zC ?_|refine zB ?_ _)); exact BK134.out)) : gb158 ≠ gb134))
            have n8_ := Aside0.mk ((by rw [hg]; exact Nat.ne_of_lt (blk_lt (g := gb135) (o := .cells #[.int .i64 a1_0, .int .i64 a1_1, .int .i64 a1_2, .int .i64 a1_3, .int .i64 a1_4, .string a1_5] 64 (0, 0)) (by (with_reducible repeat (first|refine zA ?_ _|refine zC ?_|refine zB ?_ _)); exact BK135.out)) : gb135 ≠ gb158))
            have n9_ := Aside0.mk ((by rw [hg]; exact Nat.ne_of_gt (blk_lt (g := gb135) (o := .cells #[.int .i64 a1_0, .int .i64 a1_1, .int .i64 a1_2, .int .i64 a1_3, .int .i64 a1_4, .string a1_5] 64 (0, 0)) (by (with_reducible repeat (first|refine zA ?_ _|refine zC ?_|refine zB ?_ _)); exact BK135.out)) : gb158 ≠ gb135))
            clear BK134
            clear BK135
            clear HB
            have BK134 := n0_
            have BK135 := n1_
            have HB := n2_
            have BK158 := n3_
            have GW158 := n4_
            have GE158 := n5_
            have NB134_158 := n6_
            have NB158_134 := n7_
            have NB135_158 := n8_
            have NB158_135 := n9_
            clear n0_ n1_ n2_ n3_ n4_ n5_ n6_ n7_ n8_ n9_
            clear hb hbox hg
            refine hK.out _ _ ⟨(zO BK134.out 0).trans rfl, (zO BK134.out 1).trans rfl, (zO BK134.out 2).trans rfl, (zO BK135.out 0).trans rfl, (zO BK135.out 1).trans rfl, (zO BK135.out 2).trans rfl, (zO BK135.out 3).trans rfl, (zO BK135.out 4).trans rfl, (zO BK135.out 5).trans rfl⟩ (fun hHeld => ?_)
            clear hK K
            refine norm_ (a' := ?_) ?_ ?_
            rotate_left
            ·show Act.put _ (some 7) _ = _
             simp only [Act.put, List.setIfInBounds_toArray, List.set_cons_zero, List.set_cons_succ, i64_w, i32_w]
             rfl
            exact norm_ (by first|(simp only [putAll, Act.put, List.setIfInBounds_toArray, List.set_cons_zero, List.set_cons_succ]; done)|(simp only [putAll, Act.put, List.setIfInBounds_toArray, List.set_cons_zero, List.set_cons_succ]; rfl)) (hJ1_3_10 (gb158) _ ⟨hHeld, (by (with_reducible repeat (first|refine zA ?_ _|refine zC ?_|refine zB ?_ _)); exact BK134.out), (by (with_reducible repeat (first|refine zA ?_ _|refine zC ?_|refine zB ?_ _)); exact BK135.out), (by (with_reducible repeat (first|refine zA ?_ _|refine zC ?_|refine zB ?_ _)); exact BK158.out), GW158.out, GE158.out, NB134_158.out, NB158_134.out, NB135_158.out, NB158_135.out, (by repeat (first|(with_reducible first|exact HB.out|apply zI|apply zG|apply zH|refine zJ ?_ GE134.out|refine zJ ?_ GE135.out|refine zJ ?_ GE158.out)|exact HB.out))⟩)
         ·skip
          rintro ⟨gb157, gb158⟩ w101 ⟨hS_, h0_, h1_, h2_, h3_, h4_, h5_, h6_, h7_, h8_, h9_, h10_, h11_, h12_, h13_, h14_, h15_, h16_, h17_, h18_⟩
          have n0_ : Aside0 (w101.heap[gb134]? = some (.cells #[.int .i64 a0_0, .int .i64 a0_1, .string a0_2] 63 (0, 0))) := ⟨h0_⟩
          have n1_ : Aside0 (w101.heap[gb135]? = some (.cells #[.int .i64 a1_0, .int .i64 a1_1, .int .i64 a1_2, .int .i64 a1_3, .int .i64 a1_4, .string a1_5] 64 (0, 0))) := ⟨h1_⟩
          have n2_ : Aside0 (w101.heap[gb157]? = some (.cells #[.int .i64 0, .int .i64 0, .string (⟨#[]⟩ : ByteArray)] 67 (0, 0))) := ⟨h2_⟩
          have n3_ : Aside0 (w101.heap[gb158]? = some (.cells #[.int .i64 0, .int .i64 0, .int .i64 0, .int .i64 0, .int .i64 0, .string (⟨#[]⟩ : ByteArray)] 61 (0, 0))) := ⟨h3_⟩
          have n4_ : Aside0 (w.heap.size ≤ gb157) := ⟨h4_⟩
          have n5_ : Aside0 (w.heap.size ≤ gb157) := ⟨h5_⟩
          have n6_ : Aside0 (gb134 ≠ gb157) := ⟨h6_⟩
          have n7_ : Aside0 (gb157 ≠ gb134) := ⟨h7_⟩
          have n8_ : Aside0 (gb135 ≠ gb157) := ⟨h8_⟩
          have n9_ : Aside0 (gb157 ≠ gb135) := ⟨h9_⟩
          have n10_ : Aside0 (gb158 ≠ gb157) := ⟨h10_⟩
          have n11_ : Aside0 (gb157 ≠ gb158) := ⟨h11_⟩
          have n12_ : Aside0 (w.heap.size ≤ gb158) := ⟨h12_⟩
          have n13_ : Aside0 (w.heap.size ≤ gb158) := ⟨h13_⟩
          have n14_ : Aside0 (gb134 ≠ gb158) := ⟨h14_⟩
          have n15_ : Aside0 (gb158 ≠ gb134) := ⟨h15_⟩
          have n16_ : Aside0 (gb135 ≠ gb158) := ⟨h16_⟩
          have n17_ : Aside0 (gb158 ≠ gb135) := ⟨h17_⟩
          have n18_ : Aside0 (Below w.heap.size w w101) := ⟨h18_⟩
          clear BK134
          clear BK135
          clear HB
          clear h0_ h1_ h2_ h3_ h4_ h5_ h6_ h7_ h8_ h9_ h10_ h11_ h12_ h13_ h14_ h15_ h16_ h17_ h18_
          have BK134 := n0_
          have BK135 := n1_
          have BK157 := n2_
          have BK158 := n3_
          have GW157 := n4_
          have GE157 := n5_
          have NB134_157 := n6_
          have NB157_134 := n7_
          have NB135_157 := n8_
          have NB157_135 := n9_
          have NB158_157 := n10_
          have NB157_158 := n11_
          have GW158 := n12_
          have GE158 := n13_
          have NB134_158 := n14_
          have NB158_134 := n15_
          have NB135_158 := n16_
          have NB158_135 := n17_
          have HB := n18_
          clear n0_ n1_ n2_ n3_ n4_ n5_ n6_ n7_ n8_ n9_ n10_ n11_ n12_ n13_ n14_ n15_ n16_ n17_ n18_
          have hHeld : w101.cell? ⟨gb134, 0, none⟩ = some (.int .i64 a0_0) ∧ w101.cell? ⟨gb134, 1, none⟩ = some (.int .i64 a0_1) ∧ w101.cell? ⟨gb134, 2, none⟩ = some (.string a0_2) ∧ w101.cell? ⟨gb135, 0, none⟩ = some (.int .i64 a1_0) ∧ w101.cell? ⟨gb135, 1, none⟩ = some (.int .i64 a1_1) ∧ w101.cell? ⟨gb135, 2, none⟩ = some (.int .i64 a1_2) ∧ w101.cell? ⟨gb135, 3, none⟩ = some (.int .i64 a1_3) ∧ w101.cell? ⟨gb135, 4, none⟩ = some (.int .i64 a1_4) ∧ w101.cell? ⟨gb135, 5, none⟩ = some (.string a1_5) := hS_
          refine norm_ (a' := ?_) ?_ ?_
          rotate_left
          ·simp only [putAll, Act.put, List.setIfInBounds_toArray, List.set_cons_zero, List.set_cons_succ]
           rfl
          refine one_ (i := 3) (N := some 26) #[true, true, true, true, false, false, false, false, false, true, true, false, false, false] rfl rfl (one_of HT_.out (by kernel_rfl)) (by decide) (fun K hK => ?_)
          refine goes_ Try.func48 (by kernel_rfl) rfl #[.agg #[.int .i64 a1_0, .int .i64 a1_1, .int .i64 a1_2, .int .i64 a1_3, .int .i64 a1_4, .string a1_5]] (by rfl) rfl rfl (by (try simp only [List.map_toArray, List.map_cons, List.map_nil]); first|done|rfl|(simp only [List.length_drop, List.length_take]; rfl)) ?_
          with_reducible refine (laws_toNote.calls a1_0 a1_1 a1_2 a1_3 a1_4 a1_5 t141 t142 t143 t144 t145 t146 _ A20.out).mono ?_
          rintro e w102 ⟨rfl, hb⟩
          refine ⟨_, rfl, ?_⟩
          have n0_ := Aside0.mk (zK (by exact BK134.out) hb)
          have n1_ := Aside0.mk (zK (by exact BK135.out) hb)
          have n2_ := Aside0.mk (zK (by exact BK157.out) hb)
          have n3_ := Aside0.mk (zK (by exact BK158.out) hb)
          have n4_ := Aside0.mk (zN (by repeat (first|(with_reducible first|exact HB.out|apply zI|apply zG|apply zH|refine zJ ?_ GE134.out|refine zJ ?_ GE135.out|refine zJ ?_ GE157.out|refine zJ ?_ GE158.out)|exact HB.out)) hb)
          clear BK134
          clear BK135
          clear BK157
          clear BK158
          clear HB
          have BK134 := n0_
          have BK135 := n1_
          have BK157 := n2_
          have BK158 := n3_
          have HB := n4_
          clear n0_ n1_ n2_ n3_ n4_
          (try clear hb)
          (try clear hb2)
          (try clear hk)
          (try clear hi)
          refine hK.out _ _ ⟨(zO BK134.out 0).trans rfl, (zO BK134.out 1).trans rfl, (zO BK134.out 2).trans rfl, (zO BK135.out 0).trans rfl, (zO BK135.out 1).trans rfl, (zO BK135.out 2).trans rfl, (zO BK135.out 3).trans rfl, (zO BK135.out 4).trans rfl, (zO BK135.out 5).trans rfl⟩ (fun hHeld => ?_)
          clear hK K
          refine norm_ (a' := ?_) ?_ ?_
          rotate_left
          ·show Act.put _ (some 26) _ = _
           simp only [Act.put, List.setIfInBounds_toArray, List.set_cons_zero, List.set_cons_succ, i64_w, i32_w]
           rfl
          exact norm_ (by first|(simp only [putAll, Act.put, List.setIfInBounds_toArray, List.set_cons_zero, List.set_cons_succ]; done)|(simp only [putAll, Act.put, List.setIfInBounds_toArray, List.set_cons_zero, List.set_cons_succ]; rfl)) (hJ1_3_9_10 (gb157, gb158) _ ⟨hHeld, (by (with_reducible repeat (first|refine zA ?_ _|refine zC ?_|refine zB ?_ _)); exact BK134.out), (by (with_reducible repeat (first|refine zA ?_ _|refine zC ?_|refine zB ?_ _)); exact BK135.out), (by (with_reducible repeat (first|refine zA ?_ _|refine zC ?_|refine zB ?_ _)); exact BK157.out), (by (with_reducible repeat (first|refine zA ?_ _|refine zC ?_|refine zB ?_ _)); exact BK158.out), GW157.out, GE157.out, NB134_157.out, NB157_134.out, NB135_157.out, NB157_135.out, NB158_157.out, NB157_158.out, GW158.out, GE158.out, NB134_158.out, NB158_134.out, NB135_158.out, NB158_135.out, (by repeat (first|(with_reducible first|exact HB.out|apply zI|apply zG|apply zH|refine zJ ?_ GE134.out|refine zJ ?_ GE135.out|refine zJ ?_ GE157.out|refine zJ ?_ GE158.out)|exact HB.out))⟩)
        ·skip
         rintro gb158 w101 ⟨hS_, h0_, h1_, h2_, h3_, h4_, h5_, h6_, h7_, h8_, h9_⟩
         have n0_ : Aside0 (w101.heap[gb134]? = some (.cells #[.int .i64 a0_0, .int .i64 a0_1, .string a0_2] 63 (0, 0))) := ⟨h0_⟩
         have n1_ : Aside0 (w101.heap[gb135]? = some (.cells #[.int .i64 a1_0, .int .i64 a1_1, .int .i64 a1_2, .int .i64 a1_3, .int .i64 a1_4, .string a1_5] 64 (0, 0))) := ⟨h1_⟩
         have n2_ : Aside0 (w101.heap[gb158]? = some (.cells #[.int .i64 0, .int .i64 0, .int .i64 0, .int .i64 0, .int .i64 0, .string (⟨#[]⟩ : ByteArray)] 61 (0, 0))) := ⟨h2_⟩
         have n3_ : Aside0 (w.heap.size ≤ gb158) := ⟨h3_⟩
         have n4_ : Aside0 (w.heap.size ≤ gb158) := ⟨h4_⟩
         have n5_ : Aside0 (gb134 ≠ gb158) := ⟨h5_⟩
         have n6_ : Aside0 (gb158 ≠ gb134) := ⟨h6_⟩
         have n7_ : Aside0 (gb135 ≠ gb158) := ⟨h7_⟩
         have n8_ : Aside0 (gb158 ≠ gb135) := ⟨h8_⟩
         have n9_ : Aside0 (Below w.heap.size w w101) := ⟨h9_⟩
         clear BK134
         clear BK135
         clear HB
         clear h0_ h1_ h2_ h3_ h4_ h5_ h6_ h7_ h8_ h9_
         have BK134 := n0_
         have BK135 := n1_
         have BK158 := n2_
         have GW158 := n3_
         have GE158 := n4_
         have NB134_158 := n5_
         have NB158_134 := n6_
         have NB135_158 := n7_
         have NB158_135 := n8_
         have HB := n9_
         clear n0_ n1_ n2_ n3_ n4_ n5_ n6_ n7_ n8_ n9_
         have hHeld : w101.cell? ⟨gb134, 0, none⟩ = some (.int .i64 a0_0) ∧ w101.cell? ⟨gb134, 1, none⟩ = some (.int .i64 a0_1) ∧ w101.cell? ⟨gb134, 2, none⟩ = some (.string a0_2) ∧ w101.cell? ⟨gb135, 0, none⟩ = some (.int .i64 a1_0) ∧ w101.cell? ⟨gb135, 1, none⟩ = some (.int .i64 a1_1) ∧ w101.cell? ⟨gb135, 2, none⟩ = some (.int .i64 a1_2) ∧ w101.cell? ⟨gb135, 3, none⟩ = some (.int .i64 a1_3) ∧ w101.cell? ⟨gb135, 4, none⟩ = some (.int .i64 a1_4) ∧ w101.cell? ⟨gb135, 5, none⟩ = some (.string a1_5) := hS_
         refine norm_ (a' := ?_) ?_ ?_
         rotate_left
         ·simp only [putAll, Act.put, List.setIfInBounds_toArray, List.set_cons_zero, List.set_cons_succ]
          rfl
         refine two_ (i := 4) (j := 9) (Ni := some 27) (Nj := some 6) #[true, true, true, true, true, false, false, false, false, false, true, false, false, false] #[true, true, true, true, false, false, false, false, false, true, true, false, false, false] rfl rfl rfl rfl (two_of HT_.out (by kernel_rfl)) (by decide) (by decide) (fun K hK => ?_) (fun K hK => ?_)
         ·skip
          refine goes_ Try.func46 (by kernel_rfl) rfl #[.agg #[.int .i64 t138, .int .i64 t139, .string t140], .agg #[.int .i64 t141, .int .i64 t142, .int .i64 t143, .int .i64 t144, .int .i64 t145, .string t146]] (by rfl) rfl rfl (by (try simp only [List.map_toArray, List.map_cons, List.map_nil]); first|done|rfl|(simp only [List.length_drop, List.length_take]; rfl)) ?_
          with_reducible refine (spec_HearNote.calls k t138 t139 t140 t141 t142 t143 t144 t145 t146 t147 t148 t149 t150 t151 t152 t153 t154 t155 t156 _ A21.out).mono ?_
          rintro e w102 ⟨rfl, hb⟩
          refine ⟨_, rfl, ?_⟩
          have n0_ := Aside0.mk (zK (by exact BK134.out) hb)
          have n1_ := Aside0.mk (zK (by exact BK135.out) hb)
          have n2_ := Aside0.mk (zK (by exact BK158.out) hb)
          have n3_ := Aside0.mk (zN (by repeat (first|(with_reducible first|exact HB.out|apply zI|apply zG|apply zH|refine zJ ?_ GE134.out|refine zJ ?_ GE135.out|refine zJ ?_ GE158.out)|exact HB.out)) hb)
          clear BK134
          clear BK135
          clear BK158
          clear HB
          have BK134 := n0_
          have BK135 := n1_
          have BK158 := n2_
          have HB := n3_
          clear n0_ n1_ n2_ n3_
          (try clear hb)
          (try clear hb2)
          (try clear hk)
          (try clear hi)
          refine hK.out _ _ ⟨(zO BK134.out 0).trans rfl, (zO BK134.out 1).trans rfl, (zO BK134.out 2).trans rfl, (zO BK135.out 0).trans rfl, (zO BK135.out 1).trans rfl, (zO BK135.out 2).trans rfl, (zO BK135.out 3).trans rfl, (zO BK135.out 4).trans rfl, (zO BK135.out 5).trans rfl⟩ (fun hHeld => ?_)
          clear hK K
          refine norm_ (a' := ?_) ?_ ?_
          rotate_left
          ·show Act.put _ (some 27) _ = _
           simp only [Act.put, List.setIfInBounds_toArray, List.set_cons_zero, List.set_cons_succ, i64_w, i32_w]
           rfl
          refine pure_ (i := 5) (N := some 22) (v := ?_) (a' := ?_) #[true, true, true, true, true, true, false, false, false, false, true, false, false, false] rfl rfl (any_of HT_.out (by kernel_rfl)) (fun _ _ _ h => h) (Or.inl ⟨by rfl, ?_⟩) ?_ ?_
          rotate_left
          ·intro w'
           go_simp
           with_reducible rfl
          rotate_left
          ·simp only [Act.put, List.setIfInBounds_toArray, List.set_cons_zero, List.set_cons_succ, i64_w, i32_w]
           rfl
          refine pure_ (i := 6) (N := some 28) (v := ?_) (a' := ?_) #[true, true, true, true, true, true, true, false, false, false, true, false, false, false] rfl rfl (any_of HT_.out (by kernel_rfl)) (fun _ _ _ h => h) (Or.inl ⟨by rfl, ?_⟩) ?_ ?_
          rotate_left
          ·intro w'
           go_simp
           with_reducible rfl
          rotate_left
          ·simp only [Act.put, List.setIfInBounds_toArray, List.set_cons_zero, List.set_cons_succ, i64_w, i32_w]
           rfl
          refine pure_ (i := 7) (N := some 29) (v := ?_) (a' := ?_) #[true, true, true, true, true, true, true, true, false, false, true, false, false, false] rfl rfl (any_of HT_.out (by kernel_rfl)) (fun _ _ _ h => h) (Or.inl ⟨by rfl, ?_⟩) ?_ ?_
          rotate_left
          ·intro w'
           go_simp
           with_reducible rfl
          rotate_left
          ·simp only [Act.put, List.setIfInBounds_toArray, List.set_cons_zero, List.set_cons_succ, i64_w, i32_w]
           rfl
          refine pure_ (i := 8) (N := some 30) (v := ?_) (a' := ?_) #[true, true, true, true, true, true, true, true, true, false, true, false, false, false] rfl rfl (any_of HT_.out (by kernel_rfl)) (fun _ _ _ h => h) (Or.inl ⟨by rfl, ?_⟩) ?_ ?_
          rotate_left
          ·intro w'
           go_simp
           with_reducible rfl
          rotate_left
          ·simp only [Act.put, List.setIfInBounds_toArray, List.set_cons_zero, List.set_cons_succ, i64_w, i32_w]
           rfl
          exact norm_ (by first|(simp only [putAll, Act.put, List.setIfInBounds_toArray, List.set_cons_zero, List.set_cons_succ]; done)|(simp only [putAll, Act.put, List.setIfInBounds_toArray, List.set_cons_zero, List.set_cons_succ]; rfl)) (hJ1_3_4_10 (gb158) _ ⟨hHeld, (by (with_reducible repeat (first|refine zA ?_ _|refine zC ?_|refine zB ?_ _)); exact BK134.out), (by (with_reducible repeat (first|refine zA ?_ _|refine zC ?_|refine zB ?_ _)); exact BK135.out), (by (with_reducible repeat (first|refine zA ?_ _|refine zC ?_|refine zB ?_ _)); exact BK158.out), GW158.out, GE158.out, NB134_158.out, NB158_134.out, NB135_158.out, NB158_135.out, (by repeat (first|(with_reducible first|exact HB.out|apply zI|apply zG|apply zH|refine zJ ?_ GE134.out|refine zJ ?_ GE135.out|refine zJ ?_ GE158.out)|exact HB.out))⟩)
         ·skip
          refine box_step ?hg (N := 6) ?hd (cs := #[.int .i64 0, .int .i64 0, .string (⟨#[]⟩ : ByteArray)]) (t := 67) ?hr ?_; (case hd => rfl); (case hg => rfl); (case hr => first|(go_simp; done)|(go_simp; rfl))
          intro gb157 hg w102 hbox hb
          have n0_ := Aside0.mk (zK (by exact BK134.out) hb)
          have n1_ := Aside0.mk (zK (by exact BK135.out) hb)
          have n2_ := Aside0.mk (zK (by exact BK158.out) hb)
          have n3_ := Aside0.mk (zN (by repeat (first|(with_reducible first|exact HB.out|apply zI|apply zG|apply zH|refine zJ ?_ GE134.out|refine zJ ?_ GE135.out|refine zJ ?_ GE158.out)|exact HB.out)) hb)
          have n4_ := Aside0.mk (hbox)
          have n5_ := Aside0.mk ((by rw [hg]; exact (below_size (by repeat (first|(with_reducible first|exact HB.out|apply zI|apply zG|apply zH|refine zJ ?_ GE134.out|refine zJ ?_ GE135.out|refine zJ ?_ GE158.out)|exact HB.out))) : w.heap.size ≤ gb157))
          have n6_ := Aside0.mk ((by rw [hg]; exact (below_size (by repeat (first|(with_reducible first|exact HB.out|apply zI|apply zG|apply zH|refine zJ ?_ GE134.out|refine zJ ?_ GE135.out|refine zJ ?_ GE158.out)|exact HB.out))) : w.heap.size ≤ gb157))
          have n7_ := Aside0.mk ((by rw [hg]; exact Nat.ne_of_lt (blk_lt (g := gb134) (o := .cells #[.int .i64 a0_0, .int .i64 a0_1, .string a0_2] 63 (0, 0)) (by (with_reducible repeat (first|refine zA ?_ _|refine zC ?_|refine zB ?_ _)); exact BK134.out)) : gb134 ≠ gb157))
          have n8_ := Aside0.mk ((by rw [hg]; exact Nat.ne_of_gt (blk_lt (g := gb134) (o := .cells #[.int .i64 a0_0, .int .i64 a0_1, .string a0_2] 63 (0, 0)) (by (with_reducible repeat (first|refine zA ?_ _|refine zC ?_|refine zB ?_ _)); exact BK134.out)) : gb157 ≠ gb134))
          have n9_ := Aside0.mk ((by rw [hg]; exact Nat.ne_of_lt (blk_lt (g := gb135) (o := .cells #[.int .i64 a1_0, .int .i64 a1_1, .int .i64 a1_2, .int .i64 a1_3, .int .i64 a1_4, .string a1_5] 64 (0, 0)) (by (with_reducible repeat (first|refine zA ?_ _|refine zC ?_|refine zB ?_ _)); exact BK135.out)) : gb135 ≠ gb157))
          have n10_ := Aside0.mk ((by rw [hg]; exact Nat.ne_of_gt (blk_lt (g := gb135) (o := .cells #[.int .i64 a1_0, .int .i64 a1_1, .int .i64 a1_2, .int .i64 a1_3, .int .i64 a1_4, .string a1_5] 64 (0, 0)) (by (with_reducible repeat (first|refine zA ?_ _|refine zC ?_|refine zB ?_ _)); exact BK135.out)) : gb157 ≠ gb135))
          have n11_ := Aside0.mk ((by rw [hg]; exact Nat.ne_of_lt (blk_lt (g := gb158) (o := .cells #[.int .i64 0, .int .i64 0, .int .i64 0, .int .i64 0, .int .i64 0, .string (⟨#[]⟩ : ByteArray)] 61 (0, 0)) (by (with_reducible repeat (first|refine zA ?_ _|refine zC ?_|refine zB ?_ _)); exact BK158.out)) : gb158 ≠ gb157))
          have n12_ := Aside0.mk ((by rw [hg]; exact Nat.ne_of_gt (blk_lt (g := gb158) (o := .cells #[.int .i64 0, .int .i64 0, .int .i64 0, .int .i64 0, .int .i64 0, .string (⟨#[]⟩ : ByteArray)] 61 (0, 0)) (by (with_reducible repeat (first|refine zA ?_ _|refine zC ?_|refine zB ?_ _)); exact BK158.out)) : gb157 ≠ gb158))
          clear BK134
          clear BK135
          clear BK158
          clear HB
          have BK134 := n0_
          have BK135 := n1_
          have BK158 := n2_
          have HB := n3_
          have BK157 := n4_
          have GW157 := n5_
          have GE157 := n6_
          have NB134_157 := n7_
          have NB157_134 := n8_
          have NB135_157 := n9_
          have NB157_135 := n10_
          have NB158_157 := n11_
          have NB157_158 := n12_
          clear n0_ n1_ n2_ n3_ n4_ n5_ n6_ n7_ n8_ n9_ n10_ n11_ n12_
          clear hb hbox hg
          refine hK.out _ _ ⟨(zO BK134.out 0).trans rfl, (zO BK134.out 1).trans rfl, (zO BK134.out 2).trans rfl, (zO BK135.out 0).trans rfl, (zO BK135.out 1).trans rfl, (zO BK135.out 2).trans rfl, (zO BK135.out 3).trans rfl, (zO BK135.out 4).trans rfl, (zO BK135.out 5).trans rfl⟩ (fun hHeld => ?_)
          clear hK K
          refine norm_ (a' := ?_) ?_ ?_
          rotate_left
          ·show Act.put _ (some 6) _ = _
           simp only [Act.put, List.setIfInBounds_toArray, List.set_cons_zero, List.set_cons_succ, i64_w, i32_w]
           rfl
          exact norm_ (by first|(simp only [putAll, Act.put, List.setIfInBounds_toArray, List.set_cons_zero, List.set_cons_succ]; done)|(simp only [putAll, Act.put, List.setIfInBounds_toArray, List.set_cons_zero, List.set_cons_succ]; rfl)) (hJ1_3_9_10 (gb157, gb158) _ ⟨hHeld, (by (with_reducible repeat (first|refine zA ?_ _|refine zC ?_|refine zB ?_ _)); exact BK134.out), (by (with_reducible repeat (first|refine zA ?_ _|refine zC ?_|refine zB ?_ _)); exact BK135.out), (by (with_reducible repeat (first|refine zA ?_ _|refine zC ?_|refine zB ?_ _)); exact BK157.out), (by (with_reducible repeat (first|refine zA ?_ _|refine zC ?_|refine zB ?_ _)); exact BK158.out), GW157.out, GE157.out, NB134_157.out, NB157_134.out, NB135_157.out, NB157_135.out, NB158_157.out, NB157_158.out, GW158.out, GE158.out, NB134_158.out, NB158_134.out, NB135_158.out, NB158_135.out, (by repeat (first|(with_reducible first|exact HB.out|apply zI|apply zG|apply zH|refine zJ ?_ GE134.out|refine zJ ?_ GE135.out|refine zJ ?_ GE158.out|refine zJ ?_ GE157.out)|exact HB.out))⟩)
       ·skip
        rintro gb157 w101 ⟨hS_, h0_, h1_, h2_, h3_, h4_, h5_, h6_, h7_, h8_, h9_⟩
        have n0_ : Aside0 (w101.heap[gb134]? = some (.cells #[.int .i64 a0_0, .int .i64 a0_1, .string a0_2] 63 (0, 0))) := ⟨h0_⟩
        have n1_ : Aside0 (w101.heap[gb135]? = some (.cells #[.int .i64 a1_0, .int .i64 a1_1, .int .i64 a1_2, .int .i64 a1_3, .int .i64 a1_4, .string a1_5] 64 (0, 0))) := ⟨h1_⟩
        have n2_ : Aside0 (w101.heap[gb157]? = some (.cells #[.int .i64 0, .int .i64 0, .string (⟨#[]⟩ : ByteArray)] 67 (0, 0))) := ⟨h2_⟩
        have n3_ : Aside0 (w.heap.size ≤ gb157) := ⟨h3_⟩
        have n4_ : Aside0 (w.heap.size ≤ gb157) := ⟨h4_⟩
        have n5_ : Aside0 (gb134 ≠ gb157) := ⟨h5_⟩
        have n6_ : Aside0 (gb157 ≠ gb134) := ⟨h6_⟩
        have n7_ : Aside0 (gb135 ≠ gb157) := ⟨h7_⟩
        have n8_ : Aside0 (gb157 ≠ gb135) := ⟨h8_⟩
        have n9_ : Aside0 (Below w.heap.size w w101) := ⟨h9_⟩
        clear BK134
        clear BK135
        clear HB
        clear h0_ h1_ h2_ h3_ h4_ h5_ h6_ h7_ h8_ h9_
        have BK134 := n0_
        have BK135 := n1_
        have BK157 := n2_
        have GW157 := n3_
        have GE157 := n4_
        have NB134_157 := n5_
        have NB157_134 := n6_
        have NB135_157 := n7_
        have NB157_135 := n8_
        have HB := n9_
        clear n0_ n1_ n2_ n3_ n4_ n5_ n6_ n7_ n8_ n9_
        have hHeld : w101.cell? ⟨gb134, 0, none⟩ = some (.int .i64 a0_0) ∧ w101.cell? ⟨gb134, 1, none⟩ = some (.int .i64 a0_1) ∧ w101.cell? ⟨gb134, 2, none⟩ = some (.string a0_2) ∧ w101.cell? ⟨gb135, 0, none⟩ = some (.int .i64 a1_0) ∧ w101.cell? ⟨gb135, 1, none⟩ = some (.int .i64 a1_1) ∧ w101.cell? ⟨gb135, 2, none⟩ = some (.int .i64 a1_2) ∧ w101.cell? ⟨gb135, 3, none⟩ = some (.int .i64 a1_3) ∧ w101.cell? ⟨gb135, 4, none⟩ = some (.int .i64 a1_4) ∧ w101.cell? ⟨gb135, 5, none⟩ = some (.string a1_5) := hS_
        refine norm_ (a' := ?_) ?_ ?_
        rotate_left
        ·simp only [putAll, Act.put, List.setIfInBounds_toArray, List.set_cons_zero, List.set_cons_succ]
         rfl
        refine two_ (i := 4) (j := 10) (Ni := some 27) (Nj := some 7) #[true, true, true, true, true, false, false, false, false, true, false, false, false, false] #[true, true, true, true, false, false, false, false, false, true, true, false, false, false] rfl rfl rfl rfl (two_of HT_.out (by kernel_rfl)) (by decide) (by decide) (fun K hK => ?_) (fun K hK => ?_)
        ·skip
         refine goes_ Try.func46 (by kernel_rfl) rfl #[.agg #[.int .i64 t138, .int .i64 t139, .string t140], .agg #[.int .i64 t141, .int .i64 t142, .int .i64 t143, .int .i64 t144, .int .i64 t145, .string t146]] (by rfl) rfl rfl (by (try simp only [List.map_toArray, List.map_cons, List.map_nil]); first|done|rfl|(simp only [List.length_drop, List.length_take]; rfl)) ?_
         with_reducible refine (spec_HearNote.calls k t138 t139 t140 t141 t142 t143 t144 t145 t146 t147 t148 t149 t150 t151 t152 t153 t154 t155 t156 _ A21.out).mono ?_
         rintro e w102 ⟨rfl, hb⟩
         refine ⟨_, rfl, ?_⟩
         have n0_ := Aside0.mk (zK (by exact BK134.out) hb)
         have n1_ := Aside0.mk (zK (by exact BK135.out) hb)
         have n2_ := Aside0.mk (zK (by exact BK157.out) hb)
         have n3_ := Aside0.mk (zN (by repeat (first|(with_reducible first|exact HB.out|apply zI|apply zG|apply zH|refine zJ ?_ GE134.out|refine zJ ?_ GE135.out|refine zJ ?_ GE157.out)|exact HB.out)) hb)
         clear BK134
         clear BK135
         clear BK157
         clear HB
         have BK134 := n0_
         have BK135 := n1_
         have BK157 := n2_
         have HB := n3_
         clear n0_ n1_ n2_ n3_
         (try clear hb)
         (try clear hb2)
         (try clear hk)
         (try clear hi)
         refine hK.out _ _ ⟨(zO BK134.out 0).trans rfl, (zO BK134.out 1).trans rfl, (zO BK134.out 2).trans rfl, (zO BK135.out 0).trans rfl, (zO BK135.out 1).trans rfl, (zO BK135.out 2).trans rfl, (zO BK135.out 3).trans rfl, (zO BK135.out 4).trans rfl, (zO BK135.out 5).trans rfl⟩ (fun hHeld => ?_)
         clear hK K
         refine norm_ (a' := ?_) ?_ ?_
         rotate_left
         ·show Act.put _ (some 27) _ = _
          simp only [Act.put, List.setIfInBounds_toArray, List.set_cons_zero, List.set_cons_succ, i64_w, i32_w]
          rfl
         refine pure_ (i := 5) (N := some 22) (v := ?_) (a' := ?_) #[true, true, true, true, true, true, false, false, false, true, false, false, false, false] rfl rfl (any_of HT_.out (by kernel_rfl)) (fun _ _ _ h => h) (Or.inl ⟨by rfl, ?_⟩) ?_ ?_
         rotate_left
         ·intro w'
          go_simp
          with_reducible rfl
         rotate_left
         ·simp only [Act.put, List.setIfInBounds_toArray, List.set_cons_zero, List.set_cons_succ, i64_w, i32_w]
          rfl
         refine pure_ (i := 6) (N := some 28) (v := ?_) (a' := ?_) #[true, true, true, true, true, true, true, false, false, true, false, false, false, false] rfl rfl (any_of HT_.out (by kernel_rfl)) (fun _ _ _ h => h) (Or.inl ⟨by rfl, ?_⟩) ?_ ?_
         rotate_left
         ·intro w'
          go_simp
          with_reducible rfl
         rotate_left
         ·simp only [Act.put, List.setIfInBounds_toArray, List.set_cons_zero, List.set_cons_succ, i64_w, i32_w]
          rfl
         refine pure_ (i := 7) (N := some 29) (v := ?_) (a' := ?_) #[true, true, true, true, true, true, true, true, false, true, false, false, false, false] rfl rfl (any_of HT_.out (by kernel_rfl)) (fun _ _ _ h => h) (Or.inl ⟨by rfl, ?_⟩) ?_ ?_
         rotate_left
         ·intro w'
          go_simp
          with_reducible rfl
         rotate_left
         ·simp only [Act.put, List.setIfInBounds_toArray, List.set_cons_zero, List.set_cons_succ, i64_w, i32_w]
          rfl
         refine pure_ (i := 8) (N := some 30) (v := ?_) (a' := ?_) #[true, true, true, true, true, true, true, true, true, true, false, false, false, false] rfl rfl (any_of HT_.out (by kernel_rfl)) (fun _ _ _ h => h) (Or.inl ⟨by rfl, ?_⟩) ?_ ?_
         rotate_left
         ·intro w'
          go_simp
          with_reducible rfl
         rotate_left
         ·simp only [Act.put, List.setIfInBounds_toArray, List.set_cons_zero, List.set_cons_succ, i64_w, i32_w]
          rfl
         exact norm_ (by first|(simp only [putAll, Act.put, List.setIfInBounds_toArray, List.set_cons_zero, List.set_cons_succ]; done)|(simp only [putAll, Act.put, List.setIfInBounds_toArray, List.set_cons_zero, List.set_cons_succ]; rfl)) (hJ1_3_4_9 (gb157) _ ⟨hHeld, (by (with_reducible repeat (first|refine zA ?_ _|refine zC ?_|refine zB ?_ _)); exact BK134.out), (by (with_reducible repeat (first|refine zA ?_ _|refine zC ?_|refine zB ?_ _)); exact BK135.out), (by (with_reducible repeat (first|refine zA ?_ _|refine zC ?_|refine zB ?_ _)); exact BK157.out), GW157.out, GE157.out, NB134_157.out, NB157_134.out, NB135_157.out, NB157_135.out, (by repeat (first|(with_reducible first|exact HB.out|apply zI|apply zG|apply zH|refine zJ ?_ GE134.out|refine zJ ?_ GE135.out|refine zJ ?_ GE157.out)|exact HB.out))⟩)
        ·skip
         refine box_step ?hg (N := 7) ?hd (cs := #[.int .i64 0, .int .i64 0, .int .i64 0, .int .i64 0, .int .i64 0, .string (⟨#[]⟩ : ByteArray)]) (t := 61) ?hr ?_; (case hd => rfl); (case hg => rfl); (case hr => first|(go_simp; done)|(go_simp; rfl))
         intro gb158 hg w102 hbox hb
         have n0_ := Aside0.mk (zK (by exact BK134.out) hb)
         have n1_ := Aside0.mk (zK (by exact BK135.out) hb)
         have n2_ := Aside0.mk (zK (by exact BK157.out) hb)
         have n3_ := Aside0.mk (zN (by repeat (first|(with_reducible first|exact HB.out|apply zI|apply zG|apply zH|refine zJ ?_ GE134.out|refine zJ ?_ GE135.out|refine zJ ?_ GE157.out)|exact HB.out)) hb)
         have n4_ := Aside0.mk (hbox)
         have n5_ := Aside0.mk ((by rw [hg]; exact (below_size (by repeat (first|(with_reducible first|exact HB.out|apply zI|apply zG|apply zH|refine zJ ?_ GE134.out|refine zJ ?_ GE135.out|refine zJ ?_ GE157.out)|exact HB.out))) : w.heap.size ≤ gb158))
         have n6_ := Aside0.mk ((by rw [hg]; exact (below_size (by repeat (first|(with_reducible first|exact HB.out|apply zI|apply zG|apply zH|refine zJ ?_ GE134.out|refine zJ ?_ GE135.out|refine zJ ?_ GE157.out)|exact HB.out))) : w.heap.size ≤ gb158))
         have n7_ := Aside0.mk ((by rw [hg]; exact Nat.ne_of_lt (blk_lt (g := gb134) (o := .cells #[.int .i64 a0_0, .int .i64 a0_1, .string a0_2] 63 (0, 0)) (by (with_reducible repeat (first|refine zA ?_ _|refine zC ?_|refine zB ?_ _)); exact BK134.out)) : gb134 ≠ gb158))
         have n8_ := Aside0.mk ((by rw [hg]; exact Nat.ne_of_gt (blk_lt (g := gb134) (o := .cells #[.int .i64 a0_0, .int .i64 a0_1, .string a0_2] 63 (0, 0)) (by (with_reducible repeat (first|refine zA ?_ _|refine zC ?_|refine zB ?_ _)); exact BK134.out)) : gb158 ≠ gb134))
         have n9_ := Aside0.mk ((by rw [hg]; exact Nat.ne_of_lt (blk_lt (g := gb135) (o := .cells #[.int .i64 a1_0, .int .i64 a1_1, .int .i64 a1_2, .int .i64 a1_3, .int .i64 a1_4, .string a1_5] 64 (0, 0)) (by (with_reducible repeat (first|refine zA ?_ _|refine zC ?_|refine zB ?_ _)); exact BK135.out)) : gb135 ≠ gb158))
         have n10_ := Aside0.mk ((by rw [hg]; exact Nat.ne_of_gt (blk_lt (g := gb135) (o := .cells #[.int .i64 a1_0, .int .i64 a1_1, .int .i64 a1_2, .int .i64 a1_3, .int .i64 a1_4, .string a1_5] 64 (0, 0)) (by (with_reducible repeat (first|refine zA ?_ _|refine zC ?_|refine zB ?_ _)); exact BK135.out)) : gb158 ≠ gb135))
         have n11_ := Aside0.mk ((by rw [hg]; exact Nat.ne_of_lt (blk_lt (g := gb157) (o := .cells #[.int .i64 0, .int .i64 0, .string (⟨#[]⟩ : ByteArray)] 67 (0, 0)) (by (with_reducible repeat (first|refine zA ?_ _|refine zC ?_|refine zB ?_ _)); exact BK157.out)) : gb157 ≠ gb158))
         have n12_ := Aside0.mk ((by rw [hg]; exact Nat.ne_of_gt (blk_lt (g := gb157) (o := .cells #[.int .i64 0, .int .i64 0, .string (⟨#[]⟩ : ByteArray)] 67 (0, 0)) (by (with_reducible repeat (first|refine zA ?_ _|refine zC ?_|refine zB ?_ _)); exact BK157.out)) : gb158 ≠ gb157))
         clear BK134
         clear BK135
         clear BK157
         clear HB
         have BK134 := n0_
         have BK135 := n1_
         have BK157 := n2_
         have HB := n3_
         have BK158 := n4_
         have GW158 := n5_
         have GE158 := n6_
         have NB134_158 := n7_
         have NB158_134 := n8_
         have NB135_158 := n9_
         have NB158_135 := n10_
         have NB157_158 := n11_
         have NB158_157 := n12_
         clear n0_ n1_ n2_ n3_ n4_ n5_ n6_ n7_ n8_ n9_ n10_ n11_ n12_
         clear hb hbox hg
         refine hK.out _ _ ⟨(zO BK134.out 0).trans rfl, (zO BK134.out 1).trans rfl, (zO BK134.out 2).trans rfl, (zO BK135.out 0).trans rfl, (zO BK135.out 1).trans rfl, (zO BK135.out 2).trans rfl, (zO BK135.out 3).trans rfl, (zO BK135.out 4).trans rfl, (zO BK135.out 5).trans rfl⟩ (fun hHeld => ?_)
         clear hK K
         refine norm_ (a' := ?_) ?_ ?_
         rotate_left
         ·show Act.put _ (some 7) _ = _
          simp only [Act.put, List.setIfInBounds_toArray, List.set_cons_zero, List.set_cons_succ, i64_w, i32_w]
          rfl
         exact norm_ (by first|(simp only [putAll, Act.put, List.setIfInBounds_toArray, List.set_cons_zero, List.set_cons_succ]; done)|(simp only [putAll, Act.put, List.setIfInBounds_toArray, List.set_cons_zero, List.set_cons_succ]; rfl)) (hJ1_3_9_10 (gb157, gb158) _ ⟨hHeld, (by (with_reducible repeat (first|refine zA ?_ _|refine zC ?_|refine zB ?_ _)); exact BK134.out), (by (with_reducible repeat (first|refine zA ?_ _|refine zC ?_|refine zB ?_ _)); exact BK135.out), (by (with_reducible repeat (first|refine zA ?_ _|refine zC ?_|refine zB ?_ _)); exact BK157.out), (by (with_reducible repeat (first|refine zA ?_ _|refine zC ?_|refine zB ?_ _)); exact BK158.out), GW157.out, GE157.out, NB134_157.out, NB157_134.out, NB135_157.out, NB157_135.out, NB158_157.out, NB157_158.out, GW158.out, GE158.out, NB134_158.out, NB158_134.out, NB135_158.out, NB158_135.out, (by repeat (first|(with_reducible first|exact HB.out|apply zI|apply zG|apply zH|refine zJ ?_ GE134.out|refine zJ ?_ GE135.out|refine zJ ?_ GE157.out|refine zJ ?_ GE158.out)|exact HB.out))⟩)
      ·skip
       rintro _ w101 ⟨hS_, h0_, h1_, h2_⟩
       have n0_ : Aside0 (w101.heap[gb134]? = some (.cells #[.int .i64 a0_0, .int .i64 a0_1, .string a0_2] 63 (0, 0))) := ⟨h0_⟩
       have n1_ : Aside0 (w101.heap[gb135]? = some (.cells #[.int .i64 a1_0, .int .i64 a1_1, .int .i64 a1_2, .int .i64 a1_3, .int .i64 a1_4, .string a1_5] 64 (0, 0))) := ⟨h1_⟩
       have n2_ : Aside0 (Below w.heap.size w w101) := ⟨h2_⟩
       clear BK134
       clear BK135
       clear HB
       clear h0_ h1_ h2_
       have BK134 := n0_
       have BK135 := n1_
       have HB := n2_
       clear n0_ n1_ n2_
       have hHeld : w101.cell? ⟨gb134, 0, none⟩ = some (.int .i64 a0_0) ∧ w101.cell? ⟨gb134, 1, none⟩ = some (.int .i64 a0_1) ∧ w101.cell? ⟨gb134, 2, none⟩ = some (.string a0_2) ∧ w101.cell? ⟨gb135, 0, none⟩ = some (.int .i64 a1_0) ∧ w101.cell? ⟨gb135, 1, none⟩ = some (.int .i64 a1_1) ∧ w101.cell? ⟨gb135, 2, none⟩ = some (.int .i64 a1_2) ∧ w101.cell? ⟨gb135, 3, none⟩ = some (.int .i64 a1_3) ∧ w101.cell? ⟨gb135, 4, none⟩ = some (.int .i64 a1_4) ∧ w101.cell? ⟨gb135, 5, none⟩ = some (.string a1_5) := hS_
       refine norm_ (a' := ?_) ?_ ?_
       rotate_left
       ·simp only [putAll, Act.put, List.setIfInBounds_toArray, List.set_cons_zero, List.set_cons_succ]
        rfl
       refine two_ (i := 9) (j := 10) (Ni := some 6) (Nj := some 7) #[true, true, true, true, true, true, true, true, true, true, false, false, false, false] #[true, true, true, true, true, true, true, true, true, false, true, false, false, false] rfl rfl rfl rfl (two_of HT_.out (by kernel_rfl)) (by decide) (by decide) (fun K hK => ?_) (fun K hK => ?_)
       ·skip
        refine box_step ?hg (N := 6) ?hd (cs := #[.int .i64 0, .int .i64 0, .string (⟨#[]⟩ : ByteArray)]) (t := 67) ?hr ?_; (case hd => rfl); (case hg => rfl); (case hr => first|(go_simp; done)|(go_simp; rfl))
        intro gb157 hg w102 hbox hb
        have n0_ := Aside0.mk (zK (by exact BK134.out) hb)
        have n1_ := Aside0.mk (zK (by exact BK135.out) hb)
        have n2_ := Aside0.mk (zN (by repeat (first|(with_reducible first|exact HB.out|apply zI|apply zG|apply zH|refine zJ ?_ GE134.out|refine zJ ?_ GE135.out)|exact HB.out)) hb)
        have n3_ := Aside0.mk (hbox)
        have n4_ := Aside0.mk ((by rw [hg]; exact (below_size (by repeat (first|(with_reducible first|exact HB.out|apply zI|apply zG|apply zH|refine zJ ?_ GE134.out|refine zJ ?_ GE135.out)|exact HB.out))) : w.heap.size ≤ gb157))
        have n5_ := Aside0.mk ((by rw [hg]; exact (below_size (by repeat (first|(with_reducible first|exact HB.out|apply zI|apply zG|apply zH|refine zJ ?_ GE134.out|refine zJ ?_ GE135.out)|exact HB.out))) : w.heap.size ≤ gb157))
        have n6_ := Aside0.mk ((by rw [hg]; exact Nat.ne_of_lt (blk_lt (g := gb134) (o := .cells #[.int .i64 a0_0, .int .i64 a0_1, .string a0_2] 63 (0, 0)) (by (with_reducible repeat (first|refine zA ?_ _|refine zC ?_|refine zB ?_ _)); exact BK134.out)) : gb134 ≠ gb157))
        have n7_ := Aside0.mk ((by rw [hg]; exact Nat.ne_of_gt (blk_lt (g := gb134) (o := .cells #[.int .i64 a0_0, .int .i64 a0_1, .string a0_2] 63 (0, 0)) (by (with_reducible repeat (first|refine zA ?_ _|refine zC ?_|refine zB ?_ _)); exact BK134.out)) : gb157 ≠ gb134))
        have n8_ := Aside0.mk ((by rw [hg]; exact Nat.ne_of_lt (blk_lt (g := gb135) (o := .cells #[.int .i64 a1_0, .int .i64 a1_1, .int .i64 a1_2, .int .i64 a1_3, .int .i64 a1_4, .string a1_5] 64 (0, 0)) (by (with_reducible repeat (first|refine zA ?_ _|refine zC ?_|refine zB ?_ _)); exact BK135.out)) : gb135 ≠ gb157))
        have n9_ := Aside0.mk ((by rw [hg]; exact Nat.ne_of_gt (blk_lt (g := gb135) (o := .cells #[.int .i64 a1_0, .int .i64 a1_1, .int .i64 a1_2, .int .i64 a1_3, .int .i64 a1_4, .string a1_5] 64 (0, 0)) (by (with_reducible repeat (first|refine zA ?_ _|refine zC ?_|refine zB ?_ _)); exact BK135.out)) : gb157 ≠ gb135))
        clear BK134
        clear BK135
        clear HB
        have BK134 := n0_
        have BK135 := n1_
        have HB := n2_
        have BK157 := n3_
        have GW157 := n4_
        have GE157 := n5_
        have NB134_157 := n6_
        have NB157_134 := n7_
        have NB135_157 := n8_
        have NB157_135 := n9_
        clear n0_ n1_ n2_ n3_ n4_ n5_ n6_ n7_ n8_ n9_
        clear hb hbox hg
        refine hK.out _ _ ⟨(zO BK134.out 0).trans rfl, (zO BK134.out 1).trans rfl, (zO BK134.out 2).trans rfl, (zO BK135.out 0).trans rfl, (zO BK135.out 1).trans rfl, (zO BK135.out 2).trans rfl, (zO BK135.out 3).trans rfl, (zO BK135.out 4).trans rfl, (zO BK135.out 5).trans rfl⟩ (fun hHeld => ?_)
        clear hK K
        refine norm_ (a' := ?_) ?_ ?_
        rotate_left
        ·show Act.put _ (some 6) _ = _
         simp only [Act.put, List.setIfInBounds_toArray, List.set_cons_zero, List.set_cons_succ, i64_w, i32_w]
         rfl
        exact norm_ (by first|(simp only [putAll, Act.put, List.setIfInBounds_toArray, List.set_cons_zero, List.set_cons_succ]; done)|(simp only [putAll, Act.put, List.setIfInBounds_toArray, List.set_cons_zero, List.set_cons_succ]; rfl)) (hJ1_3_4_9 (gb157) _ ⟨hHeld, (by (with_reducible repeat (first|refine zA ?_ _|refine zC ?_|refine zB ?_ _)); exact BK134.out), (by (with_reducible repeat (first|refine zA ?_ _|refine zC ?_|refine zB ?_ _)); exact BK135.out), (by (with_reducible repeat (first|refine zA ?_ _|refine zC ?_|refine zB ?_ _)); exact BK157.out), GW157.out, GE157.out, NB134_157.out, NB157_134.out, NB135_157.out, NB157_135.out, (by repeat (first|(with_reducible first|exact HB.out|apply zI|apply zG|apply zH|refine zJ ?_ GE134.out|refine zJ ?_ GE135.out|refine zJ ?_ GE157.out)|exact HB.out))⟩)
       ·skip
        refine box_step ?hg (N := 7) ?hd (cs := #[.int .i64 0, .int .i64 0, .int .i64 0, .int .i64 0, .int .i64 0, .string (⟨#[]⟩ : ByteArray)]) (t := 61) ?hr ?_; (case hd => rfl); (case hg => rfl); (case hr => first|(go_simp; done)|(go_simp; rfl))
        intro gb158 hg w102 hbox hb
        have n0_ := Aside0.mk (zK (by exact BK134.out) hb)
        have n1_ := Aside0.mk (zK (by exact BK135.out) hb)
        have n2_ := Aside0.mk (zN (by repeat (first|(with_reducible first|exact HB.out|apply zI|apply zG|apply zH|refine zJ ?_ GE134.out|refine zJ ?_ GE135.out)|exact HB.out)) hb)
        have n3_ := Aside0.mk (hbox)
        have n4_ := Aside0.mk ((by rw [hg]; exact (below_size (by repeat (first|(with_reducible first|exact HB.out|apply zI|apply zG|apply zH|refine zJ ?_ GE134.out|refine zJ ?_ GE135.out)|exact HB.out))) : w.heap.size ≤ gb158))
        have n5_ := Aside0.mk ((by rw [hg]; exact (below_size (by repeat (first|(with_reducible first|exact HB.out|apply zI|apply zG|apply zH|refine zJ ?_ GE134.out|refine zJ ?_ GE135.out)|exact HB.out))) : w.heap.size ≤ gb158))
        have n6_ := Aside0.mk ((by rw [hg]; exact Nat.ne_of_lt (blk_lt (g := gb134) (o := .cells #[.int .i64 a0_0, .int .i64 a0_1, .string a0_2] 63 (0, 0)) (by (with_reducible repeat (first|refine zA ?_ _|refine zC ?_|refine zB ?_ _)); exact BK134.out)) : gb134 ≠ gb158))
        have n7_ := Aside0.mk ((by rw [hg]; exact Nat.ne_of_gt (blk_lt (g := gb134) (o := .cells #[.int .i64 a0_0, .int .i64 a0_1, .string a0_2] 63 (0, 0)) (by (with_reducible repeat (first|refine zA ?_ _|refine zC ?_|refine zB ?_ _)); exact BK134.out)) : gb158 ≠ gb134))
        have n8_ := Aside0.mk ((by rw [hg]; exact Nat.ne_of_lt (blk_lt (g := gb135) (o := .cells #[.int .i64 a1_0, .int .i64 a1_1, .int .i64 a1_2, .int .i64 a1_3, .int .i64 a1_4, .string a1_5] 64 (0, 0)) (by (with_reducible repeat (first|refine zA ?_ _|refine zC ?_|refine zB ?_ _)); exact BK135.out)) : gb135 ≠ gb158))
        have n9_ := Aside0.mk ((by rw [hg]; exact Nat.ne_of_gt (blk_lt (g := gb135) (o := .cells #[.int .i64 a1_0, .int .i64 a1_1, .int .i64 a1_2, .int .i64 a1_3, .int .i64 a1_4, .string a1_5] 64 (0, 0)) (by (with_reducible repeat (first|refine zA ?_ _|refine zC ?_|refine zB ?_ _)); exact BK135.out)) : gb158 ≠ gb135))
        clear BK134
        clear BK135
        clear HB
        have BK134 := n0_
        have BK135 := n1_
        have HB := n2_
        have BK158 := n3_
        have GW158 := n4_
        have GE158 := n5_
        have NB134_158 := n6_
        have NB158_134 := n7_
        have NB135_158 := n8_
        have NB158_135 := n9_
        clear n0_ n1_ n2_ n3_ n4_ n5_ n6_ n7_ n8_ n9_
        clear hb hbox hg
        refine hK.out _ _ ⟨(zO BK134.out 0).trans rfl, (zO BK134.out 1).trans rfl, (zO BK134.out 2).trans rfl, (zO BK135.out 0).trans rfl, (zO BK135.out 1).trans rfl, (zO BK135.out 2).trans rfl, (zO BK135.out 3).trans rfl, (zO BK135.out 4).trans rfl, (zO BK135.out 5).trans rfl⟩ (fun hHeld => ?_)
        clear hK K
        refine norm_ (a' := ?_) ?_ ?_
        rotate_left
        ·show Act.put _ (some 7) _ = _
         simp only [Act.put, List.setIfInBounds_toArray, List.set_cons_zero, List.set_cons_succ, i64_w, i32_w]
         rfl
        exact norm_ (by first|(simp only [putAll, Act.put, List.setIfInBounds_toArray, List.set_cons_zero, List.set_cons_succ]; done)|(simp only [putAll, Act.put, List.setIfInBounds_toArray, List.set_cons_zero, List.set_cons_succ]; rfl)) (hJ1_3_4_10 (gb158) _ ⟨hHeld, (by (with_reducible repeat (first|refine zA ?_ _|refine zC ?_|refine zB ?_ _)); exact BK134.out), (by (with_reducible repeat (first|refine zA ?_ _|refine zC ?_|refine zB ?_ _)); exact BK135.out), (by (with_reducible repeat (first|refine zA ?_ _|refine zC ?_|refine zB ?_ _)); exact BK158.out), GW158.out, GE158.out, NB134_158.out, NB158_134.out, NB135_158.out, NB158_135.out, (by repeat (first|(with_reducible first|exact HB.out|apply zI|apply zG|apply zH|refine zJ ?_ GE134.out|refine zJ ?_ GE135.out|refine zJ ?_ GE158.out)|exact HB.out))⟩)
     ·skip
      rintro ⟨gb157, gb158⟩ w102 ⟨hS_, h0_, h1_, h2_, h3_, h4_, h5_, h6_, h7_, h8_, h9_, h10_, h11_, h12_, h13_, h14_, h15_, h16_, h17_, h18_⟩
      have n0_ : Aside0 (w102.heap[gb134]? = some (.cells #[.int .i64 a0_0, .int .i64 a0_1, .string a0_2] 63 (0, 0))) := ⟨h0_⟩
      have n1_ : Aside0 (w102.heap[gb135]? = some (.cells #[.int .i64 a1_0, .int .i64 a1_1, .int .i64 a1_2, .int .i64 a1_3, .int .i64 a1_4, .string a1_5] 64 (0, 0))) := ⟨h1_⟩
      have n2_ : Aside0 (w102.heap[gb157]? = some (.cells #[.int .i64 0, .int .i64 0, .string (⟨#[]⟩ : ByteArray)] 67 (0, 0))) := ⟨h2_⟩
      have n3_ : Aside0 (w102.heap[gb158]? = some (.cells #[.int .i64 0, .int .i64 0, .int .i64 0, .int .i64 0, .int .i64 0, .string (⟨#[]⟩ : ByteArray)] 61 (0, 0))) := ⟨h3_⟩
      have n4_ : Aside0 (w.heap.size ≤ gb157) := ⟨h4_⟩
      have n5_ : Aside0 (w.heap.size ≤ gb157) := ⟨h5_⟩
      have n6_ : Aside0 (gb134 ≠ gb157) := ⟨h6_⟩
      have n7_ : Aside0 (gb157 ≠ gb134) := ⟨h7_⟩
      have n8_ : Aside0 (gb135 ≠ gb157) := ⟨h8_⟩
      have n9_ : Aside0 (gb157 ≠ gb135) := ⟨h9_⟩
      have n10_ : Aside0 (gb158 ≠ gb157) := ⟨h10_⟩
      have n11_ : Aside0 (gb157 ≠ gb158) := ⟨h11_⟩
      have n12_ : Aside0 (w.heap.size ≤ gb158) := ⟨h12_⟩
      have n13_ : Aside0 (w.heap.size ≤ gb158) := ⟨h13_⟩
      have n14_ : Aside0 (gb134 ≠ gb158) := ⟨h14_⟩
      have n15_ : Aside0 (gb158 ≠ gb134) := ⟨h15_⟩
      have n16_ : Aside0 (gb135 ≠ gb158) := ⟨h16_⟩
      have n17_ : Aside0 (gb158 ≠ gb135) := ⟨h17_⟩
      have n18_ : Aside0 (Below w.heap.size w w102) := ⟨h18_⟩
      clear BK134
      clear BK135
      clear HB
      clear h0_ h1_ h2_ h3_ h4_ h5_ h6_ h7_ h8_ h9_ h10_ h11_ h12_ h13_ h14_ h15_ h16_ h17_ h18_
      have BK134 := n0_
      have BK135 := n1_
      have BK157 := n2_
      have BK158 := n3_
      have GW157 := n4_
      have GE157 := n5_
      have NB134_157 := n6_
      have NB157_134 := n7_
      have NB135_157 := n8_
      have NB157_135 := n9_
      have NB158_157 := n10_
      have NB157_158 := n11_
      have GW158 := n12_
      have GE158 := n13_
      have NB134_158 := n14_
      have NB158_134 := n15_
      have NB135_158 := n16_
      have NB158_135 := n17_
      have HB := n18_
      clear n0_ n1_ n2_ n3_ n4_ n5_ n6_ n7_ n8_ n9_ n10_ n11_ n12_ n13_ n14_ n15_ n16_ n17_ n18_
      have hHeld : w102.cell? ⟨gb134, 0, none⟩ = some (.int .i64 a0_0) ∧ w102.cell? ⟨gb134, 1, none⟩ = some (.int .i64 a0_1) ∧ w102.cell? ⟨gb134, 2, none⟩ = some (.string a0_2) ∧ w102.cell? ⟨gb135, 0, none⟩ = some (.int .i64 a1_0) ∧ w102.cell? ⟨gb135, 1, none⟩ = some (.int .i64 a1_1) ∧ w102.cell? ⟨gb135, 2, none⟩ = some (.int .i64 a1_2) ∧ w102.cell? ⟨gb135, 3, none⟩ = some (.int .i64 a1_3) ∧ w102.cell? ⟨gb135, 4, none⟩ = some (.int .i64 a1_4) ∧ w102.cell? ⟨gb135, 5, none⟩ = some (.string a1_5) := hS_
      refine norm_ (a' := ?_) ?_ ?_
      rotate_left
      ·simp only [putAll, Act.put, List.setIfInBounds_toArray, List.set_cons_zero, List.set_cons_succ]
       rfl
      refine one_ (i := 4) (N := some 27) #[true, true, true, true, true, false, false, false, false, true, true, false, false, false] rfl rfl (one_of HT_.out (by kernel_rfl)) (by decide) (fun K hK => ?_)
      refine goes_ Try.func46 (by kernel_rfl) rfl #[.agg #[.int .i64 t138, .int .i64 t139, .string t140], .agg #[.int .i64 t141, .int .i64 t142, .int .i64 t143, .int .i64 t144, .int .i64 t145, .string t146]] (by rfl) rfl rfl (by (try simp only [List.map_toArray, List.map_cons, List.map_nil]); first|done|rfl|(simp only [List.length_drop, List.length_take]; rfl)) ?_
      with_reducible refine (spec_HearNote.calls k t138 t139 t140 t141 t142 t143 t144 t145 t146 t147 t148 t149 t150 t151 t152 t153 t154 t155 t156 _ A21.out).mono ?_
      rintro e w103 ⟨rfl, hb⟩
      refine ⟨_, rfl, ?_⟩
      have n0_ := Aside0.mk (zK (by exact BK134.out) hb)
      have n1_ := Aside0.mk (zK (by exact BK135.out) hb)
      have n2_ := Aside0.mk (zK (by exact BK157.out) hb)
      have n3_ := Aside0.mk (zK (by exact BK158.out) hb)
      have n4_ := Aside0.mk (zN (by repeat (first|(with_reducible first|exact HB.out|apply zI|apply zG|apply zH|refine zJ ?_ GE134.out|refine zJ ?_ GE135.out|refine zJ ?_ GE157.out|refine zJ ?_ GE158.out)|exact HB.out)) hb)
      clear BK134
      clear BK135
      clear BK157
      clear BK158
      clear HB
      have BK134 := n0_
      have BK135 := n1_
      have BK157 := n2_
      have BK158 := n3_
      have HB := n4_
      clear n0_ n1_ n2_ n3_ n4_
      (try clear hb)
      (try clear hb2)
      (try clear hk)
      (try clear hi)
      refine hK.out _ _ ⟨(zO BK134.out 0).trans rfl, (zO BK134.out 1).trans rfl, (zO BK134.out 2).trans rfl, (zO BK135.out 0).trans rfl, (zO BK135.out 1).trans rfl, (zO BK135.out 2).trans rfl, (zO BK135.out 3).trans rfl, (zO BK135.out 4).trans rfl, (zO BK135.out 5).trans rfl⟩ (fun hHeld => ?_)
      clear hK K
      refine norm_ (a' := ?_) ?_ ?_
      rotate_left
      ·show Act.put _ (some 27) _ = _
       simp only [Act.put, List.setIfInBounds_toArray, List.set_cons_zero, List.set_cons_succ, i64_w, i32_w]
       rfl
      refine pure_ (i := 5) (N := some 22) (v := ?_) (a' := ?_) #[true, true, true, true, true, true, false, false, false, true, true, false, false, false] rfl rfl (any_of HT_.out (by kernel_rfl)) (fun _ _ _ h => h) (Or.inl ⟨by rfl, ?_⟩) ?_ ?_
      rotate_left
      ·intro w'
       go_simp
       with_reducible rfl
      rotate_left
      ·simp only [Act.put, List.setIfInBounds_toArray, List.set_cons_zero, List.set_cons_succ, i64_w, i32_w]
       rfl
      refine pure_ (i := 6) (N := some 28) (v := ?_) (a' := ?_) #[true, true, true, true, true, true, true, false, false, true, true, false, false, false] rfl rfl (any_of HT_.out (by kernel_rfl)) (fun _ _ _ h => h) (Or.inl ⟨by rfl, ?_⟩) ?_ ?_
      rotate_left
      ·intro w'
       go_simp
       with_reducible rfl
      rotate_left
      ·simp only [Act.put, List.setIfInBounds_toArray, List.set_cons_zero, List.set_cons_succ, i64_w, i32_w]
       rfl
      refine pure_ (i := 7) (N := some 29) (v := ?_) (a' := ?_) #[true, true, true, true, true, true, true, true, false, true, true, false, false, false] rfl rfl (any_of HT_.out (by kernel_rfl)) (fun _ _ _ h => h) (Or.inl ⟨by rfl, ?_⟩) ?_ ?_
      rotate_left
      ·intro w'
       go_simp
       with_reducible rfl
      rotate_left
      ·simp only [Act.put, List.setIfInBounds_toArray, List.set_cons_zero, List.set_cons_succ, i64_w, i32_w]
       rfl
      refine pure_ (i := 8) (N := some 30) (v := ?_) (a' := ?_) #[true, true, true, true, true, true, true, true, true, true, true, false, false, false] rfl rfl (any_of HT_.out (by kernel_rfl)) (fun _ _ _ h => h) (Or.inl ⟨by rfl, ?_⟩) ?_ ?_
      rotate_left
      ·intro w'
       go_simp
       with_reducible rfl
      rotate_left
      ·simp only [Act.put, List.setIfInBounds_toArray, List.set_cons_zero, List.set_cons_succ, i64_w, i32_w]
       rfl
      exact norm_ (by first|(simp only [putAll, Act.put, List.setIfInBounds_toArray, List.set_cons_zero, List.set_cons_succ]; done)|(simp only [putAll, Act.put, List.setIfInBounds_toArray, List.set_cons_zero, List.set_cons_succ]; rfl)) (hJ1_3_4_9_10 (gb157, gb158) _ ⟨hHeld, (by (with_reducible repeat (first|refine zA ?_ _|refine zC ?_|refine zB ?_ _)); exact BK134.out), (by (with_reducible repeat (first|refine zA ?_ _|refine zC ?_|refine zB ?_ _)); exact BK135.out), (by (with_reducible repeat (first|refine zA ?_ _|refine zC ?_|refine zB ?_ _)); exact BK157.out), (by (with_reducible repeat (first|refine zA ?_ _|refine zC ?_|refine zB ?_ _)); exact BK158.out), GW157.out, GE157.out, NB134_157.out, NB157_134.out, NB135_157.out, NB157_135.out, NB158_157.out, NB157_158.out, GW158.out, GE158.out, NB134_158.out, NB158_134.out, NB135_158.out, NB158_135.out, (by repeat (first|(with_reducible first|exact HB.out|apply zI|apply zG|apply zH|refine zJ ?_ GE134.out|refine zJ ?_ GE135.out|refine zJ ?_ GE157.out|refine zJ ?_ GE158.out)|exact HB.out))⟩)
    ·skip
     rintro gb158 w102 ⟨hS_, h0_, h1_, h2_, h3_, h4_, h5_, h6_, h7_, h8_, h9_⟩
     have n0_ : Aside0 (w102.heap[gb134]? = some (.cells #[.int .i64 a0_0, .int .i64 a0_1, .string a0_2] 63 (0, 0))) := ⟨h0_⟩
     have n1_ : Aside0 (w102.heap[gb135]? = some (.cells #[.int .i64 a1_0, .int .i64 a1_1, .int .i64 a1_2, .int .i64 a1_3, .int .i64 a1_4, .string a1_5] 64 (0, 0))) := ⟨h1_⟩
     have n2_ : Aside0 (w102.heap[gb158]? = some (.cells #[.int .i64 0, .int .i64 0, .int .i64 0, .int .i64 0, .int .i64 0, .string (⟨#[]⟩ : ByteArray)] 61 (0, 0))) := ⟨h2_⟩
     have n3_ : Aside0 (w.heap.size ≤ gb158) := ⟨h3_⟩
     have n4_ : Aside0 (w.heap.size ≤ gb158) := ⟨h4_⟩
     have n5_ : Aside0 (gb134 ≠ gb158) := ⟨h5_⟩
     have n6_ : Aside0 (gb158 ≠ gb134) := ⟨h6_⟩
     have n7_ : Aside0 (gb135 ≠ gb158) := ⟨h7_⟩
     have n8_ : Aside0 (gb158 ≠ gb135) := ⟨h8_⟩
     have n9_ : Aside0 (Below w.heap.size w w102) := ⟨h9_⟩
     clear BK134
     clear BK135
     clear HB
     clear h0_ h1_ h2_ h3_ h4_ h5_ h6_ h7_ h8_ h9_
     have BK134 := n0_
     have BK135 := n1_
     have BK158 := n2_
     have GW158 := n3_
     have GE158 := n4_
     have NB134_158 := n5_
     have NB158_134 := n6_
     have NB135_158 := n7_
     have NB158_135 := n8_
     have HB := n9_
     clear n0_ n1_ n2_ n3_ n4_ n5_ n6_ n7_ n8_ n9_
     have hHeld : w102.cell? ⟨gb134, 0, none⟩ = some (.int .i64 a0_0) ∧ w102.cell? ⟨gb134, 1, none⟩ = some (.int .i64 a0_1) ∧ w102.cell? ⟨gb134, 2, none⟩ = some (.string a0_2) ∧ w102.cell? ⟨gb135, 0, none⟩ = some (.int .i64 a1_0) ∧ w102.cell? ⟨gb135, 1, none⟩ = some (.int .i64 a1_1) ∧ w102.cell? ⟨gb135, 2, none⟩ = some (.int .i64 a1_2) ∧ w102.cell? ⟨gb135, 3, none⟩ = some (.int .i64 a1_3) ∧ w102.cell? ⟨gb135, 4, none⟩ = some (.int .i64 a1_4) ∧ w102.cell? ⟨gb135, 5, none⟩ = some (.string a1_5) := hS_
     refine norm_ (a' := ?_) ?_ ?_
     rotate_left
     ·simp only [putAll, Act.put, List.setIfInBounds_toArray, List.set_cons_zero, List.set_cons_succ]
      rfl
     refine one_ (i := 9) (N := some 6) #[true, true, true, true, true, true, true, true, true, true, true, false, false, false] rfl rfl (one_of HT_.out (by kernel_rfl)) (by decide) (fun K hK => ?_)
     refine box_step ?hg (N := 6) ?hd (cs := #[.int .i64 0, .int .i64 0, .string (⟨#[]⟩ : ByteArray)]) (t := 67) ?hr ?_; (case hd => rfl); (case hg => rfl); (case hr => first|(go_simp; done)|(go_simp; rfl))
     intro gb157 hg w103 hbox hb
     have n0_ := Aside0.mk (zK (by exact BK134.out) hb)
     have n1_ := Aside0.mk (zK (by exact BK135.out) hb)
     have n2_ := Aside0.mk (zK (by exact BK158.out) hb)
     have n3_ := Aside0.mk (zN (by repeat (first|(with_reducible first|exact HB.out|apply zI|apply zG|apply zH|refine zJ ?_ GE134.out|refine zJ ?_ GE135.out|refine zJ ?_ GE158.out)|exact HB.out)) hb)
     have n4_ := Aside0.mk (hbox)
     have n5_ := Aside0.mk ((by rw [hg]; exact (below_size (by repeat (first|(with_reducible first|exact HB.out|apply zI|apply zG|apply zH|refine zJ ?_ GE134.out|refine zJ ?_ GE135.out|refine zJ ?_ GE158.out)|exact HB.out))) : w.heap.size ≤ gb157))
     have n6_ := Aside0.mk ((by rw [hg]; exact (below_size (by repeat (first|(with_reducible first|exact HB.out|apply zI|apply zG|apply zH|refine zJ ?_ GE134.out|refine zJ ?_ GE135.out|refine zJ ?_ GE158.out)|exact HB.out))) : w.heap.size ≤ gb157))
     have n7_ := Aside0.mk ((by rw [hg]; exact Nat.ne_of_lt (blk_lt (g := gb134) (o := .cells #[.int .i64 a0_0, .int .i64 a0_1, .string a0_2] 63 (0, 0)) (by (with_reducible repeat (first|refine zA ?_ _|refine zC ?_|refine zB ?_ _)); exact BK134.out)) : gb134 ≠ gb157))
     have n8_ := Aside0.mk ((by rw [hg]; exact Nat.ne_of_gt (blk_lt (g := gb134) (o := .cells #[.int .i64 a0_0, .int .i64 a0_1, .string a0_2] 63 (0, 0)) (by (with_reducible repeat (first|refine zA ?_ _|refine zC ?_|refine zB ?_ _)); exact BK134.out)) : gb157 ≠ gb134))
     have n9_ := Aside0.mk ((by rw [hg]; exact Nat.ne_of_lt (blk_lt (g := gb135) (o := .cells #[.int .i64 a1_0, .int .i64 a1_1, .int .i64 a1_2, .int .i64 a1_3, .int .i64 a1_4, .string a1_5] 64 (0, 0)) (by (with_reducible repeat (first|refine zA ?_ _|refine zC ?_|refine zB ?_ _)); exact BK135.out)) : gb135 ≠ gb157))
     have n10_ := Aside0.mk ((by rw [hg]; exact Nat.ne_of_gt (blk_lt (g := gb135) (o := .cells #[.int .i64 a1_0, .int .i64 a1_1, .int .i64 a1_2, .int .i64 a1_3, .int .i64 a1_4, .string a1_5] 64 (0, 0)) (by (with_reducible repeat (first|refine zA ?_ _|refine zC ?_|refine zB ?_ _)); exact BK135.out)) : gb157 ≠ gb135))
     have n11_ := Aside0.mk ((by rw [hg]; exact Nat.ne_of_lt (blk_lt (g := gb158) (o := .cells #[.int .i64 0, .int .i64 0, .int .i64 0, .int .i64 0, .int .i64 0, .string (⟨#[]⟩ : ByteArray)] 61 (0, 0)) (by (with_reducible repeat (first|refine zA ?_ _|refine zC ?_|refine zB ?_ _)); exact BK158.out)) : gb158 ≠ gb157))
     have n12_ := Aside0.mk ((by rw [hg]; exact Nat.ne_of_gt (blk_lt (g := gb158) (o := .cells #[.int .i64 0, .int .i64 0, .int .i64 0, .int .i64 0, .int .i64 0, .string (⟨#[]⟩ : ByteArray)] 61 (0, 0)) (by (with_reducible repeat (first|refine zA ?_ _|refine zC ?_|refine zB ?_ _)); exact BK158.out)) : gb157 ≠ gb158))
     clear BK134
     clear BK135
     clear BK158
     clear HB
     have BK134 := n0_
     have BK135 := n1_
     have BK158 := n2_
     have HB := n3_
     have BK157 := n4_
     have GW157 := n5_
     have GE157 := n6_
     have NB134_157 := n7_
     have NB157_134 := n8_
     have NB135_157 := n9_
     have NB157_135 := n10_
     have NB158_157 := n11_
     have NB157_158 := n12_
     clear n0_ n1_ n2_ n3_ n4_ n5_ n6_ n7_ n8_ n9_ n10_ n11_ n12_
     clear hb hbox hg
     refine hK.out _ _ ⟨(zO BK134.out 0).trans rfl, (zO BK134.out 1).trans rfl, (zO BK134.out 2).trans rfl, (zO BK135.out 0).trans rfl, (zO BK135.out 1).trans rfl, (zO BK135.out 2).trans rfl, (zO BK135.out 3).trans rfl, (zO BK135.out 4).trans rfl, (zO BK135.out 5).trans rfl⟩ (fun hHeld => ?_)
     clear hK K
     refine norm_ (a' := ?_) ?_ ?_
     rotate_left
     ·show Act.put _ (some 6) _ = _
      simp only [Act.put, List.setIfInBounds_toArray, List.set_cons_zero, List.set_cons_succ, i64_w, i32_w]
      rfl
     exact norm_ (by first|(simp only [putAll, Act.put, List.setIfInBounds_toArray, List.set_cons_zero, List.set_cons_succ]; done)|(simp only [putAll, Act.put, List.setIfInBounds_toArray, List.set_cons_zero, List.set_cons_succ]; rfl)) (hJ1_3_4_9_10 (gb157, gb158) _ ⟨hHeld, (by (with_reducible repeat (first|refine zA ?_ _|refine zC ?_|refine zB ?_ _)); exact BK134.out), (by (with_reducible repeat (first|refine zA ?_ _|refine zC ?_|refine zB ?_ _)); exact BK135.out), (by (with_reducible repeat (first|refine zA ?_ _|refine zC ?_|refine zB ?_ _)); exact BK157.out), (by (with_reducible repeat (first|refine zA ?_ _|refine zC ?_|refine zB ?_ _)); exact BK158.out), GW157.out, GE157.out, NB134_157.out, NB157_134.out, NB135_157.out, NB157_135.out, NB158_157.out, NB157_158.out, GW158.out, GE158.out, NB134_158.out, NB158_134.out, NB135_158.out, NB158_135.out, (by repeat (first|(with_reducible first|exact HB.out|apply zI|apply zG|apply zH|refine zJ ?_ GE134.out|refine zJ ?_ GE135.out|refine zJ ?_ GE158.out|refine zJ ?_ GE157.out)|exact HB.out))⟩)
   ·skip
    rintro gb157 w102 ⟨hS_, h0_, h1_, h2_, h3_, h4_, h5_, h6_, h7_, h8_, h9_⟩
    have n0_ : Aside0 (w102.heap[gb134]? = some (.cells #[.int .i64 a0_0, .int .i64 a0_1, .string a0_2] 63 (0, 0))) := ⟨h0_⟩
    have n1_ : Aside0 (w102.heap[gb135]? = some (.cells #[.int .i64 a1_0, .int .i64 a1_1, .int .i64 a1_2, .int .i64 a1_3, .int .i64 a1_4, .string a1_5] 64 (0, 0))) := ⟨h1_⟩
    have n2_ : Aside0 (w102.heap[gb157]? = some (.cells #[.int .i64 0, .int .i64 0, .string (⟨#[]⟩ : ByteArray)] 67 (0, 0))) := ⟨h2_⟩
    have n3_ : Aside0 (w.heap.size ≤ gb157) := ⟨h3_⟩
    have n4_ : Aside0 (w.heap.size ≤ gb157) := ⟨h4_⟩
    have n5_ : Aside0 (gb134 ≠ gb157) := ⟨h5_⟩
    have n6_ : Aside0 (gb157 ≠ gb134) := ⟨h6_⟩
    have n7_ : Aside0 (gb135 ≠ gb157) := ⟨h7_⟩
    have n8_ : Aside0 (gb157 ≠ gb135) := ⟨h8_⟩
    have n9_ : Aside0 (Below w.heap.size w w102) := ⟨h9_⟩
    clear BK134
    clear BK135
    clear HB
    clear h0_ h1_ h2_ h3_ h4_ h5_ h6_ h7_ h8_ h9_
    have BK134 := n0_
    have BK135 := n1_
    have BK157 := n2_
    have GW157 := n3_
    have GE157 := n4_
    have NB134_157 := n5_
    have NB157_134 := n6_
    have NB135_157 := n7_
    have NB157_135 := n8_
    have HB := n9_
    clear n0_ n1_ n2_ n3_ n4_ n5_ n6_ n7_ n8_ n9_
    have hHeld : w102.cell? ⟨gb134, 0, none⟩ = some (.int .i64 a0_0) ∧ w102.cell? ⟨gb134, 1, none⟩ = some (.int .i64 a0_1) ∧ w102.cell? ⟨gb134, 2, none⟩ = some (.string a0_2) ∧ w102.cell? ⟨gb135, 0, none⟩ = some (.int .i64 a1_0) ∧ w102.cell? ⟨gb135, 1, none⟩ = some (.int .i64 a1_1) ∧ w102.cell? ⟨gb135, 2, none⟩ = some (.int .i64 a1_2) ∧ w102.cell? ⟨gb135, 3, none⟩ = some (.int .i64 a1_3) ∧ w102.cell? ⟨gb135, 4, none⟩ = some (.int .i64 a1_4) ∧ w102.cell? ⟨gb135, 5, none⟩ = some (.string a1_5) := hS_
    refine norm_ (a' := ?_) ?_ ?_
    rotate_left
    ·simp only [putAll, Act.put, List.setIfInBounds_toArray, List.set_cons_zero, List.set_cons_succ]
     rfl
    refine one_ (i := 10) (N := some 7) #[true, true, true, true, true, true, true, true, true, true, true, false, false, false] rfl rfl (one_of HT_.out (by kernel_rfl)) (by decide) (fun K hK => ?_)
    refine box_step ?hg (N := 7) ?hd (cs := #[.int .i64 0, .int .i64 0, .int .i64 0, .int .i64 0, .int .i64 0, .string (⟨#[]⟩ : ByteArray)]) (t := 61) ?hr ?_; (case hd => rfl); (case hg => rfl); (case hr => first|(go_simp; done)|(go_simp; rfl))
    intro gb158 hg w103 hbox hb
    have n0_ := Aside0.mk (zK (by exact BK134.out) hb)
    have n1_ := Aside0.mk (zK (by exact BK135.out) hb)
    have n2_ := Aside0.mk (zK (by exact BK157.out) hb)
    have n3_ := Aside0.mk (zN (by repeat (first|(with_reducible first|exact HB.out|apply zI|apply zG|apply zH|refine zJ ?_ GE134.out|refine zJ ?_ GE135.out|refine zJ ?_ GE157.out)|exact HB.out)) hb)
    have n4_ := Aside0.mk (hbox)
    have n5_ := Aside0.mk ((by rw [hg]; exact (below_size (by repeat (first|(with_reducible first|exact HB.out|apply zI|apply zG|apply zH|refine zJ ?_ GE134.out|refine zJ ?_ GE135.out|refine zJ ?_ GE157.out)|exact HB.out))) : w.heap.size ≤ gb158))
    have n6_ := Aside0.mk ((by rw [hg]; exact (below_size (by repeat (first|(with_reducible first|exact HB.out|apply zI|apply zG|apply zH|refine zJ ?_ GE134.out|refine zJ ?_ GE135.out|refine zJ ?_ GE157.out)|exact HB.out))) : w.heap.size ≤ gb158))
    have n7_ := Aside0.mk ((by rw [hg]; exact Nat.ne_of_lt (blk_lt (g := gb134) (o := .cells #[.int .i64 a0_0, .int .i64 a0_1, .string a0_2] 63 (0, 0)) (by (with_reducible repeat (first|refine zA ?_ _|refine zC ?_|refine zB ?_ _)); exact BK134.out)) : gb134 ≠ gb158))
    have n8_ := Aside0.mk ((by rw [hg]; exact Nat.ne_of_gt (blk_lt (g := gb134) (o := .cells #[.int .i64 a0_0, .int .i64 a0_1, .string a0_2] 63 (0, 0)) (by (with_reducible repeat (first|refine zA ?_ _|refine zC ?_|refine zB ?_ _)); exact BK134.out)) : gb158 ≠ gb134))
    have n9_ := Aside0.mk ((by rw [hg]; exact Nat.ne_of_lt (blk_lt (g := gb135) (o := .cells #[.int .i64 a1_0, .int .i64 a1_1, .int .i64 a1_2, .int .i64 a1_3, .int .i64 a1_4, .string a1_5] 64 (0, 0)) (by (with_reducible repeat (first|refine zA ?_ _|refine zC ?_|refine zB ?_ _)); exact BK135.out)) : gb135 ≠ gb158))
    have n10_ := Aside0.mk ((by rw [hg]; exact Nat.ne_of_gt (blk_lt (g := gb135) (o := .cells #[.int .i64 a1_0, .int .i64 a1_1, .int .i64 a1_2, .int .i64 a1_3, .int .i64 a1_4, .string a1_5] 64 (0, 0)) (by (with_reducible repeat (first|refine zA ?_ _|refine zC ?_|refine zB ?_ _)); exact BK135.out)) : gb158 ≠ gb135))
    have n11_ := Aside0.mk ((by rw [hg]; exact Nat.ne_of_lt (blk_lt (g := gb157) (o := .cells #[.int .i64 0, .int .i64 0, .string (⟨#[]⟩ : ByteArray)] 67 (0, 0)) (by (with_reducible repeat (first|refine zA ?_ _|refine zC ?_|refine zB ?_ _)); exact BK157.out)) : gb157 ≠ gb158))
    have n12_ := Aside0.mk ((by rw [hg]; exact Nat.ne_of_gt (blk_lt (g := gb157) (o := .cells #[.int .i64 0, .int .i64 0, .string (⟨#[]⟩ : ByteArray)] 67 (0, 0)) (by (with_reducible repeat (first|refine zA ?_ _|refine zC ?_|refine zB ?_ _)); exact BK157.out)) : gb158 ≠ gb157))
    clear BK134
    clear BK135
    clear BK157
    clear HB
    have BK134 := n0_
    have BK135 := n1_
    have BK157 := n2_
    have HB := n3_
    have BK158 := n4_
    have GW158 := n5_
    have GE158 := n6_
    have NB134_158 := n7_
    have NB158_134 := n8_
    have NB135_158 := n9_
    have NB158_135 := n10_
    have NB157_158 := n11_
    have NB158_157 := n12_
    clear n0_ n1_ n2_ n3_ n4_ n5_ n6_ n7_ n8_ n9_ n10_ n11_ n12_
    clear hb hbox hg
    refine hK.out _ _ ⟨(zO BK134.out 0).trans rfl, (zO BK134.out 1).trans rfl, (zO BK134.out 2).trans rfl, (zO BK135.out 0).trans rfl, (zO BK135.out 1).trans rfl, (zO BK135.out 2).trans rfl, (zO BK135.out 3).trans rfl, (zO BK135.out 4).trans rfl, (zO BK135.out 5).trans rfl⟩ (fun hHeld => ?_)
    clear hK K
    refine norm_ (a' := ?_) ?_ ?_
    rotate_left
    ·show Act.put _ (some 7) _ = _
     simp only [Act.put, List.setIfInBounds_toArray, List.set_cons_zero, List.set_cons_succ, i64_w, i32_w]
     rfl
    exact norm_ (by first|(simp only [putAll, Act.put, List.setIfInBounds_toArray, List.set_cons_zero, List.set_cons_succ]; done)|(simp only [putAll, Act.put, List.setIfInBounds_toArray, List.set_cons_zero, List.set_cons_succ]; rfl)) (hJ1_3_4_9_10 (gb157, gb158) _ ⟨hHeld, (by (with_reducible repeat (first|refine zA ?_ _|refine zC ?_|refine zB ?_ _)); exact BK134.out), (by (with_reducible repeat (first|refine zA ?_ _|refine zC ?_|refine zB ?_ _)); exact BK135.out), (by (with_reducible repeat (first|refine zA ?_ _|refine zC ?_|refine zB ?_ _)); exact BK157.out), (by (with_reducible repeat (first|refine zA ?_ _|refine zC ?_|refine zB ?_ _)); exact BK158.out), GW157.out, GE157.out, NB134_157.out, NB157_134.out, NB135_157.out, NB157_135.out, NB158_157.out, NB157_158.out, GW158.out, GE158.out, NB134_158.out, NB158_134.out, NB135_158.out, NB158_135.out, (by repeat (first|(with_reducible first|exact HB.out|apply zI|apply zG|apply zH|refine zJ ?_ GE134.out|refine zJ ?_ GE135.out|refine zJ ?_ GE157.out|refine zJ ?_ GE158.out)|exact HB.out))⟩)
  rintro ⟨gb157, gb158⟩ w103 ⟨hS_, h0_, h1_, h2_, h3_, h4_, h5_, h6_, h7_, h8_, h9_, h10_, h11_, h12_, h13_, h14_, h15_, h16_, h17_, h18_⟩
  have n0_ : Aside0 (w103.heap[gb134]? = some (.cells #[.int .i64 a0_0, .int .i64 a0_1, .string a0_2] 63 (0, 0))) := ⟨h0_⟩
  have n1_ : Aside0 (w103.heap[gb135]? = some (.cells #[.int .i64 a1_0, .int .i64 a1_1, .int .i64 a1_2, .int .i64 a1_3, .int .i64 a1_4, .string a1_5] 64 (0, 0))) := ⟨h1_⟩
  have n2_ : Aside0 (w103.heap[gb157]? = some (.cells #[.int .i64 0, .int .i64 0, .string (⟨#[]⟩ : ByteArray)] 67 (0, 0))) := ⟨h2_⟩
  have n3_ : Aside0 (w103.heap[gb158]? = some (.cells #[.int .i64 0, .int .i64 0, .int .i64 0, .int .i64 0, .int .i64 0, .string (⟨#[]⟩ : ByteArray)] 61 (0, 0))) := ⟨h3_⟩
  have n4_ : Aside0 (w.heap.size ≤ gb157) := ⟨h4_⟩
  have n5_ : Aside0 (w.heap.size ≤ gb157) := ⟨h5_⟩
  have n6_ : Aside0 (gb134 ≠ gb157) := ⟨h6_⟩
  have n7_ : Aside0 (gb157 ≠ gb134) := ⟨h7_⟩
  have n8_ : Aside0 (gb135 ≠ gb157) := ⟨h8_⟩
  have n9_ : Aside0 (gb157 ≠ gb135) := ⟨h9_⟩
  have n10_ : Aside0 (gb158 ≠ gb157) := ⟨h10_⟩
  have n11_ : Aside0 (gb157 ≠ gb158) := ⟨h11_⟩
  have n12_ : Aside0 (w.heap.size ≤ gb158) := ⟨h12_⟩
  have n13_ : Aside0 (w.heap.size ≤ gb158) := ⟨h13_⟩
  have n14_ : Aside0 (gb134 ≠ gb158) := ⟨h14_⟩
  have n15_ : Aside0 (gb158 ≠ gb134) := ⟨h15_⟩
  have n16_ : Aside0 (gb135 ≠ gb158) := ⟨h16_⟩
  have n17_ : Aside0 (gb158 ≠ gb135) := ⟨h17_⟩
  have n18_ : Aside0 (Below w.heap.size w w103) := ⟨h18_⟩
  clear BK134
  clear BK135
  clear HB
  clear h0_ h1_ h2_ h3_ h4_ h5_ h6_ h7_ h8_ h9_ h10_ h11_ h12_ h13_ h14_ h15_ h16_ h17_ h18_
  have BK134 := n0_
  have BK135 := n1_
  have BK157 := n2_
  have BK158 := n3_
  have GW157 := n4_
  have GE157 := n5_
  have NB134_157 := n6_
  have NB157_134 := n7_
  have NB135_157 := n8_
  have NB157_135 := n9_
  have NB158_157 := n10_
  have NB157_158 := n11_
  have GW158 := n12_
  have GE158 := n13_
  have NB134_158 := n14_
  have NB158_134 := n15_
  have NB135_158 := n16_
  have NB158_135 := n17_
  have HB := n18_
  clear n0_ n1_ n2_ n3_ n4_ n5_ n6_ n7_ n8_ n9_ n10_ n11_ n12_ n13_ n14_ n15_ n16_ n17_ n18_
  have hHeld : w103.cell? ⟨gb134, 0, none⟩ = some (.int .i64 a0_0) ∧ w103.cell? ⟨gb134, 1, none⟩ = some (.int .i64 a0_1) ∧ w103.cell? ⟨gb134, 2, none⟩ = some (.string a0_2) ∧ w103.cell? ⟨gb135, 0, none⟩ = some (.int .i64 a1_0) ∧ w103.cell? ⟨gb135, 1, none⟩ = some (.int .i64 a1_1) ∧ w103.cell? ⟨gb135, 2, none⟩ = some (.int .i64 a1_2) ∧ w103.cell? ⟨gb135, 3, none⟩ = some (.int .i64 a1_3) ∧ w103.cell? ⟨gb135, 4, none⟩ = some (.int .i64 a1_4) ∧ w103.cell? ⟨gb135, 5, none⟩ = some (.string a1_5) := hS_
  refine norm_ (a' := ?_) ?_ ?_
  rotate_left
  ·simp only [putAll, Act.put, List.setIfInBounds_toArray, List.set_cons_zero, List.set_cons_succ]
   rfl
  refine one_ (i := 11) (N := none) #[true, true, true, true, true, true, true, true, true, true, true, true, false, false] rfl rfl (one_of HT_.out (by kernel_rfl)) (by decide) (fun K hK => ?_)
  have hs104 : w103.cell? ⟨gb157, 0, none⟩ = some (.int .i64 0) := (zO BK157.out 0).trans rfl
  have hfs104 := zP BK157.out 0
  have hns104_0 := NB134_157.out
  have hns104_1 := NB135_157.out
  have hns104_3 := NB158_157.out
  have hms104_0 := NB157_134.out
  have hms104_1 := NB157_135.out
  have hms104_3 := NB157_158.out
  have hs105 : w103.cell? ⟨gb157, 1, none⟩ = some (.int .i64 0) := (zO BK157.out 1).trans rfl
  have hfs105 := zP BK157.out 1
  have hns105_0 := NB134_157.out
  have hns105_1 := NB135_157.out
  have hns105_3 := NB158_157.out
  have hms105_0 := NB157_134.out
  have hms105_1 := NB157_135.out
  have hms105_3 := NB157_158.out
  have hs106 : w103.cell? ⟨gb157, 2, none⟩ = some (.string (⟨#[]⟩ : ByteArray)) := (zO BK157.out 2).trans rfl
  have hfs106 := zP BK157.out 2
  have hns106_0 := NB134_157.out
  have hns106_1 := NB135_157.out
  have hns106_3 := NB158_157.out
  have hms106_0 := NB157_134.out
  have hms106_1 := NB157_135.out
  have hms106_3 := NB157_158.out
  refine skip_ (w1 := ?_) (by rfl) rfl ?_ ?_
  rotate_left
  ·go_simp
   rfl
  refine hK.out _ _ ⟨((cell_far (p := ⟨gb157, _, none⟩) NB134_157.out _).trans (((cell_far (p := ⟨gb157, _, none⟩) NB134_157.out _).trans (((cell_far (p := ⟨gb157, _, none⟩) NB134_157.out _).trans (hHeld.1)))))), ((cell_far (p := ⟨gb157, _, none⟩) NB134_157.out _).trans (((cell_far (p := ⟨gb157, _, none⟩) NB134_157.out _).trans (((cell_far (p := ⟨gb157, _, none⟩) NB134_157.out _).trans (hHeld.2.1)))))), ((cell_far (p := ⟨gb157, _, none⟩) NB134_157.out _).trans (((cell_far (p := ⟨gb157, _, none⟩) NB134_157.out _).trans (((cell_far (p := ⟨gb157, _, none⟩) NB134_157.out _).trans (hHeld.2.2.1)))))), ((cell_far (p := ⟨gb157, _, none⟩) NB135_157.out _).trans (((cell_far (p := ⟨gb157, _, none⟩) NB135_157.out _).trans (((cell_far (p := ⟨gb157, _, none⟩) NB135_157.out _).trans (hHeld.2.2.2.1)))))), ((cell_far (p := ⟨gb157, _, none⟩) NB135_157.out _).trans (((cell_far (p := ⟨gb157, _, none⟩) NB135_157.out _).trans (((cell_far (p := ⟨gb157, _, none⟩) NB135_157.out _).trans (hHeld.2.2.2.2.1)))))), ((cell_far (p := ⟨gb157, _, none⟩) NB135_157.out _).trans (((cell_far (p := ⟨gb157, _, none⟩) NB135_157.out _).trans (((cell_far (p := ⟨gb157, _, none⟩) NB135_157.out _).trans (hHeld.2.2.2.2.2.1)))))), ((cell_far (p := ⟨gb157, _, none⟩) NB135_157.out _).trans (((cell_far (p := ⟨gb157, _, none⟩) NB135_157.out _).trans (((cell_far (p := ⟨gb157, _, none⟩) NB135_157.out _).trans (hHeld.2.2.2.2.2.2.1)))))), ((cell_far (p := ⟨gb157, _, none⟩) NB135_157.out _).trans (((cell_far (p := ⟨gb157, _, none⟩) NB135_157.out _).trans (((cell_far (p := ⟨gb157, _, none⟩) NB135_157.out _).trans (hHeld.2.2.2.2.2.2.2.1)))))), ((cell_far (p := ⟨gb157, _, none⟩) NB135_157.out _).trans (((cell_far (p := ⟨gb157, _, none⟩) NB135_157.out _).trans (((cell_far (p := ⟨gb157, _, none⟩) NB135_157.out _).trans (hHeld.2.2.2.2.2.2.2.2))))))⟩ (fun hHeld => ?_)
  clear hK K
  refine one_ (i := 12) (N := none) #[true, true, true, true, true, true, true, true, true, true, true, true, true, false] rfl rfl (one_of HT_.out (by kernel_rfl)) (by decide) (fun K hK => ?_)
  have hs107 : w103.cell? ⟨gb158, 0, none⟩ = some (.int .i64 0) := (zO BK158.out 0).trans rfl
  have hfs107 := zP BK158.out 0
  have hns107_0 := NB134_158.out
  have hns107_1 := NB135_158.out
  have hns107_2 := NB157_158.out
  have hms107_0 := NB158_134.out
  have hms107_1 := NB158_135.out
  have hms107_2 := NB158_157.out
  have hs108 : w103.cell? ⟨gb158, 1, none⟩ = some (.int .i64 0) := (zO BK158.out 1).trans rfl
  have hfs108 := zP BK158.out 1
  have hns108_0 := NB134_158.out
  have hns108_1 := NB135_158.out
  have hns108_2 := NB157_158.out
  have hms108_0 := NB158_134.out
  have hms108_1 := NB158_135.out
  have hms108_2 := NB158_157.out
  have hs109 : w103.cell? ⟨gb158, 2, none⟩ = some (.int .i64 0) := (zO BK158.out 2).trans rfl
  have hfs109 := zP BK158.out 2
  have hns109_0 := NB134_158.out
  have hns109_1 := NB135_158.out
  have hns109_2 := NB157_158.out
  have hms109_0 := NB158_134.out
  have hms109_1 := NB158_135.out
  have hms109_2 := NB158_157.out
  have hs110 : w103.cell? ⟨gb158, 3, none⟩ = some (.int .i64 0) := (zO BK158.out 3).trans rfl
  have hfs110 := zP BK158.out 3
  have hns110_0 := NB134_158.out
  have hns110_1 := NB135_158.out
  have hns110_2 := NB157_158.out
  have hms110_0 := NB158_134.out
  have hms110_1 := NB158_135.out
  have hms110_2 := NB158_157.out
  have hs111 : w103.cell? ⟨gb158, 4, none⟩ = some (.int .i64 0) := (zO BK158.out 4).trans rfl
  have hfs111 := zP BK158.out 4
  have hns111_0 := NB134_158.out
  have hns111_1 := NB135_158.out
  have hns111_2 := NB157_158.out
  have hms111_0 := NB158_134.out
  have hms111_1 := NB158_135.out
  have hms111_2 := NB158_157.out
  have hs112 : w103.cell? ⟨gb158, 5, none⟩ = some (.string (⟨#[]⟩ : ByteArray)) := (zO BK158.out 5).trans rfl
  have hfs112 := zP BK158.out 5
  have hns112_0 := NB134_158.out
  have hns112_1 := NB135_158.out
  have hns112_2 := NB157_158.out
  have hms112_0 := NB158_134.out
  have hms112_1 := NB158_135.out
  have hms112_2 := NB158_157.out
  refine skip_ (w1 := ?_) (by rfl) rfl ?_ ?_
  rotate_left
  ·go_simp
   rfl
  refine hK.out _ _ ⟨((cell_far (p := ⟨gb158, _, none⟩) NB134_158.out _).trans (((cell_far (p := ⟨gb158, _, none⟩) NB134_158.out _).trans (((cell_far (p := ⟨gb158, _, none⟩) NB134_158.out _).trans (((cell_far (p := ⟨gb158, _, none⟩) NB134_158.out _).trans (((cell_far (p := ⟨gb158, _, none⟩) NB134_158.out _).trans (((cell_far (p := ⟨gb158, _, none⟩) NB134_158.out _).trans (hHeld.1)))))))))))), ((cell_far (p := ⟨gb158, _, none⟩) NB134_158.out _).trans (((cell_far (p := ⟨gb158, _, none⟩) NB134_158.out _).trans (((cell_far (p := ⟨gb158, _, none⟩) NB134_158.out _).trans (((cell_far (p := ⟨gb158, _, none⟩) NB134_158.out _).trans (((cell_far (p := ⟨gb158, _, none⟩) NB134_158.out _).trans (((cell_far (p := ⟨gb158, _, none⟩) NB134_158.out _).trans (hHeld.2.1)))))))))))), ((cell_far (p := ⟨gb158, _, none⟩) NB134_158.out _).trans (((cell_far (p := ⟨gb158, _, none⟩) NB134_158.out _).trans (((cell_far (p := ⟨gb158, _, none⟩) NB134_158.out _).trans (((cell_far (p := ⟨gb158, _, none⟩) NB134_158.out _).trans (((cell_far (p := ⟨gb158, _, none⟩) NB134_158.out _).trans (((cell_far (p := ⟨gb158, _, none⟩) NB134_158.out _).trans (hHeld.2.2.1)))))))))))), ((cell_far (p := ⟨gb158, _, none⟩) NB135_158.out _).trans (((cell_far (p := ⟨gb158, _, none⟩) NB135_158.out _).trans (((cell_far (p := ⟨gb158, _, none⟩) NB135_158.out _).trans (((cell_far (p := ⟨gb158, _, none⟩) NB135_158.out _).trans (((cell_far (p := ⟨gb158, _, none⟩) NB135_158.out _).trans (((cell_far (p := ⟨gb158, _, none⟩) NB135_158.out _).trans (hHeld.2.2.2.1)))))))))))), ((cell_far (p := ⟨gb158, _, none⟩) NB135_158.out _).trans (((cell_far (p := ⟨gb158, _, none⟩) NB135_158.out _).trans (((cell_far (p := ⟨gb158, _, none⟩) NB135_158.out _).trans (((cell_far (p := ⟨gb158, _, none⟩) NB135_158.out _).trans (((cell_far (p := ⟨gb158, _, none⟩) NB135_158.out _).trans (((cell_far (p := ⟨gb158, _, none⟩) NB135_158.out _).trans (hHeld.2.2.2.2.1)))))))))))), ((cell_far (p := ⟨gb158, _, none⟩) NB135_158.out _).trans (((cell_far (p := ⟨gb158, _, none⟩) NB135_158.out _).trans (((cell_far (p := ⟨gb158, _, none⟩) NB135_158.out _).trans (((cell_far (p := ⟨gb158, _, none⟩) NB135_158.out _).trans (((cell_far (p := ⟨gb158, _, none⟩) NB135_158.out _).trans (((cell_far (p := ⟨gb158, _, none⟩) NB135_158.out _).trans (hHeld.2.2.2.2.2.1)))))))))))), ((cell_far (p := ⟨gb158, _, none⟩) NB135_158.out _).trans (((cell_far (p := ⟨gb158, _, none⟩) NB135_158.out _).trans (((cell_far (p := ⟨gb158, _, none⟩) NB135_158.out _).trans (((cell_far (p := ⟨gb158, _, none⟩) NB135_158.out _).trans (((cell_far (p := ⟨gb158, _, none⟩) NB135_158.out _).trans (((cell_far (p := ⟨gb158, _, none⟩) NB135_158.out _).trans (hHeld.2.2.2.2.2.2.1)))))))))))), ((cell_far (p := ⟨gb158, _, none⟩) NB135_158.out _).trans (((cell_far (p := ⟨gb158, _, none⟩) NB135_158.out _).trans (((cell_far (p := ⟨gb158, _, none⟩) NB135_158.out _).trans (((cell_far (p := ⟨gb158, _, none⟩) NB135_158.out _).trans (((cell_far (p := ⟨gb158, _, none⟩) NB135_158.out _).trans (((cell_far (p := ⟨gb158, _, none⟩) NB135_158.out _).trans (hHeld.2.2.2.2.2.2.2.1)))))))))))), ((cell_far (p := ⟨gb158, _, none⟩) NB135_158.out _).trans (((cell_far (p := ⟨gb158, _, none⟩) NB135_158.out _).trans (((cell_far (p := ⟨gb158, _, none⟩) NB135_158.out _).trans (((cell_far (p := ⟨gb158, _, none⟩) NB135_158.out _).trans (((cell_far (p := ⟨gb158, _, none⟩) NB135_158.out _).trans (((cell_far (p := ⟨gb158, _, none⟩) NB135_158.out _).trans (hHeld.2.2.2.2.2.2.2.2))))))))))))⟩ (fun hHeld => ?_)
  clear hK K
  refine pure_ (i := 13) (N := some 8) (v := ?_) (a' := ?_) #[true, true, true, true, true, true, true, true, true, true, true, true, true, true] rfl rfl (any_of HT_.out (by kernel_rfl)) (fun _ _ _ h => h) (Or.inl ⟨by rfl, ?_⟩) ?_ ?_
  rotate_left
  ·intro w'
   go_simp
   with_reducible rfl
  rotate_left
  ·simp only [Act.put, List.setIfInBounds_toArray, List.set_cons_zero, List.set_cons_succ, i64_w, i32_w]
   rfl
  refine done_ (done_of HT_.out (by kernel_rfl)) ?_
  try go_wp2
  have n0_ : Aside0 ((((((((((w103.setCell ⟨gb157, 0, none⟩ (.int .i64 t147)).setCell ⟨gb157, 1, none⟩ (.int .i64 t148)).setCell ⟨gb157, 2, none⟩ (.string t149)).setCell ⟨gb158, 0, none⟩ (.int .i64 t150)).setCell ⟨gb158, 1, none⟩ (.int .i64 t151)).setCell ⟨gb158, 2, none⟩ (.int .i64 t152)).setCell ⟨gb158, 3, none⟩ (.int .i64 t153)).setCell ⟨gb158, 4, none⟩ (.int .i64 t154)).setCell ⟨gb158, 5, none⟩ (.string t155)).heap[gb134]? = some (.cells #[.int .i64 a0_0, .int .i64 a0_1, .string a0_2] 63 (0, 0))) := ⟨by (with_reducible repeat (first|refine zA ?_ _|refine zC ?_|refine zB ?_ _)); refine zT ?_ NB134_158.out _; (with_reducible repeat (first|refine zA ?_ _|refine zC ?_|refine zB ?_ _)); refine zT ?_ NB134_158.out _; (with_reducible repeat (first|refine zA ?_ _|refine zC ?_|refine zB ?_ _)); refine zT ?_ NB134_158.out _; (with_reducible repeat (first|refine zA ?_ _|refine zC ?_|refine zB ?_ _)); refine zT ?_ NB134_158.out _; (with_reducible repeat (first|refine zA ?_ _|refine zC ?_|refine zB ?_ _)); refine zT ?_ NB134_158.out _; (with_reducible repeat (first|refine zA ?_ _|refine zC ?_|refine zB ?_ _)); refine zT ?_ NB134_158.out _; (with_reducible repeat (first|refine zA ?_ _|refine zC ?_|refine zB ?_ _)); refine zT ?_ NB134_157.out _; (with_reducible repeat (first|refine zA ?_ _|refine zC ?_|refine zB ?_ _)); refine zT ?_ NB134_157.out _; (with_reducible repeat (first|refine zA ?_ _|refine zC ?_|refine zB ?_ _)); refine zT ?_ NB134_157.out _; (with_reducible repeat (first|refine zA ?_ _|refine zC ?_|refine zB ?_ _)); exact BK134.out⟩
  have n1_ : Aside0 ((((((((((w103.setCell ⟨gb157, 0, none⟩ (.int .i64 t147)).setCell ⟨gb157, 1, none⟩ (.int .i64 t148)).setCell ⟨gb157, 2, none⟩ (.string t149)).setCell ⟨gb158, 0, none⟩ (.int .i64 t150)).setCell ⟨gb158, 1, none⟩ (.int .i64 t151)).setCell ⟨gb158, 2, none⟩ (.int .i64 t152)).setCell ⟨gb158, 3, none⟩ (.int .i64 t153)).setCell ⟨gb158, 4, none⟩ (.int .i64 t154)).setCell ⟨gb158, 5, none⟩ (.string t155)).heap[gb135]? = some (.cells #[.int .i64 a1_0, .int .i64 a1_1, .int .i64 a1_2, .int .i64 a1_3, .int .i64 a1_4, .string a1_5] 64 (0, 0))) := ⟨by (with_reducible repeat (first|refine zA ?_ _|refine zC ?_|refine zB ?_ _)); refine zT ?_ NB135_158.out _; (with_reducible repeat (first|refine zA ?_ _|refine zC ?_|refine zB ?_ _)); refine zT ?_ NB135_158.out _; (with_reducible repeat (first|refine zA ?_ _|refine zC ?_|refine zB ?_ _)); refine zT ?_ NB135_158.out _; (with_reducible repeat (first|refine zA ?_ _|refine zC ?_|refine zB ?_ _)); refine zT ?_ NB135_158.out _; (with_reducible repeat (first|refine zA ?_ _|refine zC ?_|refine zB ?_ _)); refine zT ?_ NB135_158.out _; (with_reducible repeat (first|refine zA ?_ _|refine zC ?_|refine zB ?_ _)); refine zT ?_ NB135_158.out _; (with_reducible repeat (first|refine zA ?_ _|refine zC ?_|refine zB ?_ _)); refine zT ?_ NB135_157.out _; (with_reducible repeat (first|refine zA ?_ _|refine zC ?_|refine zB ?_ _)); refine zT ?_ NB135_157.out _; (with_reducible repeat (first|refine zA ?_ _|refine zC ?_|refine zB ?_ _)); refine zT ?_ NB135_157.out _; (with_reducible repeat (first|refine zA ?_ _|refine zC ?_|refine zB ?_ _)); exact BK135.out⟩
  have n2_ : Aside0 ((((((((((w103.setCell ⟨gb157, 0, none⟩ (.int .i64 t147)).setCell ⟨gb157, 1, none⟩ (.int .i64 t148)).setCell ⟨gb157, 2, none⟩ (.string t149)).setCell ⟨gb158, 0, none⟩ (.int .i64 t150)).setCell ⟨gb158, 1, none⟩ (.int .i64 t151)).setCell ⟨gb158, 2, none⟩ (.int .i64 t152)).setCell ⟨gb158, 3, none⟩ (.int .i64 t153)).setCell ⟨gb158, 4, none⟩ (.int .i64 t154)).setCell ⟨gb158, 5, none⟩ (.string t155)).heap[gb157]? = some (.cells #[.int .i64 t147, .int .i64 t148, .string t149] 67 (0, 0))) := ⟨by (with_reducible repeat (first|refine zA ?_ _|refine zC ?_|refine zB ?_ _)); refine zT ?_ NB157_158.out _; (with_reducible repeat (first|refine zA ?_ _|refine zC ?_|refine zB ?_ _)); refine zT ?_ NB157_158.out _; (with_reducible repeat (first|refine zA ?_ _|refine zC ?_|refine zB ?_ _)); refine zT ?_ NB157_158.out _; (with_reducible repeat (first|refine zA ?_ _|refine zC ?_|refine zB ?_ _)); refine zT ?_ NB157_158.out _; (with_reducible repeat (first|refine zA ?_ _|refine zC ?_|refine zB ?_ _)); refine zT ?_ NB157_158.out _; (with_reducible repeat (first|refine zA ?_ _|refine zC ?_|refine zB ?_ _)); refine zT ?_ NB157_158.out _; (with_reducible repeat (first|refine zA ?_ _|refine zC ?_|refine zB ?_ _)); refine blk_put (cs := #[.int .i64 t147, .int .i64 t148, .string (⟨#[]⟩ : ByteArray)]) ?_ 2 _ rfl; (with_reducible repeat (first|refine zA ?_ _|refine zC ?_|refine zB ?_ _)); refine blk_put (cs := #[.int .i64 t147, .int .i64 0, .string (⟨#[]⟩ : ByteArray)]) ?_ 1 _ rfl; (with_reducible repeat (first|refine zA ?_ _|refine zC ?_|refine zB ?_ _)); refine blk_put (cs := #[.int .i64 0, .int .i64 0, .string (⟨#[]⟩ : ByteArray)]) ?_ 0 _ rfl; (with_reducible repeat (first|refine zA ?_ _|refine zC ?_|refine zB ?_ _)); exact BK157.out⟩
  have n3_ : Aside0 ((((((((((w103.setCell ⟨gb157, 0, none⟩ (.int .i64 t147)).setCell ⟨gb157, 1, none⟩ (.int .i64 t148)).setCell ⟨gb157, 2, none⟩ (.string t149)).setCell ⟨gb158, 0, none⟩ (.int .i64 t150)).setCell ⟨gb158, 1, none⟩ (.int .i64 t151)).setCell ⟨gb158, 2, none⟩ (.int .i64 t152)).setCell ⟨gb158, 3, none⟩ (.int .i64 t153)).setCell ⟨gb158, 4, none⟩ (.int .i64 t154)).setCell ⟨gb158, 5, none⟩ (.string t155)).heap[gb158]? = some (.cells #[.int .i64 t150, .int .i64 t151, .int .i64 t152, .int .i64 t153, .int .i64 t154, .string t155] 61 (0, 0))) := ⟨by (with_reducible repeat (first|refine zA ?_ _|refine zC ?_|refine zB ?_ _)); refine blk_put (cs := #[.int .i64 t150, .int .i64 t151, .int .i64 t152, .int .i64 t153, .int .i64 t154, .string (⟨#[]⟩ : ByteArray)]) ?_ 5 _ rfl; (with_reducible repeat (first|refine zA ?_ _|refine zC ?_|refine zB ?_ _)); refine blk_put (cs := #[.int .i64 t150, .int .i64 t151, .int .i64 t152, .int .i64 t153, .int .i64 0, .string (⟨#[]⟩ : ByteArray)]) ?_ 4 _ rfl; (with_reducible repeat (first|refine zA ?_ _|refine zC ?_|refine zB ?_ _)); refine blk_put (cs := #[.int .i64 t150, .int .i64 t151, .int .i64 t152, .int .i64 0, .int .i64 0, .string (⟨#[]⟩ : ByteArray)]) ?_ 3 _ rfl; (with_reducible repeat (first|refine zA ?_ _|refine zC ?_|refine zB ?_ _)); refine blk_put (cs := #[.int .i64 t150, .int .i64 t151, .int .i64 0, .int .i64 0, .int .i64 0, .string (⟨#[]⟩ : ByteArray)]) ?_ 2 _ rfl; (with_reducible repeat (first|refine zA ?_ _|refine zC ?_|refine zB ?_ _)); refine blk_put (cs := #[.int .i64 t150, .int .i64 0, .int .i64 0, .int .i64 0, .int .i64 0, .string (⟨#[]⟩ : ByteArray)]) ?_ 1 _ rfl; (with_reducible repeat (first|refine zA ?_ _|refine zC ?_|refine zB ?_ _)); refine blk_put (cs := #[.int .i64 0, .int .i64 0, .int .i64 0, .int .i64 0, .int .i64 0, .string (⟨#[]⟩ : ByteArray)]) ?_ 0 _ rfl; (with_reducible repeat (first|refine zA ?_ _|refine zC ?_|refine zB ?_ _)); refine zT ?_ NB158_157.out _; (with_reducible repeat (first|refine zA ?_ _|refine zC ?_|refine zB ?_ _)); refine zT ?_ NB158_157.out _; (with_reducible repeat (first|refine zA ?_ _|refine zC ?_|refine zB ?_ _)); refine zT ?_ NB158_157.out _; (with_reducible repeat (first|refine zA ?_ _|refine zC ?_|refine zB ?_ _)); exact BK158.out⟩
  have n4_ : Aside0 (Below w.heap.size w (((((((((w103.setCell ⟨gb157, 0, none⟩ (.int .i64 t147)).setCell ⟨gb157, 1, none⟩ (.int .i64 t148)).setCell ⟨gb157, 2, none⟩ (.string t149)).setCell ⟨gb158, 0, none⟩ (.int .i64 t150)).setCell ⟨gb158, 1, none⟩ (.int .i64 t151)).setCell ⟨gb158, 2, none⟩ (.int .i64 t152)).setCell ⟨gb158, 3, none⟩ (.int .i64 t153)).setCell ⟨gb158, 4, none⟩ (.int .i64 t154)).setCell ⟨gb158, 5, none⟩ (.string t155))) := ⟨by repeat (first|(with_reducible first|exact HB.out|apply zI|apply zG|apply zH|refine zJ ?_ GE134.out|refine zJ ?_ GE135.out|refine zJ ?_ GE157.out|refine zJ ?_ GE158.out)|exact HB.out)⟩
  (try clear BK134)
  (try clear BK135)
  (try clear BK157)
  (try clear BK158)
  (try clear HB)
  generalize (((((((((w103.setCell ⟨gb157, 0, none⟩ (.int .i64 t147)).setCell ⟨gb157, 1, none⟩ (.int .i64 t148)).setCell ⟨gb157, 2, none⟩ (.string t149)).setCell ⟨gb158, 0, none⟩ (.int .i64 t150)).setCell ⟨gb158, 1, none⟩ (.int .i64 t151)).setCell ⟨gb158, 2, none⟩ (.int .i64 t152)).setCell ⟨gb158, 3, none⟩ (.int .i64 t153)).setCell ⟨gb158, 4, none⟩ (.int .i64 t154)).setCell ⟨gb158, 5, none⟩ (.string t155)) = w113 at n0_ n1_ n2_ n3_ n4_ ⊢
  have BK134 := n0_
  have BK135 := n1_
  have BK157 := n2_
  have BK158 := n3_
  have HB := n4_
  clear n0_ n1_ n2_ n3_ n4_
  refine walk3b k a0_0 a0_1 a0_2 a1_0 a1_1 a1_2 a1_3 a1_4 a1_5 t136 t137 t138 t139 t140 t141 t142 t143 t144 t145 t146 t147 t148 t149 t150 t151 t152 t153 t154 t155 t156 t159 t160 t161 t162 t163 t164 t165 t166 t167 t168 t169 t170 t171 t172 t173 t174 t175 t176 t177 w A22 A23 A24 A25 A27 c29b0 c29b1 c29b2 gb134 gb135 gb157 gb158 w113 GE134 GE135 GE157 GE158 NB134_135 NB134_157 NB134_158 NB135_134 NB135_157 NB135_158 NB157_134 NB157_135 NB157_158 NB158_134 NB158_135 NB158_157 BK134 BK135 BK157 BK158 HB _ ?_
  assumption
set_option maxHeartbeats 4000000 in
set_option maxRecDepth 100000 in
theorem walk_end1 (k : Nat) (a0_0 a0_1 : Int) (a0_2 : ByteArray) (a1_0 a1_1 a1_2 a1_3 a1_4 : Int) (a1_5 : ByteArray) (r1 : Int) (h1 : laws_szVoice.f a0_0 a0_1 a0_2 1048576 = some r1) (c1 : r1 < 0) (w : World) :
    Calls Try.prog 12 #[.agg #[.int .i64 a0_0, .int .i64 a0_1, .string a0_2], .agg #[.int .i64 a1_0, .int .i64 a1_1, .int .i64 a1_2, .int .i64 a1_3, .int .i64 a1_4, .string a1_5]] w fun e w' => e = .returned (.bool true) ∧ Below w.heap.size w w' := by
  have E1 := Aside0.mk h1
  clear h1
  have c1b : decide (r1 < 0) = true := decide_eq_true c1
  have HB := Aside0.mk (Below.refl w.heap.size w)
  go_enter Try.func12, Try.ntmps12
  go_wp2_with (first | ((with_reducible refine gate_dst (N := 2) rfl ?_); refine box_event ?hg (N := 2) ?hd (cs := #[.int .i64 a0_0, .int .i64 a0_1, .string a0_2]) (t := 63) ?hr ?_; (case hd => rfl); (case hg => rfl); (case hr => first | (go_simp; done) | (go_simp; rfl)); intro g2 hg w2 hbox hb; have nB_ := Aside0.mk hbox; have G2 := Aside0.mk (show w.heap.size ≤ g2 by rw [hg]; exact below_size HB.out); have nb_ := Aside0.mk (below_step HB.out hb); clear HB  hb; have HB := nb_; clear nb_ ; have B2 := nB_; clear nB_ hbox hg; have hc2_0 : w2.cell? ⟨g2, 0, none⟩ = some (.int .i64 a0_0) := (blk_cell B2.out 0).trans rfl; have hf2_0 := blk_frozen B2.out 0; have hc2_1 : w2.cell? ⟨g2, 1, none⟩ = some (.int .i64 a0_1) := (blk_cell B2.out 1).trans rfl; have hf2_1 := blk_frozen B2.out 1; have hc2_2 : w2.cell? ⟨g2, 2, none⟩ = some (.string a0_2) := (blk_cell B2.out 2).trans rfl; have hf2_2 := blk_frozen B2.out 2) | ((with_reducible refine gate_dst (N := 3) rfl ?_); refine box_event ?hg (N := 3) ?hd (cs := #[.int .i64 a1_0, .int .i64 a1_1, .int .i64 a1_2, .int .i64 a1_3, .int .i64 a1_4, .string a1_5]) (t := 64) ?hr ?_; (case hd => rfl); (case hg => rfl); (case hr => first | (go_simp; done) | (go_simp; rfl)); intro g3 hg w3 hbox hb; have nB_ := Aside0.mk hbox; have G3 := Aside0.mk (show w.heap.size ≤ g3 by rw [hg]; exact below_size HB.out); have N2_3 := Aside0.mk (show g2 ≠ g3 by rw [hg]; exact Nat.ne_of_lt (blk_lt B2.out)); have n0_ := Aside0.mk (blk_below B2.out hb); have nb_ := Aside0.mk (below_step HB.out hb); clear HB B2 hb; clear hc2_0 hf2_0 hc2_1 hf2_1 hc2_2 hf2_2; have B2 := n0_; have HB := nb_; clear nb_ n0_; have B3 := nB_; clear nB_ hbox hg; have hc2_0 : w3.cell? ⟨g2, 0, none⟩ = some (.int .i64 a0_0) := (blk_cell B2.out 0).trans rfl; have hf2_0 := blk_frozen B2.out 0; have hc2_1 : w3.cell? ⟨g2, 1, none⟩ = some (.int .i64 a0_1) := (blk_cell B2.out 1).trans rfl; have hf2_1 := blk_frozen B2.out 1; have hc2_2 : w3.cell? ⟨g2, 2, none⟩ = some (.string a0_2) := (blk_cell B2.out 2).trans rfl; have hf2_2 := blk_frozen B2.out 2; have hc3_0 : w3.cell? ⟨g3, 0, none⟩ = some (.int .i64 a1_0) := (blk_cell B3.out 0).trans rfl; have hf3_0 := blk_frozen B3.out 0; have hc3_1 : w3.cell? ⟨g3, 1, none⟩ = some (.int .i64 a1_1) := (blk_cell B3.out 1).trans rfl; have hf3_1 := blk_frozen B3.out 1; have hc3_2 : w3.cell? ⟨g3, 2, none⟩ = some (.int .i64 a1_2) := (blk_cell B3.out 2).trans rfl; have hf3_2 := blk_frozen B3.out 2; have hc3_3 : w3.cell? ⟨g3, 3, none⟩ = some (.int .i64 a1_3) := (blk_cell B3.out 3).trans rfl; have hf3_3 := blk_frozen B3.out 3; have hc3_4 : w3.cell? ⟨g3, 4, none⟩ = some (.int .i64 a1_4) := (blk_cell B3.out 4).trans rfl; have hf3_4 := blk_frozen B3.out 4; have hc3_5 : w3.cell? ⟨g3, 5, none⟩ = some (.string a1_5) := (blk_cell B3.out 5).trans rfl; have hf3_5 := blk_frozen B3.out 5) | ((with_reducible refine gate_callee (f := 44) rfl ?_); refine goesL_ (some 14) rfl rfl Try.func44 (by kernel_rfl) rfl #[.agg #[.int .i64 a0_0, .int .i64 a0_1, .string a0_2], .int .i64 1048576] rfl (by (try simp only [List.map_toArray, List.map_cons, List.map_nil]); first | done | rfl) ?_; (with_reducible refine (laws_szVoice.calls a0_0 a0_1 a0_2 1048576 r1 _ E1.out).mono ?_); rintro e w4 ⟨rfl, hb⟩; refine ⟨_, rfl, ?_⟩; have n0_ := Aside0.mk (blk_below B2.out hb); have n1_ := Aside0.mk (blk_below B3.out hb); have nb_ := Aside0.mk (below_step HB.out hb); clear HB B2 B3 hb; clear hc2_0 hf2_0 hc2_1 hf2_1 hc2_2 hf2_2 hc3_0 hf3_0 hc3_1 hf3_1 hc3_2 hf3_2 hc3_3 hf3_3 hc3_4 hf3_4 hc3_5 hf3_5; have B2 := n0_; have B3 := n1_; have HB := nb_; clear nb_ n0_ n1_; have hc2_0 : w4.cell? ⟨g2, 0, none⟩ = some (.int .i64 a0_0) := (blk_cell B2.out 0).trans rfl; have hf2_0 := blk_frozen B2.out 0; have hc2_1 : w4.cell? ⟨g2, 1, none⟩ = some (.int .i64 a0_1) := (blk_cell B2.out 1).trans rfl; have hf2_1 := blk_frozen B2.out 1; have hc2_2 : w4.cell? ⟨g2, 2, none⟩ = some (.string a0_2) := (blk_cell B2.out 2).trans rfl; have hf2_2 := blk_frozen B2.out 2; have hc3_0 : w4.cell? ⟨g3, 0, none⟩ = some (.int .i64 a1_0) := (blk_cell B3.out 0).trans rfl; have hf3_0 := blk_frozen B3.out 0; have hc3_1 : w4.cell? ⟨g3, 1, none⟩ = some (.int .i64 a1_1) := (blk_cell B3.out 1).trans rfl; have hf3_1 := blk_frozen B3.out 1; have hc3_2 : w4.cell? ⟨g3, 2, none⟩ = some (.int .i64 a1_2) := (blk_cell B3.out 2).trans rfl; have hf3_2 := blk_frozen B3.out 2; have hc3_3 : w4.cell? ⟨g3, 3, none⟩ = some (.int .i64 a1_3) := (blk_cell B3.out 3).trans rfl; have hf3_3 := blk_frozen B3.out 3; have hc3_4 : w4.cell? ⟨g3, 4, none⟩ = some (.int .i64 a1_4) := (blk_cell B3.out 4).trans rfl; have hf3_4 := blk_frozen B3.out 4; have hc3_5 : w4.cell? ⟨g3, 5, none⟩ = some (.string a1_5) := (blk_cell B3.out 5).trans rfl; have hf3_5 := blk_frozen B3.out 5))
  go_ret
  exact ⟨rfl, HB.out⟩
set_option maxHeartbeats 4000000 in
set_option maxRecDepth 100000 in
theorem walk_end2 (k : Nat) (a0_0 a0_1 : Int) (a0_2 : ByteArray) (a1_0 a1_1 a1_2 a1_3 a1_4 : Int) (a1_5 : ByteArray) (r1 : Int) (h1 : laws_szVoice.f a0_0 a0_1 a0_2 1048576 = some r1) (c1 : ¬ r1 < 0) (r2 : Int) (h2 : laws_szNote.f a1_0 a1_1 a1_2 a1_3 a1_4 a1_5 r1 = some r2) (c2 : r2 < 0) (w : World) :
    Calls Try.prog 12 #[.agg #[.int .i64 a0_0, .int .i64 a0_1, .string a0_2], .agg #[.int .i64 a1_0, .int .i64 a1_1, .int .i64 a1_2, .int .i64 a1_3, .int .i64 a1_4, .string a1_5]] w fun e w' => e = .returned (.bool true) ∧ Below w.heap.size w w' := by
  have E1 := Aside0.mk h1
  have E2 := Aside0.mk h2
  clear h1 h2
  have c1b : decide (r1 < 0) = false := decide_eq_false c1
  have c2b : decide (r2 < 0) = true := decide_eq_true c2
  have HB := Aside0.mk (Below.refl w.heap.size w)
  go_enter Try.func12, Try.ntmps12
  go_wp2_with (first | ((with_reducible refine gate_dst (N := 2) rfl ?_); refine box_event ?hg (N := 2) ?hd (cs := #[.int .i64 a0_0, .int .i64 a0_1, .string a0_2]) (t := 63) ?hr ?_; (case hd => rfl); (case hg => rfl); (case hr => first | (go_simp; done) | (go_simp; rfl)); intro g2 hg w2 hbox hb; have nB_ := Aside0.mk hbox; have G2 := Aside0.mk (show w.heap.size ≤ g2 by rw [hg]; exact below_size HB.out); have nb_ := Aside0.mk (below_step HB.out hb); clear HB  hb; have HB := nb_; clear nb_ ; have B2 := nB_; clear nB_ hbox hg; have hc2_0 : w2.cell? ⟨g2, 0, none⟩ = some (.int .i64 a0_0) := (blk_cell B2.out 0).trans rfl; have hf2_0 := blk_frozen B2.out 0; have hc2_1 : w2.cell? ⟨g2, 1, none⟩ = some (.int .i64 a0_1) := (blk_cell B2.out 1).trans rfl; have hf2_1 := blk_frozen B2.out 1; have hc2_2 : w2.cell? ⟨g2, 2, none⟩ = some (.string a0_2) := (blk_cell B2.out 2).trans rfl; have hf2_2 := blk_frozen B2.out 2) | ((with_reducible refine gate_dst (N := 3) rfl ?_); refine box_event ?hg (N := 3) ?hd (cs := #[.int .i64 a1_0, .int .i64 a1_1, .int .i64 a1_2, .int .i64 a1_3, .int .i64 a1_4, .string a1_5]) (t := 64) ?hr ?_; (case hd => rfl); (case hg => rfl); (case hr => first | (go_simp; done) | (go_simp; rfl)); intro g3 hg w3 hbox hb; have nB_ := Aside0.mk hbox; have G3 := Aside0.mk (show w.heap.size ≤ g3 by rw [hg]; exact below_size HB.out); have N2_3 := Aside0.mk (show g2 ≠ g3 by rw [hg]; exact Nat.ne_of_lt (blk_lt B2.out)); have n0_ := Aside0.mk (blk_below B2.out hb); have nb_ := Aside0.mk (below_step HB.out hb); clear HB B2 hb; clear hc2_0 hf2_0 hc2_1 hf2_1 hc2_2 hf2_2; have B2 := n0_; have HB := nb_; clear nb_ n0_; have B3 := nB_; clear nB_ hbox hg; have hc2_0 : w3.cell? ⟨g2, 0, none⟩ = some (.int .i64 a0_0) := (blk_cell B2.out 0).trans rfl; have hf2_0 := blk_frozen B2.out 0; have hc2_1 : w3.cell? ⟨g2, 1, none⟩ = some (.int .i64 a0_1) := (blk_cell B2.out 1).trans rfl; have hf2_1 := blk_frozen B2.out 1; have hc2_2 : w3.cell? ⟨g2, 2, none⟩ = some (.string a0_2) := (blk_cell B2.out 2).trans rfl; have hf2_2 := blk_frozen B2.out 2; have hc3_0 : w3.cell? ⟨g3, 0, none⟩ = some (.int .i64 a1_0) := (blk_cell B3.out 0).trans rfl; have hf3_0 := blk_frozen B3.out 0; have hc3_1 : w3.cell? ⟨g3, 1, none⟩ = some (.int .i64 a1_1) := (blk_cell B3.out 1).trans rfl; have hf3_1 := blk_frozen B3.out 1; have hc3_2 : w3.cell? ⟨g3, 2, none⟩ = some (.int .i64 a1_2) := (blk_cell B3.out 2).trans rfl; have hf3_2 := blk_frozen B3.out 2; have hc3_3 : w3.cell? ⟨g3, 3, none⟩ = some (.int .i64 a1_3) := (blk_cell B3.out 3).trans rfl; have hf3_3 := blk_frozen B3.out 3; have hc3_4 : w3.cell? ⟨g3, 4, none⟩ = some (.int .i64 a1_4) := (blk_cell B3.out 4).trans rfl; have hf3_4 := blk_frozen B3.out 4; have hc3_5 : w3.cell? ⟨g3, 5, none⟩ = some (.string a1_5) := (blk_cell B3.out 5).trans rfl; have hf3_5 := blk_frozen B3.out 5) | ((with_reducible refine gate_callee (f := 44) rfl ?_); refine goesL_ (some 14) rfl rfl Try.func44 (by kernel_rfl) rfl #[.agg #[.int .i64 a0_0, .int .i64 a0_1, .string a0_2], .int .i64 1048576] rfl (by (try simp only [List.map_toArray, List.map_cons, List.map_nil]); first | done | rfl) ?_; (with_reducible refine (laws_szVoice.calls a0_0 a0_1 a0_2 1048576 r1 _ E1.out).mono ?_); rintro e w4 ⟨rfl, hb⟩; refine ⟨_, rfl, ?_⟩; have n0_ := Aside0.mk (blk_below B2.out hb); have n1_ := Aside0.mk (blk_below B3.out hb); have nb_ := Aside0.mk (below_step HB.out hb); clear HB B2 B3 hb; clear hc2_0 hf2_0 hc2_1 hf2_1 hc2_2 hf2_2 hc3_0 hf3_0 hc3_1 hf3_1 hc3_2 hf3_2 hc3_3 hf3_3 hc3_4 hf3_4 hc3_5 hf3_5; have B2 := n0_; have B3 := n1_; have HB := nb_; clear nb_ n0_ n1_; have hc2_0 : w4.cell? ⟨g2, 0, none⟩ = some (.int .i64 a0_0) := (blk_cell B2.out 0).trans rfl; have hf2_0 := blk_frozen B2.out 0; have hc2_1 : w4.cell? ⟨g2, 1, none⟩ = some (.int .i64 a0_1) := (blk_cell B2.out 1).trans rfl; have hf2_1 := blk_frozen B2.out 1; have hc2_2 : w4.cell? ⟨g2, 2, none⟩ = some (.string a0_2) := (blk_cell B2.out 2).trans rfl; have hf2_2 := blk_frozen B2.out 2; have hc3_0 : w4.cell? ⟨g3, 0, none⟩ = some (.int .i64 a1_0) := (blk_cell B3.out 0).trans rfl; have hf3_0 := blk_frozen B3.out 0; have hc3_1 : w4.cell? ⟨g3, 1, none⟩ = some (.int .i64 a1_1) := (blk_cell B3.out 1).trans rfl; have hf3_1 := blk_frozen B3.out 1; have hc3_2 : w4.cell? ⟨g3, 2, none⟩ = some (.int .i64 a1_2) := (blk_cell B3.out 2).trans rfl; have hf3_2 := blk_frozen B3.out 2; have hc3_3 : w4.cell? ⟨g3, 3, none⟩ = some (.int .i64 a1_3) := (blk_cell B3.out 3).trans rfl; have hf3_3 := blk_frozen B3.out 3; have hc3_4 : w4.cell? ⟨g3, 4, none⟩ = some (.int .i64 a1_4) := (blk_cell B3.out 4).trans rfl; have hf3_4 := blk_frozen B3.out 4; have hc3_5 : w4.cell? ⟨g3, 5, none⟩ = some (.string a1_5) := (blk_cell B3.out 5).trans rfl; have hf3_5 := blk_frozen B3.out 5) | ((with_reducible refine gate_callee (f := 45) rfl ?_); refine goesL_ (some 19) rfl rfl Try.func45 (by kernel_rfl) rfl #[.agg #[.int .i64 a1_0, .int .i64 a1_1, .int .i64 a1_2, .int .i64 a1_3, .int .i64 a1_4, .string a1_5], .int .i64 r1] rfl (by (try simp only [List.map_toArray, List.map_cons, List.map_nil]); first | done | rfl) ?_; (with_reducible refine (laws_szNote.calls a1_0 a1_1 a1_2 a1_3 a1_4 a1_5 r1 r2 _ E2.out).mono ?_); rintro e w5 ⟨rfl, hb⟩; refine ⟨_, rfl, ?_⟩; have n0_ := Aside0.mk (blk_below B2.out hb); have n1_ := Aside0.mk (blk_below B3.out hb); have nb_ := Aside0.mk (below_step HB.out hb); clear HB B2 B3 hb; clear hc2_0 hf2_0 hc2_1 hf2_1 hc2_2 hf2_2 hc3_0 hf3_0 hc3_1 hf3_1 hc3_2 hf3_2 hc3_3 hf3_3 hc3_4 hf3_4 hc3_5 hf3_5; have B2 := n0_; have B3 := n1_; have HB := nb_; clear nb_ n0_ n1_; have hc2_0 : w5.cell? ⟨g2, 0, none⟩ = some (.int .i64 a0_0) := (blk_cell B2.out 0).trans rfl; have hf2_0 := blk_frozen B2.out 0; have hc2_1 : w5.cell? ⟨g2, 1, none⟩ = some (.int .i64 a0_1) := (blk_cell B2.out 1).trans rfl; have hf2_1 := blk_frozen B2.out 1; have hc2_2 : w5.cell? ⟨g2, 2, none⟩ = some (.string a0_2) := (blk_cell B2.out 2).trans rfl; have hf2_2 := blk_frozen B2.out 2; have hc3_0 : w5.cell? ⟨g3, 0, none⟩ = some (.int .i64 a1_0) := (blk_cell B3.out 0).trans rfl; have hf3_0 := blk_frozen B3.out 0; have hc3_1 : w5.cell? ⟨g3, 1, none⟩ = some (.int .i64 a1_1) := (blk_cell B3.out 1).trans rfl; have hf3_1 := blk_frozen B3.out 1; have hc3_2 : w5.cell? ⟨g3, 2, none⟩ = some (.int .i64 a1_2) := (blk_cell B3.out 2).trans rfl; have hf3_2 := blk_frozen B3.out 2; have hc3_3 : w5.cell? ⟨g3, 3, none⟩ = some (.int .i64 a1_3) := (blk_cell B3.out 3).trans rfl; have hf3_3 := blk_frozen B3.out 3; have hc3_4 : w5.cell? ⟨g3, 4, none⟩ = some (.int .i64 a1_4) := (blk_cell B3.out 4).trans rfl; have hf3_4 := blk_frozen B3.out 4; have hc3_5 : w5.cell? ⟨g3, 5, none⟩ = some (.string a1_5) := (blk_cell B3.out 5).trans rfl; have hf3_5 := blk_frozen B3.out 5))
  go_ret
  exact ⟨rfl, HB.out⟩
/-- What the law answers: true, where what its callees answer lets it; nothing is said of the other ways. -/
def laws_FnExactHearNote.f (k : Nat) (a0_0 : Int) (a0_1 : Int) (a0_2 : ByteArray) (a1_0 : Int) (a1_1 : Int) (a1_2 : Int) (a1_3 : Int) (a1_4 : Int) (a1_5 : ByteArray) : Option Bool :=
  (laws_szVoice.f a0_0 a0_1 a0_2 1048576).bind fun r1 => if r1 < 0 then some true else (laws_szNote.f a1_0 a1_1 a1_2 a1_3 a1_4 a1_5 r1).bind fun r2 => if r2 < 0 then some true else
  (laws_toVoice.f a0_0 a0_1 a0_2).bind fun v => (laws_toNote.f a1_0 a1_1 a1_2 a1_3 a1_4 a1_5).bind fun n => (spec_HearNote.f k v.1 v.2.1 v.2.2 n.1 n.2.1 n.2.2.1 n.2.2.2.1 n.2.2.2.2.1 n.2.2.2.2.2).bind fun s =>
  (laws_toVoice.f a0_0 a0_1 a0_2).bind fun x => (laws_toNote.f a1_0 a1_1 a1_2 a1_3 a1_4 a1_5).bind fun y => (impl_HearNote.f k x.1 x.2.1 x.2.2 y.1 y.2.1 y.2.2.1 y.2.2.2.1 y.2.2.2.2.1 y.2.2.2.2.2).bind fun g =>
  (laws_eqVoice.f g.1 g.2.1 g.2.2.1 s.1 s.2.1 s.2.2.1).bind fun b => if b = true then (laws_eqNote.f g.2.2.2.1 g.2.2.2.2.1 g.2.2.2.2.2.1 g.2.2.2.2.2.2.1 g.2.2.2.2.2.2.2.1 g.2.2.2.2.2.2.2.2.1 s.2.2.2.1 s.2.2.2.2.1 s.2.2.2.2.2.1 s.2.2.2.2.2.2.1 s.2.2.2.2.2.2.2.1 s.2.2.2.2.2.2.2.2.1).bind fun c => if c = true then (if g.2.2.2.2.2.2.2.2.2 = s.2.2.2.2.2.2.2.2.2 then some true else none) else none else none
theorem laws_FnExactHearNote.calls (k : Nat) (a0_0 : Int) (a0_1 : Int) (a0_2 : ByteArray) (a1_0 : Int) (a1_1 : Int) (a1_2 : Int) (a1_3 : Int) (a1_4 : Int) (a1_5 : ByteArray) (r : Bool) (w : World) (h : laws_FnExactHearNote.f k a0_0 a0_1 a0_2 a1_0 a1_1 a1_2 a1_3 a1_4 a1_5 = some r) :
    Calls Try.prog 12 #[.agg #[.int .i64 a0_0, .int .i64 a0_1, .string a0_2], .agg #[.int .i64 a1_0, .int .i64 a1_1, .int .i64 a1_2, .int .i64 a1_3, .int .i64 a1_4, .string a1_5]] w fun e w' => e = .returned (.bool r) ∧ Below w.heap.size w w' := by
  unfold laws_FnExactHearNote.f at h
  obtain ⟨r1, h1, h⟩ := Option.bind_eq_some_iff.mp h
  by_cases c1 : r1 < 0
  · rw [if_pos c1] at h
    obtain rfl := Option.some.inj h
    exact walk_end1 k a0_0 a0_1 a0_2 a1_0 a1_1 a1_2 a1_3 a1_4 a1_5 r1 h1 c1 w
  rw [if_neg c1] at h
  obtain ⟨r2, h2, h⟩ := Option.bind_eq_some_iff.mp h
  by_cases c2 : r2 < 0
  · rw [if_pos c2] at h
    obtain rfl := Option.some.inj h
    exact walk_end2 k a0_0 a0_1 a0_2 a1_0 a1_1 a1_2 a1_3 a1_4 a1_5 r1 h1 c1 r2 h2 c2 w
  rw [if_neg c2] at h
  obtain ⟨⟨t138, t139, t140⟩, h3, h⟩ := Option.bind_eq_some_iff.mp h
  obtain ⟨⟨t141, t142, t143, t144, t145, t146⟩, h4, h⟩ := Option.bind_eq_some_iff.mp h
  obtain ⟨⟨t147, t148, t149, t150, t151, t152, t153, t154, t155, t156⟩, h5, h⟩ := Option.bind_eq_some_iff.mp h
  obtain ⟨⟨t159, t160, t161⟩, h6, h⟩ := Option.bind_eq_some_iff.mp h
  obtain ⟨⟨t162, t163, t164, t165, t166, t167⟩, h7, h⟩ := Option.bind_eq_some_iff.mp h
  obtain ⟨⟨t168, t169, t170, t171, t172, t173, t174, t175, t176, t177⟩, h8, h⟩ := Option.bind_eq_some_iff.mp h
  obtain ⟨b, h9, h⟩ := Option.bind_eq_some_iff.mp h
  cases b with
  | false => rw [if_neg (by simp)] at h; cases h
  | true =>
    rw [if_pos rfl] at h
    obtain ⟨c, h10, h⟩ := Option.bind_eq_some_iff.mp h
    cases c with
    | false => rw [if_neg (by simp)] at h; cases h
    | true =>
      rw [if_pos rfl] at h
      by_cases hq : t177 = t156
      · rw [if_pos hq] at h
        obtain rfl := Option.some.inj h
        exact walk3 k a0_0 a0_1 a0_2 a1_0 a1_1 a1_2 a1_3 a1_4 a1_5 r1 r2 t138 t139 t140 t141 t142 t143 t144 t145 t146 t147 t148 t149 t150 t151 t152 t153 t154 t155 t156 t159 t160 t161 t162 t163 t164 t165 t166 t167 t168 t169 t170 t171 t172 t173 t174 t175 t176 t177 w ⟨h1⟩ (decide_eq_false c1) ⟨h2⟩ (decide_eq_false c2) ⟨h3⟩ ⟨h4⟩ ⟨h5⟩ ⟨h6⟩ ⟨h7⟩ ⟨h8⟩ ⟨h9⟩ ⟨h10⟩ (by rw [hq]; exact bne_self_eq_false t156) (decide_eq_true hq) (by rw [hq]; exact beq_self_eq_true t156)
      · rw [if_neg hq] at h; cases h
end Go.Proofs.Ytocgakpicmcemaa.PFnExactHearNote
