/- Walks of the functions that the law reaches: by programs of this session, over a tool's print. -/
import Derived.Test.YtediiolcoilepaaGFnNearNewx0
import Derived.Test.YtediiolcoilepaaGFnNearNewx5
import Derived.Test.YtediiolcoilepaaGFnNearNewx6
import Derived.Test.YtediiolcoilepaaGFnNearNewx8
import Derived.Test.YtediiolcoilepaaGFnNearNewx9
namespace Go.Proofs.Ytediiolcoilepaa.GFnNearNew
open Go.RowKit Go.Proofs.YtediiolcoilepaaW.PrintWords Go.Proofs.YtediiolcoilepaaW.PrintLast Go.Proofs.YtediiolcoilepaaW.PrintMore
attribute [local go_sem] max2_int min2_int max_two min_two max_three min_three max_four min_four   -- for this text's walks alone
set_option linter.unusedVariables false
set_option linter.unusedSimpArgs false

/-! ### impl_NearOk: function 12 -/
mutual
def impl_NearOk.j0 : Nat → Bool → List (S73) → Int → List (S103) → List (S103) → Int → Int → List ByteArray → Int → List ByteArray → Int → List ByteArray → List Int → Int → Int → Option (Bool)
 |0, _, _, _, _, _, _, _, _, _, _, _, _, _, _, _ => none
 |k + 1, x20, x361000, x361001, x361002, x361003, x361004, x361005, x361006, x361007, x361008, x361009, x361010, x361011, x361012, x361013 => if x20 = true then (some false) else ((slices_Concat_string_string.f (([x361006, x361008, x361010] : List (List ByteArray)))).bind fun t366 => ((slices_Sort_string_string.f t366).bind fun t369 => (impl_NearOk.l0 k t369 ([] : List ByteArray) x361000 (x361000.length : Int) 0 x361000 x361001 x361002 x361003 x361004 x361005 x361006 x361007 x361008 x361009 x361010 x361011 x361012 x361013)))
def impl_NearOk.l0 : Nat → List ByteArray → List ByteArray → List (S73) → Int → Int → List (S73) → Int → List (S103) → List (S103) → Int → Int → List ByteArray → Int → List ByteArray → Int → List ByteArray → List Int → Int → Int → Option (Bool)
 |0, _, _, _, _, _, _, _, _, _, _, _, _, _, _, _, _, _, _, _ => none
 |k + 1, x3, x4, x36, x37, x38, x361000, x361001, x361002, x361003, x361004, x361005, x361006, x361007, x361008, x361009, x361010, x361011, x361012, x361013 => if x38 < x37 then (if 0 ≤ x38 then (if x38 < (x36.length : Int) then (if (rd_T73 x36 x38).f1 = true then (if x4.length < 8796093022208 then (impl_NearOk.l0 k x3 (x4 ++ [(rd_T73 x36 x38).f2]) x36 x37 (wrap64 (x38 + 1)) x361000 x361001 x361002 x361003 x361004 x361005 x361006 x361007 x361008 x361009 x361010 x361011 x361012 x361013) else (none)) else (impl_NearOk.l0 k x3 x4 x36 x37 (wrap64 (x38 + 1)) x361000 x361001 x361002 x361003 x361004 x361005 x361006 x361007 x361008 x361009 x361010 x361011 x361012 x361013)) else (none)) else (none)) else ((slices_Sort_string_string.f x4).bind fun t375 => ((impl_Table_keys.f k x361002 x361003 x361004).bind fun t376 => ((slices_Equal_string_string.f k x3 t376).bind fun t379 => (if t379 = true then ((slices_Equal_string_string.f k t375 t376).bind fun t380 => (impl_NearOk.j2 k t376 (!t380) x361000 x361001 x361002 x361003 x361004 x361005 x361006 x361007 x361008 x361009 x361010 x361011 x361012 x361013)) else (impl_NearOk.j2 k t376 true x361000 x361001 x361002 x361003 x361004 x361005 x361006 x361007 x361008 x361009 x361010 x361011 x361012 x361013)))))
def impl_NearOk.j2 : Nat → List ByteArray → Bool → List (S73) → Int → List (S103) → List (S103) → Int → Int → List ByteArray → Int → List ByteArray → Int → List ByteArray → List Int → Int → Int → Option (Bool)
 |0, _, _, _, _, _, _, _, _, _, _, _, _, _, _, _, _ => none
 |k + 1, x7, x64, x361000, x361001, x361002, x361003, x361004, x361005, x361006, x361007, x361008, x361009, x361010, x361011, x361012, x361013 => if x64 = true then (some false) else (impl_NearOk.l1 k x7 (x7.length : Int) 0 x361000 x361001 x361002 x361003 x361004 x361005 x361006 x361007 x361008 x361009 x361010 x361011 x361012 x361013)
def impl_NearOk.l1 : Nat → List ByteArray → Int → Int → List (S73) → Int → List (S103) → List (S103) → Int → Int → List ByteArray → Int → List ByteArray → Int → List ByteArray → List Int → Int → Int → Option (Bool)
 |0, _, _, _, _, _, _, _, _, _, _, _, _, _, _, _, _, _ => none
 |k + 1, x65, x66, x67, x361000, x361001, x361002, x361003, x361004, x361005, x361006, x361007, x361008, x361009, x361010, x361011, x361012, x361013 => if x67 < x66 then (if 0 ≤ x67 then (if x67 < (x65.length : Int) then ((impl_Table_find.f k x361002 x361003 x361004 (rdOf ByteArray.empty x65 x67)).bind fun bt382 => ((impl_Arena_place.f x361000 x361001 bt382.1).bind fun t384 => (if t384 < 0 then (some false) else (if 0 ≤ t384 then (if t384 < (x361000.length : Int) then (if ((rd_T73 x361000 t384).f2).toList = (rdOf ByteArray.empty x65 x67).toList then (impl_NearOk.l1 k x65 x66 (wrap64 (x67 + 1)) x361000 x361001 x361002 x361003 x361004 x361005 x361006 x361007 x361008 x361009 x361010 x361011 x361012 x361013) else (some false)) else (none)) else (none))))) else (none)) else (none)) else (some true)
end
def impl_NearOk.f (k : Nat) (l0_0 : List (S73)) (a0_1 : Int) (l0_2 : List (S103)) (l0_3 : List (S103)) (a0_4 : Int) (a0_5 : Int) (l0_6 : List ByteArray) (a0_7 : Int) (l0_8 : List ByteArray) (a0_9 : Int) (l0_10 : List ByteArray) (l0_11 : List Int) (a0_12 : Int) (a0_13 : Int) : Option (Bool) := (impl_Near_partsOk.f k l0_0 a0_1 l0_2 l0_3 a0_4 a0_5 l0_6 a0_7 l0_8 a0_9 l0_10 l0_11 a0_12 a0_13).bind fun t361 => (if t361 = true then ((impl_Near_shapeOk.f k l0_0 a0_1 l0_2 l0_3 a0_4 a0_5 l0_6 a0_7 l0_8 a0_9 l0_10 l0_11 a0_12 a0_13).bind fun t362 => (impl_NearOk.j0 k (!t362) l0_0 a0_1 l0_2 l0_3 a0_4 a0_5 l0_6 a0_7 l0_8 a0_9 l0_10 l0_11 a0_12 a0_13)) else (impl_NearOk.j0 k true l0_0 a0_1 l0_2 l0_3 a0_4 a0_5 l0_6 a0_7 l0_8 a0_9 l0_10 l0_11 a0_12 a0_13))
theorem impl_NearOk.mono_l : ∀ k, (∀ y0 y1 y2 y3 y4 y5 y6 y7 y8 y9 y10 y11 y12 y13 y14, LeO (impl_NearOk.j0 k y0 y1 y2 y3 y4 y5 y6 y7 y8 y9 y10 y11 y12 y13 y14) (impl_NearOk.j0 (k + 1) y0 y1 y2 y3 y4 y5 y6 y7 y8 y9 y10 y11 y12 y13 y14)) ∧ (∀ y0 y1 y2 y3 y4 y5 y6 y7 y8 y9 y10 y11 y12 y13 y14 y15 y16 y17 y18, LeO (impl_NearOk.l0 k y0 y1 y2 y3 y4 y5 y6 y7 y8 y9 y10 y11 y12 y13 y14 y15 y16 y17 y18) (impl_NearOk.l0 (k + 1) y0 y1 y2 y3 y4 y5 y6 y7 y8 y9 y10 y11 y12 y13 y14 y15 y16 y17 y18)) ∧ (∀ y0 y1 y2 y3 y4 y5 y6 y7 y8 y9 y10 y11 y12 y13 y14 y15, LeO (impl_NearOk.j2 k y0 y1 y2 y3 y4 y5 y6 y7 y8 y9 y10 y11 y12 y13 y14 y15) (impl_NearOk.j2 (k + 1) y0 y1 y2 y3 y4 y5 y6 y7 y8 y9 y10 y11 y12 y13 y14 y15)) ∧ (∀ y0 y1 y2 y3 y4 y5 y6 y7 y8 y9 y10 y11 y12 y13 y14 y15 y16, LeO (impl_NearOk.l1 k y0 y1 y2 y3 y4 y5 y6 y7 y8 y9 y10 y11 y12 y13 y14 y15 y16) (impl_NearOk.l1 (k + 1) y0 y1 y2 y3 y4 y5 y6 y7 y8 y9 y10 y11 y12 y13 y14 y15 y16))
 |0 => ⟨fun _ _ _ _ _ _ _ _ _ _ _ _ _ _ _ r h => by simp [impl_NearOk.j0] at h, fun _ _ _ _ _ _ _ _ _ _ _ _ _ _ _ _ _ _ _ r h => by simp [impl_NearOk.l0] at h, fun _ _ _ _ _ _ _ _ _ _ _ _ _ _ _ _ r h => by simp [impl_NearOk.j2] at h, fun _ _ _ _ _ _ _ _ _ _ _ _ _ _ _ _ _ r h => by simp [impl_NearOk.l1] at h⟩
 |k + 1 => by
    obtain ⟨ih0, ih1, ih2, ih3⟩ := impl_NearOk.mono_l k
    refine ⟨?_, ?_, ?_, ?_⟩
    · intro y0 y1 y2 y3 y4 y5 y6 y7 y8 y9 y10 y11 y12 y13 y14
      unfold impl_NearOk.j0
      repeat' first
     |(with_reducible exact ih0 _ _ _ _ _ _ _ _ _ _ _ _ _ _ _)
     |(with_reducible exact ih1 _ _ _ _ _ _ _ _ _ _ _ _ _ _ _ _ _ _ _)
     |(with_reducible exact ih2 _ _ _ _ _ _ _ _ _ _ _ _ _ _ _ _)
     |(with_reducible exact ih3 _ _ _ _ _ _ _ _ _ _ _ _ _ _ _ _ _)
     |(with_reducible exact impl_Near_partsOk.mono _ _ _ _ _ _ _ _ _ _ _ _ _ _ _)
     |(with_reducible exact impl_Near_shapeOk.mono _ _ _ _ _ _ _ _ _ _ _ _ _ _ _)
     |(with_reducible exact impl_Table_find.mono _ _ _ _ _)
     |(with_reducible exact impl_Table_keys.mono _ _ _ _)
     |(with_reducible exact slices_Equal_string_string.mono _ _ _)
     |(with_reducible exact LeO.refl _)
     |(with_reducible exact LeO.none _)
     |(with_reducible refine LeO.ite ?_ ?_)
     |(with_reducible refine LeO.bind ?_ (fun _ => ?_))
     |exact ih0 _ _ _ _ _ _ _ _ _ _ _ _ _ _ _
     |exact ih1 _ _ _ _ _ _ _ _ _ _ _ _ _ _ _ _ _ _ _
     |exact ih2 _ _ _ _ _ _ _ _ _ _ _ _ _ _ _ _
     |exact ih3 _ _ _ _ _ _ _ _ _ _ _ _ _ _ _ _ _
     |exact impl_Near_partsOk.mono _ _ _ _ _ _ _ _ _ _ _ _ _ _ _
     |exact impl_Near_shapeOk.mono _ _ _ _ _ _ _ _ _ _ _ _ _ _ _
     |exact impl_Table_find.mono _ _ _ _ _
     |exact impl_Table_keys.mono _ _ _ _
     |exact slices_Equal_string_string.mono _ _ _
     |exact LeO.none _
     |refine LeO.ite ?_ ?_
     |refine LeO.bind ?_ (fun _ => ?_)
    · intro y0 y1 y2 y3 y4 y5 y6 y7 y8 y9 y10 y11 y12 y13 y14 y15 y16 y17 y18
      unfold impl_NearOk.l0
      repeat' first
     |(with_reducible exact ih0 _ _ _ _ _ _ _ _ _ _ _ _ _ _ _)
     |(with_reducible exact ih1 _ _ _ _ _ _ _ _ _ _ _ _ _ _ _ _ _ _ _)
     |(with_reducible exact ih2 _ _ _ _ _ _ _ _ _ _ _ _ _ _ _ _)
     |(with_reducible exact ih3 _ _ _ _ _ _ _ _ _ _ _ _ _ _ _ _ _)
     |(with_reducible exact impl_Near_partsOk.mono _ _ _ _ _ _ _ _ _ _ _ _ _ _ _)
     |(with_reducible exact impl_Near_shapeOk.mono _ _ _ _ _ _ _ _ _ _ _ _ _ _ _)
     |(with_reducible exact impl_Table_find.mono _ _ _ _ _)
     |(with_reducible exact impl_Table_keys.mono _ _ _ _)
     |(with_reducible exact slices_Equal_string_string.mono _ _ _)
     |(with_reducible exact LeO.refl _)
     |(with_reducible exact LeO.none _)
     |(with_reducible refine LeO.ite ?_ ?_)
     |(with_reducible refine LeO.bind ?_ (fun _ => ?_))
     |exact ih0 _ _ _ _ _ _ _ _ _ _ _ _ _ _ _
     |exact ih1 _ _ _ _ _ _ _ _ _ _ _ _ _ _ _ _ _ _ _
     |exact ih2 _ _ _ _ _ _ _ _ _ _ _ _ _ _ _ _
     |exact ih3 _ _ _ _ _ _ _ _ _ _ _ _ _ _ _ _ _
     |exact impl_Near_partsOk.mono _ _ _ _ _ _ _ _ _ _ _ _ _ _ _
     |exact impl_Near_shapeOk.mono _ _ _ _ _ _ _ _ _ _ _ _ _ _ _
     |exact impl_Table_find.mono _ _ _ _ _
     |exact impl_Table_keys.mono _ _ _ _
     |exact slices_Equal_string_string.mono _ _ _
     |exact LeO.none _
     |refine LeO.ite ?_ ?_
     |refine LeO.bind ?_ (fun _ => ?_)
    · intro y0 y1 y2 y3 y4 y5 y6 y7 y8 y9 y10 y11 y12 y13 y14 y15
      unfold impl_NearOk.j2
      repeat' first
     |(with_reducible exact ih0 _ _ _ _ _ _ _ _ _ _ _ _ _ _ _)
     |(with_reducible exact ih1 _ _ _ _ _ _ _ _ _ _ _ _ _ _ _ _ _ _ _)
     |(with_reducible exact ih2 _ _ _ _ _ _ _ _ _ _ _ _ _ _ _ _)
     |(with_reducible exact ih3 _ _ _ _ _ _ _ _ _ _ _ _ _ _ _ _ _)
     |(with_reducible exact impl_Near_partsOk.mono _ _ _ _ _ _ _ _ _ _ _ _ _ _ _)
     |(with_reducible exact impl_Near_shapeOk.mono _ _ _ _ _ _ _ _ _ _ _ _ _ _ _)
     |(with_reducible exact impl_Table_find.mono _ _ _ _ _)
     |(with_reducible exact impl_Table_keys.mono _ _ _ _)
     |(with_reducible exact slices_Equal_string_string.mono _ _ _)
     |(with_reducible exact LeO.refl _)
     |(with_reducible exact LeO.none _)
     |(with_reducible refine LeO.ite ?_ ?_)
     |(with_reducible refine LeO.bind ?_ (fun _ => ?_))
     |exact ih0 _ _ _ _ _ _ _ _ _ _ _ _ _ _ _
     |exact ih1 _ _ _ _ _ _ _ _ _ _ _ _ _ _ _ _ _ _ _
     |exact ih2 _ _ _ _ _ _ _ _ _ _ _ _ _ _ _ _
     |exact ih3 _ _ _ _ _ _ _ _ _ _ _ _ _ _ _ _ _
     |exact impl_Near_partsOk.mono _ _ _ _ _ _ _ _ _ _ _ _ _ _ _
     |exact impl_Near_shapeOk.mono _ _ _ _ _ _ _ _ _ _ _ _ _ _ _
     |exact impl_Table_find.mono _ _ _ _ _
     |exact impl_Table_keys.mono _ _ _ _
     |exact slices_Equal_string_string.mono _ _ _
     |exact LeO.none _
     |refine LeO.ite ?_ ?_
     |refine LeO.bind ?_ (fun _ => ?_)
    · intro y0 y1 y2 y3 y4 y5 y6 y7 y8 y9 y10 y11 y12 y13 y14 y15 y16
      unfold impl_NearOk.l1
      repeat' first
     |(with_reducible exact ih0 _ _ _ _ _ _ _ _ _ _ _ _ _ _ _)
     |(with_reducible exact ih1 _ _ _ _ _ _ _ _ _ _ _ _ _ _ _ _ _ _ _)
     |(with_reducible exact ih2 _ _ _ _ _ _ _ _ _ _ _ _ _ _ _ _)
     |(with_reducible exact ih3 _ _ _ _ _ _ _ _ _ _ _ _ _ _ _ _ _)
     |(with_reducible exact impl_Near_partsOk.mono _ _ _ _ _ _ _ _ _ _ _ _ _ _ _)
     |(with_reducible exact impl_Near_shapeOk.mono _ _ _ _ _ _ _ _ _ _ _ _ _ _ _)
     |(with_reducible exact impl_Table_find.mono _ _ _ _ _)
     |(with_reducible exact impl_Table_keys.mono _ _ _ _)
     |(with_reducible exact slices_Equal_string_string.mono _ _ _)
     |(with_reducible exact LeO.refl _)
     |(with_reducible exact LeO.none _)
     |(with_reducible refine LeO.ite ?_ ?_)
     |(with_reducible refine LeO.bind ?_ (fun _ => ?_))
     |exact ih0 _ _ _ _ _ _ _ _ _ _ _ _ _ _ _
     |exact ih1 _ _ _ _ _ _ _ _ _ _ _ _ _ _ _ _ _ _ _
     |exact ih2 _ _ _ _ _ _ _ _ _ _ _ _ _ _ _ _
     |exact ih3 _ _ _ _ _ _ _ _ _ _ _ _ _ _ _ _ _
     |exact impl_Near_partsOk.mono _ _ _ _ _ _ _ _ _ _ _ _ _ _ _
     |exact impl_Near_shapeOk.mono _ _ _ _ _ _ _ _ _ _ _ _ _ _ _
     |exact impl_Table_find.mono _ _ _ _ _
     |exact impl_Table_keys.mono _ _ _ _
     |exact slices_Equal_string_string.mono _ _ _
     |exact LeO.none _
     |refine LeO.ite ?_ ?_
     |refine LeO.bind ?_ (fun _ => ?_)
theorem impl_NearOk.mono : ∀ a0 a1 a2 a3 a4 a5 a6 a7 a8 a9 a10 a11 a12 a13 k, LeO (impl_NearOk.f k a0 a1 a2 a3 a4 a5 a6 a7 a8 a9 a10 a11 a12 a13) (impl_NearOk.f (k + 1) a0 a1 a2 a3 a4 a5 a6 a7 a8 a9 a10 a11 a12 a13) := by
  intro a0 a1 a2 a3 a4 a5 a6 a7 a8 a9 a10 a11 a12 a13 k
  obtain ⟨ih0, ih1, ih2, ih3⟩ := impl_NearOk.mono_l k
  unfold impl_NearOk.f
  repeat' first
     |(with_reducible exact ih0 _ _ _ _ _ _ _ _ _ _ _ _ _ _ _)
     |(with_reducible exact ih1 _ _ _ _ _ _ _ _ _ _ _ _ _ _ _ _ _ _ _)
     |(with_reducible exact ih2 _ _ _ _ _ _ _ _ _ _ _ _ _ _ _ _)
     |(with_reducible exact ih3 _ _ _ _ _ _ _ _ _ _ _ _ _ _ _ _ _)
     |(with_reducible exact impl_Near_partsOk.mono _ _ _ _ _ _ _ _ _ _ _ _ _ _ _)
     |(with_reducible exact impl_Near_shapeOk.mono _ _ _ _ _ _ _ _ _ _ _ _ _ _ _)
     |(with_reducible exact impl_Table_find.mono _ _ _ _ _)
     |(with_reducible exact impl_Table_keys.mono _ _ _ _)
     |(with_reducible exact slices_Equal_string_string.mono _ _ _)
     |(with_reducible exact LeO.refl _)
     |(with_reducible exact LeO.none _)
     |(with_reducible refine LeO.ite ?_ ?_)
     |(with_reducible refine LeO.bind ?_ (fun _ => ?_))
     |exact ih0 _ _ _ _ _ _ _ _ _ _ _ _ _ _ _
     |exact ih1 _ _ _ _ _ _ _ _ _ _ _ _ _ _ _ _ _ _ _
     |exact ih2 _ _ _ _ _ _ _ _ _ _ _ _ _ _ _ _
     |exact ih3 _ _ _ _ _ _ _ _ _ _ _ _ _ _ _ _ _
     |exact impl_Near_partsOk.mono _ _ _ _ _ _ _ _ _ _ _ _ _ _ _
     |exact impl_Near_shapeOk.mono _ _ _ _ _ _ _ _ _ _ _ _ _ _ _
     |exact impl_Table_find.mono _ _ _ _ _
     |exact impl_Table_keys.mono _ _ _ _
     |exact slices_Equal_string_string.mono _ _ _
     |exact LeO.none _
     |refine LeO.ite ?_ ?_
     |refine LeO.bind ?_ (fun _ => ?_)
set_option maxHeartbeats 8000000 in
set_option maxRecDepth 100000 in
theorem impl_NearOk.calls (k : Nat) (A0_0 : Option Addr) (c0_0 : Nat) (l0_0 : List (S73)) (a0_1 : Int) (A0_2 : Option Addr) (c0_2 : Nat) (l0_2 : List (S103)) (A0_3 : Option Addr) (c0_3 : Nat) (l0_3 : List (S103)) (a0_4 : Int) (a0_5 : Int) (P0_6_ : Nat → Prop) (A0_6 : Option Addr) (c0_6 : Nat) (l0_6 : List ByteArray) (a0_7 : Int) (P0_8_ : Nat → Prop) (A0_8 : Option Addr) (c0_8 : Nat) (l0_8 : List ByteArray) (a0_9 : Int) (P0_10_ : Nat → Prop) (A0_10 : Option Addr) (c0_10 : Nat) (l0_10 : List ByteArray) (A0_11 : Option Addr) (c0_11 : Nat) (l0_11 : List Int) (a0_12 : Int) (a0_13 : Int) (r : Bool) (w : World) (hr0_0 : Kd.C k73 w A0_0 l0_0.length l0_0) (hc0_0 : l0_0.length ≤ c0_0) (hr0_2 : Kd.C k103 w A0_2 l0_2.length l0_2) (hc0_2 : l0_2.length ≤ c0_2) (hr0_3 : Kd.C k103 w A0_3 l0_3.length l0_3) (hc0_3 : l0_3.length ≤ c0_3) (hs0_6 : Kd.V Kd.string 9 w w.heap.size (fun k_ => P0_6_ k_) (.slice A0_6 l0_6.length c0_6) l0_6) (hs0_8 : Kd.V Kd.string 9 w w.heap.size (fun k_ => P0_8_ k_) (.slice A0_8 l0_8.length c0_8) l0_8) (hs0_10 : Kd.V Kd.string 9 w w.heap.size (fun k_ => P0_10_ k_) (.slice A0_10 l0_10.length c0_10) l0_10) (hr0_11 : Kd.C (Kd.int .i64) w A0_11 l0_11.length l0_11) (hc0_11 : l0_11.length ≤ c0_11) (h : impl_NearOk.f k l0_0 a0_1 l0_2 l0_3 a0_4 a0_5 l0_6 a0_7 l0_8 a0_9 l0_10 l0_11 a0_12 a0_13 = some r) :
    Calls Try.prog 12 #[.agg #[.slice A0_0 l0_0.length c0_0, .int .i64 a0_1, .slice A0_2 l0_2.length c0_2, .slice A0_3 l0_3.length c0_3, .int .i64 a0_4, .int .i64 a0_5, .slice A0_6 l0_6.length c0_6, .int .i64 a0_7, .slice A0_8 l0_8.length c0_8, .int .i64 a0_9, .slice A0_10 l0_10.length c0_10, .slice A0_11 l0_11.length c0_11, .int .i64 a0_12, .int .i64 a0_13]] w fun e w' => e = .returned (.bool r) ∧ Below w.heap.size w w' := by
  have hu37 := Try.underlying37
  have hu73 := Try.underlying73
  have hu27 := Try.underlying27
  have hu24 := Try.underlying24
  have HR0_0 := Aside0.mk hr0_0
  have HC0_0 := Aside0.mk hc0_0
  clear hr0_0 hc0_0
  have HR0_2 := Aside0.mk hr0_2
  have HC0_2 := Aside0.mk hc0_2
  clear hr0_2 hc0_2
  have HR0_3 := Aside0.mk hr0_3
  have HC0_3 := Aside0.mk hc0_3
  clear hr0_3 hc0_3
  have HO0_6 := Aside0.mk (show Kd.V Kd.string 9 w w.heap.size (fun k_ => ((P0_6_ k_ ∨ P0_8_ k_ ∨ P0_10_ k_) ∨ w.heap.size ≤ k_)) (.slice A0_6 l0_6.length c0_6) l0_6 from Kd.V_mono hs0_6 (fun k_ hk => .inl (.inl hk)))
  have HO0_8 := Aside0.mk (show Kd.V Kd.string 9 w w.heap.size (fun k_ => ((P0_6_ k_ ∨ P0_8_ k_ ∨ P0_10_ k_) ∨ w.heap.size ≤ k_)) (.slice A0_8 l0_8.length c0_8) l0_8 from Kd.V_mono hs0_8 (fun k_ hk => .inl (.inr (.inl hk))))
  have HO0_10 := Aside0.mk (show Kd.V Kd.string 9 w w.heap.size (fun k_ => ((P0_6_ k_ ∨ P0_8_ k_ ∨ P0_10_ k_) ∨ w.heap.size ≤ k_)) (.slice A0_10 l0_10.length c0_10) l0_10 from Kd.V_mono hs0_10 (fun k_ hk => .inl (.inr (.inr hk))))
  have HR0_11 := Aside0.mk hr0_11
  have HC0_11 := Aside0.mk hc0_11
  clear hr0_11 hc0_11
  have HB := Aside0.mk (Below.refl w.heap.size w)
  have H : ((impl_Near_partsOk.f k l0_0 a0_1 l0_2 l0_3 a0_4 a0_5 l0_6 a0_7 l0_8 a0_9 l0_10 l0_11 a0_12 a0_13).bind fun t361 => (if t361 = true then ((impl_Near_shapeOk.f k l0_0 a0_1 l0_2 l0_3 a0_4 a0_5 l0_6 a0_7 l0_8 a0_9 l0_10 l0_11 a0_12 a0_13).bind fun t362 => (impl_NearOk.j0 k (!t362) l0_0 a0_1 l0_2 l0_3 a0_4 a0_5 l0_6 a0_7 l0_8 a0_9 l0_10 l0_11 a0_12 a0_13)) else (impl_NearOk.j0 k true l0_0 a0_1 l0_2 l0_3 a0_4 a0_5 l0_6 a0_7 l0_8 a0_9 l0_10 l0_11 a0_12 a0_13))) = some r := h
  clear h
  have HC2 := Aside0.mk H
  clear H
  go_enter Try.func12, Try.ntmps12
  go_upto_region 1 with (first|((with_reducible refine gate_dst (N := 1) rfl ?_); refine box_event ?hg (N := 1) ?hd (cs := #[.slice A0_0 l0_0.length c0_0, .int .i64 a0_1, .slice A0_2 l0_2.length c0_2, .slice A0_3 l0_3.length c0_3, .int .i64 a0_4, .int .i64 a0_5, .slice A0_6 l0_6.length c0_6, .int .i64 a0_7, .slice A0_8 l0_8.length c0_8, .int .i64 a0_9, .slice A0_10 l0_10.length c0_10, .slice A0_11 l0_11.length c0_11, .int .i64 a0_12, .int .i64 a0_13]) (t := 37) ?hr ?_; (case hd => rfl); (case hg => rfl); (case hr => first|(go_simp; done)|(go_simp; rfl)); intro gb360 hg w3 hbox hb; have n0_ := Aside0.mk (Kd.V_below (Kd.V_elderB (by (with_reducible repeat (first|apply Kd.V_alloc|apply Kd.V_drewN|apply Kd.V_drew)); exact HO0_6.out) gb360 (Nat.le_of_eq hg.symm)) hb); have n1_ := Aside0.mk (Kd.V_below (Kd.V_elderB (by (with_reducible repeat (first|apply Kd.V_alloc|apply Kd.V_drewN|apply Kd.V_drew)); exact HO0_8.out) gb360 (Nat.le_of_eq hg.symm)) hb); have n2_ := Aside0.mk (Kd.V_below (Kd.V_elderB (by (with_reducible repeat (first|apply Kd.V_alloc|apply Kd.V_drewN|apply Kd.V_drew)); exact HO0_10.out) gb360 (Nat.le_of_eq hg.symm)) hb); have n3_ := Aside0.mk (zN (by repeat (first|(with_reducible first|exact HB.out|apply zI|apply zG|apply zH)|exact HB.out)) hb); have n4_ := Aside0.mk (hbox); have n5_ := Aside0.mk ((by rw [hg]; exact (below_size (by repeat (first|(with_reducible first|exact HB.out|apply zI|apply zG|apply zH)|exact HB.out))) : w.heap.size ≤ gb360)); have n6_ := Aside0.mk ((by rw [hg]; exact (below_size (by repeat (first|(with_reducible first|exact HB.out|apply zI|apply zG|apply zH)|exact HB.out))) : w.heap.size ≤ gb360)); clear HO0_6; clear HO0_8; clear HO0_10; clear HB; have HO0_6 := n0_; have HO0_8 := n1_; have HO0_10 := n2_; have HB := n3_; have BK360 := n4_; have GW360 := n5_; have GE360 := n6_; clear n0_ n1_ n2_ n3_ n4_ n5_ n6_; clear hb hbox hg))
  (try simp only [Act.put, List.setIfInBounds_toArray, List.set_cons_zero, List.set_cons_succ])
  go_cut [20] (fun v20 wc => ∃ (kq : Nat) (x20_1 : Bool), v20 = .bool x20_1 ∧ Aside0 (impl_NearOk.j0 kq x20_1 l0_0 a0_1 l0_2 l0_3 a0_4 a0_5 l0_6 a0_7 l0_8 a0_9 l0_10 l0_11 a0_12 a0_13 = some r) ∧ Aside0 (kq ≤ k) ∧ Aside0 (Kd.V Kd.string 9 wc w.heap.size (fun k_ => ((P0_6_ k_ ∨ P0_8_ k_ ∨ P0_10_ k_) ∨ w.heap.size ≤ k_) ∧ k_ ≠ gb360) (.slice A0_6 l0_6.length c0_6) l0_6) ∧ Aside0 (Kd.V Kd.string 9 wc w.heap.size (fun k_ => ((P0_6_ k_ ∨ P0_8_ k_ ∨ P0_10_ k_) ∨ w.heap.size ≤ k_) ∧ k_ ≠ gb360) (.slice A0_8 l0_8.length c0_8) l0_8) ∧ Aside0 (Kd.V Kd.string 9 wc w.heap.size (fun k_ => ((P0_6_ k_ ∨ P0_8_ k_ ∨ P0_10_ k_) ∨ w.heap.size ≤ k_) ∧ k_ ≠ gb360) (.slice A0_10 l0_10.length c0_10) l0_10) ∧ Aside0 (wc.heap[gb360]? = some (.cells #[(.slice A0_0 l0_0.length c0_0), .int .i64 a0_1, (.slice A0_2 l0_2.length c0_2), (.slice A0_3 l0_3.length c0_3), .int .i64 a0_4, .int .i64 a0_5, (.slice A0_6 l0_6.length c0_6), .int .i64 a0_7, (.slice A0_8 l0_8.length c0_8), .int .i64 a0_9, (.slice A0_10 l0_10.length c0_10), (.slice A0_11 l0_11.length c0_11), .int .i64 a0_12, .int .i64 a0_13] 37 (0, 0))) ∧ Aside0 (Below w.heap.size w wc))
  case first =>
    have H := HC2.out
    clear HC2
    replace H := Option.bind_eq_some_iff.mp H
    obtain ⟨t361, A40, H⟩ := H
    replace H : (if t361 = true then ((impl_Near_shapeOk.f k l0_0 a0_1 l0_2 l0_3 a0_4 a0_5 l0_6 a0_7 l0_8 a0_9 l0_10 l0_11 a0_12 a0_13).bind fun t362 => (impl_NearOk.j0 k (!t362) l0_0 a0_1 l0_2 l0_3 a0_4 a0_5 l0_6 a0_7 l0_8 a0_9 l0_10 l0_11 a0_12 a0_13)) else (impl_NearOk.j0 k true l0_0 a0_1 l0_2 l0_3 a0_4 a0_5 l0_6 a0_7 l0_8 a0_9 l0_10 l0_11 a0_12 a0_13)) = some r := H
    have A4 := Aside0.mk A40
    clear A40
    obtain ⟨hcz7_0, hcz7_1, hcz7_2, hcz7_3, hcz7_4, hcz7_5, hcz7_6, hcz7_7, hcz7_8, hcz7_9, hcz7_10, hcz7_11, hcz7_12, hcz7_13, hfz7_0, hfz7_1, hfz7_2, hfz7_3, hfz7_4, hfz7_5, hfz7_6, hfz7_7, hfz7_8, hfz7_9, hfz7_10, hfz7_11, hfz7_12, hfz7_13⟩ := zb14 BK360.out
    go_wp2_with (first|((with_reducible refine gate_callee (f := 39) rfl ?_); refine goesL_ (some 14) rfl rfl Try.func39 (by kernel_rfl) rfl #[.agg #[.slice A0_0 l0_0.length c0_0, .int .i64 a0_1, .slice A0_2 l0_2.length c0_2, .slice A0_3 l0_3.length c0_3, .int .i64 a0_4, .int .i64 a0_5, .slice A0_6 l0_6.length c0_6, .int .i64 a0_7, .slice A0_8 l0_8.length c0_8, .int .i64 a0_9, .slice A0_10 l0_10.length c0_10, .slice A0_11 l0_11.length c0_11, .int .i64 a0_12, .int .i64 a0_13]] rfl (by (try simp only [List.map_toArray, List.map_cons, List.map_nil]); first|done|rfl|(simp only [List.length_drop, List.length_take]; rfl)) ?_; (with_reducible refine (impl_Near_partsOk.calls k _ _ l0_0 a0_1 _ _ l0_2 _ _ l0_3 a0_4 a0_5 _ _ l0_6 a0_7 _ _ l0_8 a0_9 _ _ l0_10 _ _ l0_11 a0_12 a0_13 t361 _ ?side1 ?side2 ?side3 ?side4 ?side5 ?side6 ?side7 ?side8 ?side9 ?side10 ?side11 ?side12 ?side13 ?side14 A4.out).mono ?_); (case side1 => repeat (first|exact (Kd.C_below HR0_0.out HB.out)|(with_reducible refine Kd.C_alloc ?_ _)|(with_reducible refine Kd.C_drewN ?_ _)|(with_reducible refine Kd.C_drew ?_))); (case side2 => exact HC0_0.out); (case side3 => repeat (first|exact (Kd.C_below HR0_2.out HB.out)|(with_reducible refine Kd.C_alloc ?_ _)|(with_reducible refine Kd.C_drewN ?_ _)|(with_reducible refine Kd.C_drew ?_))); (case side4 => exact HC0_2.out); (case side5 => repeat (first|exact (Kd.C_below HR0_3.out HB.out)|(with_reducible refine Kd.C_alloc ?_ _)|(with_reducible refine Kd.C_drewN ?_ _)|(with_reducible refine Kd.C_drew ?_))); (case side6 => exact HC0_3.out); (case side7 => repeat (first|exact (Kd.V_reads' HO0_6.out).2.2|(with_reducible refine Kd.C_alloc ?_ _)|(with_reducible refine Kd.C_drewN ?_ _)|(with_reducible refine Kd.C_drew ?_))); (case side8 => exact (Kd.V_reads' HO0_6.out).2.1); (case side9 => repeat (first|exact (Kd.V_reads' HO0_8.out).2.2|(with_reducible refine Kd.C_alloc ?_ _)|(with_reducible refine Kd.C_drewN ?_ _)|(with_reducible refine Kd.C_drew ?_))); (case side10 => exact (Kd.V_reads' HO0_8.out).2.1); (case side11 => repeat (first|exact (Kd.V_reads' HO0_10.out).2.2|(with_reducible refine Kd.C_alloc ?_ _)|(with_reducible refine Kd.C_drewN ?_ _)|(with_reducible refine Kd.C_drew ?_))); (case side12 => exact (Kd.V_reads' HO0_10.out).2.1); (case side13 => repeat (first|exact (Kd.C_below HR0_11.out HB.out)|(with_reducible refine Kd.C_alloc ?_ _)|(with_reducible refine Kd.C_drewN ?_ _)|(with_reducible refine Kd.C_drew ?_))); (case side14 => exact HC0_11.out); rintro e w8 ⟨rfl, hb⟩; refine ⟨_, rfl, ?_⟩; have n0_ := Aside0.mk (Kd.V_below (by (with_reducible repeat (first|apply Kd.V_alloc|apply Kd.V_drewN|apply Kd.V_drew)); exact HO0_6.out) hb); have n1_ := Aside0.mk (Kd.V_below (by (with_reducible repeat (first|apply Kd.V_alloc|apply Kd.V_drewN|apply Kd.V_drew)); exact HO0_8.out) hb); have n2_ := Aside0.mk (Kd.V_below (by (with_reducible repeat (first|apply Kd.V_alloc|apply Kd.V_drewN|apply Kd.V_drew)); exact HO0_10.out) hb); have n3_ := Aside0.mk (zK (g := gb360) (o := .cells #[.slice A0_0 l0_0.length c0_0, .int .i64 a0_1, .slice A0_2 l0_2.length c0_2, .slice A0_3 l0_3.length c0_3, .int .i64 a0_4, .int .i64 a0_5, .slice A0_6 l0_6.length c0_6, .int .i64 a0_7, .slice A0_8 l0_8.length c0_8, .int .i64 a0_9, .slice A0_10 l0_10.length c0_10, .slice A0_11 l0_11.length c0_11, .int .i64 a0_12, .int .i64 a0_13] 37 (0, 0)) (by (with_reducible repeat (first|refine zA ?_ _|refine zC ?_|refine zB ?_ _)); exact BK360.out) hb); have n4_ := Aside0.mk (zN (by repeat (first|(with_reducible first|exact HB.out|apply zI|apply zG|apply zH|refine zJ ?_ GE360.out)|exact HB.out)) hb); clear HO0_6; clear HO0_8; clear HO0_10; clear BK360; clear HB; have HO0_6 := n0_; have HO0_8 := n1_; have HO0_10 := n2_; have BK360 := n3_; have HB := n4_; clear n0_ n1_ n2_ n3_ n4_; (try clear hb); (try clear hb2); (try clear hk); (try clear hi); obtain ⟨hcz9_0, hcz9_1, hcz9_2, hcz9_3, hcz9_4, hcz9_5, hcz9_6, hcz9_7, hcz9_8, hcz9_9, hcz9_10, hcz9_11, hcz9_12, hcz9_13, hfz9_0, hfz9_1, hfz9_2, hfz9_3, hfz9_4, hfz9_5, hfz9_6, hfz9_7, hfz9_8, hfz9_9, hfz9_10, hfz9_11, hfz9_12, hfz9_13⟩ := zb14 BK360.out; (refine Classical.byCases (p := (t361 = true)) (fun c5 => ?zp31) (fun c5 => ?zn31); (case' zn31 => (replace c5 := Bool.eq_false_iff.mpr c5); (subst c5); (have H1 : (impl_NearOk.j0 k true l0_0 a0_1 l0_2 l0_3 a0_4 a0_5 l0_6 a0_7 l0_8 a0_9 l0_10 l0_11 a0_12 a0_13) = some r := by rw [if_neg (show ¬ (false = true) by decide)] at H; exact H); (clear H); (have H := H1); (clear H1); (have H' := Aside0.mk H); (clear H); (obtain ⟨hcz11_0, hcz11_1, hcz11_2, hcz11_3, hcz11_4, hcz11_5, hcz11_6, hcz11_7, hcz11_8, hcz11_9, hcz11_10, hcz11_11, hcz11_12, hcz11_13, hfz11_0, hfz11_1, hfz11_2, hfz11_3, hfz11_4, hfz11_5, hfz11_6, hfz11_7, hfz11_8, hfz11_9, hfz11_10, hfz11_11, hfz11_12, hfz11_13⟩ := zb14 BK360.out)); (case' zp31 => (subst c5); (have H1 : ((impl_Near_shapeOk.f k l0_0 a0_1 l0_2 l0_3 a0_4 a0_5 l0_6 a0_7 l0_8 a0_9 l0_10 l0_11 a0_12 a0_13).bind fun t362 => (impl_NearOk.j0 k (!t362) l0_0 a0_1 l0_2 l0_3 a0_4 a0_5 l0_6 a0_7 l0_8 a0_9 l0_10 l0_11 a0_12 a0_13)) = some r := by rw [if_pos rfl] at H; exact H); (clear H); (have H := H1); (clear H1); (replace H := Option.bind_eq_some_iff.mp H); (obtain ⟨t362, A60, H⟩ := H); (replace H : (impl_NearOk.j0 k (!t362) l0_0 a0_1 l0_2 l0_3 a0_4 a0_5 l0_6 a0_7 l0_8 a0_9 l0_10 l0_11 a0_12 a0_13) = some r := H); (have A6 := Aside0.mk A60); (clear A60); (have H' := Aside0.mk H); (clear H); (obtain ⟨hcz7_0, hcz7_1, hcz7_2, hcz7_3, hcz7_4, hcz7_5, hcz7_6, hcz7_7, hcz7_8, hcz7_9, hcz7_10, hcz7_11, hcz7_12, hcz7_13, hfz7_0, hfz7_1, hfz7_2, hfz7_3, hfz7_4, hfz7_5, hfz7_6, hfz7_7, hfz7_8, hfz7_9, hfz7_10, hfz7_11, hfz7_12, hfz7_13⟩ := zb14 BK360.out))))|(go_at_call 40; (with_reducible refine (impl_Near_shapeOk.calls k _ _ l0_0 a0_1 _ _ l0_2 _ _ l0_3 a0_4 a0_5 _ _ l0_6 a0_7 _ _ l0_8 a0_9 _ _ l0_10 _ _ l0_11 a0_12 a0_13 t362 _ ?side1 ?side2 ?side3 ?side4 ?side5 ?side6 ?side7 ?side8 ?side9 ?side10 ?side11 ?side12 ?side13 ?side14 A6.out).mono ?_); (case side1 => repeat (first|exact (Kd.C_below HR0_0.out HB.out)|(with_reducible refine Kd.C_alloc ?_ _)|(with_reducible refine Kd.C_drewN ?_ _)|(with_reducible refine Kd.C_drew ?_))); (case side2 => exact HC0_0.out); (case side3 => repeat (first|exact (Kd.C_below HR0_2.out HB.out)|(with_reducible refine Kd.C_alloc ?_ _)|(with_reducible refine Kd.C_drewN ?_ _)|(with_reducible refine Kd.C_drew ?_))); (case side4 => exact HC0_2.out); (case side5 => repeat (first|exact (Kd.C_below HR0_3.out HB.out)|(with_reducible refine Kd.C_alloc ?_ _)|(with_reducible refine Kd.C_drewN ?_ _)|(with_reducible refine Kd.C_drew ?_))); (case side6 => exact HC0_3.out); (case side7 => repeat (first|exact (Kd.V_reads' HO0_6.out).2.2|(with_reducible refine Kd.C_alloc ?_ _)|(with_reducible refine Kd.C_drewN ?_ _)|(with_reducible refine Kd.C_drew ?_))); (case side8 => exact (Kd.V_reads' HO0_6.out).2.1); (case side9 => repeat (first|exact (Kd.V_reads' HO0_8.out).2.2|(with_reducible refine Kd.C_alloc ?_ _)|(with_reducible refine Kd.C_drewN ?_ _)|(with_reducible refine Kd.C_drew ?_))); (case side10 => exact (Kd.V_reads' HO0_8.out).2.1); (case side11 => repeat (first|exact (Kd.V_reads' HO0_10.out).2.2|(with_reducible refine Kd.C_alloc ?_ _)|(with_reducible refine Kd.C_drewN ?_ _)|(with_reducible refine Kd.C_drew ?_))); (case side12 => exact (Kd.V_reads' HO0_10.out).2.1); (case side13 => repeat (first|exact (Kd.C_below HR0_11.out HB.out)|(with_reducible refine Kd.C_alloc ?_ _)|(with_reducible refine Kd.C_drewN ?_ _)|(with_reducible refine Kd.C_drew ?_))); (case side14 => exact HC0_11.out); rintro e w10 ⟨rfl, hb⟩; have n0_ := Aside0.mk (Kd.V_below (by (with_reducible repeat (first|apply Kd.V_alloc|apply Kd.V_drewN|apply Kd.V_drew)); exact HO0_6.out) hb); have n1_ := Aside0.mk (Kd.V_below (by (with_reducible repeat (first|apply Kd.V_alloc|apply Kd.V_drewN|apply Kd.V_drew)); exact HO0_8.out) hb); have n2_ := Aside0.mk (Kd.V_below (by (with_reducible repeat (first|apply Kd.V_alloc|apply Kd.V_drewN|apply Kd.V_drew)); exact HO0_10.out) hb); have n3_ := Aside0.mk (zK (g := gb360) (o := .cells #[.slice A0_0 l0_0.length c0_0, .int .i64 a0_1, .slice A0_2 l0_2.length c0_2, .slice A0_3 l0_3.length c0_3, .int .i64 a0_4, .int .i64 a0_5, .slice A0_6 l0_6.length c0_6, .int .i64 a0_7, .slice A0_8 l0_8.length c0_8, .int .i64 a0_9, .slice A0_10 l0_10.length c0_10, .slice A0_11 l0_11.length c0_11, .int .i64 a0_12, .int .i64 a0_13] 37 (0, 0)) (by (with_reducible repeat (first|refine zA ?_ _|refine zC ?_|refine zB ?_ _)); exact BK360.out) hb); have n4_ := Aside0.mk (zN (by repeat (first|(with_reducible first|exact HB.out|apply zI|apply zG|apply zH|refine zJ ?_ GE360.out)|exact HB.out)) hb); clear HO0_6; clear HO0_8; clear HO0_10; clear BK360; clear HB; have HO0_6 := n0_; have HO0_8 := n1_; have HO0_10 := n2_; have BK360 := n3_; have HB := n4_; clear n0_ n1_ n2_ n3_ n4_; (try clear hb); (try clear hb2); (try clear hk); (try clear hi)))
    · go_meet
      case rel => exact ⟨_, (!t362), (by first|rfl|(simp; done)|(simp [*]; done)), H', ⟨by first|omega|exact Nat.le_refl _⟩, ⟨by (with_reducible repeat (first|apply Kd.V_alloc|apply Kd.V_drewN|apply Kd.V_drew)); exact HO0_6.out⟩, ⟨by (with_reducible repeat (first|apply Kd.V_alloc|apply Kd.V_drewN|apply Kd.V_drew)); exact HO0_8.out⟩, ⟨by (with_reducible repeat (first|apply Kd.V_alloc|apply Kd.V_drewN|apply Kd.V_drew)); exact HO0_10.out⟩, ⟨by (with_reducible repeat (first|refine zA ?_ _|refine zC ?_|refine zB ?_ _)); exact BK360.out⟩, ⟨by repeat (first|(with_reducible first|exact HB.out|apply zI|apply zG|apply zH|refine zJ ?_ GE360.out)|exact HB.out)⟩⟩
    · go_meet
      case rel => exact ⟨_, (true), (by first|rfl|(simp; done)|(simp [*]; done)), H', ⟨by first|omega|exact Nat.le_refl _⟩, ⟨by (with_reducible repeat (first|apply Kd.V_alloc|apply Kd.V_drewN|apply Kd.V_drew)); exact HO0_6.out⟩, ⟨by (with_reducible repeat (first|apply Kd.V_alloc|apply Kd.V_drewN|apply Kd.V_drew)); exact HO0_8.out⟩, ⟨by (with_reducible repeat (first|apply Kd.V_alloc|apply Kd.V_drewN|apply Kd.V_drew)); exact HO0_10.out⟩, ⟨by (with_reducible repeat (first|refine zA ?_ _|refine zC ?_|refine zB ?_ _)); exact BK360.out⟩, ⟨by repeat (first|(with_reducible first|exact HB.out|apply zI|apply zG|apply zH|refine zJ ?_ GE360.out)|exact HB.out)⟩⟩
  case rest =>
    clear HC2
    try clear c1
    try clear p2
    try clear c3
    try clear c5
    try clear c12
    try clear hcz11_0
    try clear hcz11_1
    try clear hcz11_10
    try clear hcz11_11
    try clear hcz11_12
    try clear hcz11_13
    try clear hcz11_2
    try clear hcz11_3
    try clear hcz11_4
    try clear hcz11_5
    try clear hcz11_6
    try clear hcz11_7
    try clear hcz11_8
    try clear hcz11_9
    try clear hcz7_0
    try clear hcz7_1
    try clear hcz7_10
    try clear hcz7_11
    try clear hcz7_12
    try clear hcz7_13
    try clear hcz7_2
    try clear hcz7_3
    try clear hcz7_4
    try clear hcz7_5
    try clear hcz7_6
    try clear hcz7_7
    try clear hcz7_8
    try clear hcz7_9
    try clear hcz9_0
    try clear hcz9_1
    try clear hcz9_10
    try clear hcz9_11
    try clear hcz9_12
    try clear hcz9_13
    try clear hcz9_2
    try clear hcz9_3
    try clear hcz9_4
    try clear hcz9_5
    try clear hcz9_6
    try clear hcz9_7
    try clear hcz9_8
    try clear hcz9_9
    try clear hfz11_0
    try clear hfz11_1
    try clear hfz11_10
    try clear hfz11_11
    try clear hfz11_12
    try clear hfz11_13
    try clear hfz11_2
    try clear hfz11_3
    try clear hfz11_4
    try clear hfz11_5
    try clear hfz11_6
    try clear hfz11_7
    try clear hfz11_8
    try clear hfz11_9
    try clear hfz7_0
    try clear hfz7_1
    try clear hfz7_10
    try clear hfz7_11
    try clear hfz7_12
    try clear hfz7_13
    try clear hfz7_2
    try clear hfz7_3
    try clear hfz7_4
    try clear hfz7_5
    try clear hfz7_6
    try clear hfz7_7
    try clear hfz7_8
    try clear hfz7_9
    try clear hfz9_0
    try clear hfz9_1
    try clear hfz9_10
    try clear hfz9_11
    try clear hfz9_12
    try clear hfz9_13
    try clear hfz9_2
    try clear hfz9_3
    try clear hfz9_4
    try clear hfz9_5
    try clear hfz9_6
    try clear hfz9_7
    try clear hfz9_8
    try clear hfz9_9
    obtain ⟨kq, x20_1, rfl, HA, HJ1, HO_361006, HO_361008, HO_361010, BK360, HB⟩ := hcut
    cases kq with
   |zero => exact absurd HA.out (by simp [impl_NearOk.j0])
   |succ kj1 =>
      have H := HA.out
      clear HA
      simp only [impl_NearOk.j0] at H
      by_cases c13 : x20_1 = true
      · subst c13
        have H1 : (some false) = some r := by rw [if_pos rfl] at H; exact H
        clear H
        have H := H1
        clear H1
        obtain rfl := Option.some.inj H
        go_wp2
        go_ret
        exact ⟨by first|rfl|(simp [errW_none, errW_some] <;> rfl)|(simp [*, errW_none, errW_some] <;> rfl), by repeat (first|(with_reducible first|exact HB.out|apply zI|apply zG|apply zH|refine zJ ?_ GE360.out)|exact HB.out)⟩
      · replace c13 := Bool.eq_false_iff.mpr c13
        subst c13
        have H1 : ((slices_Concat_string_string.f (([l0_6, l0_8, l0_10] : List (List ByteArray)))).bind fun t366 => ((slices_Sort_string_string.f t366).bind fun t369 => (impl_NearOk.l0 kj1 t369 ([] : List ByteArray) l0_0 (l0_0.length : Int) 0 l0_0 a0_1 l0_2 l0_3 a0_4 a0_5 l0_6 a0_7 l0_8 a0_9 l0_10 l0_11 a0_12 a0_13))) = some r := by rw [if_neg (show ¬ (false = true) by decide)] at H; exact H
        clear H
        have H := H1
        clear H1
        obtain ⟨y363, hy363⟩ : ∃ y_ : List (List ByteArray), y_ = (([l0_6, l0_8, l0_10] : List (List ByteArray))) := ⟨_, rfl⟩
        replace H : ((slices_Concat_string_string.f y363).bind fun t366 => ((slices_Sort_string_string.f t366).bind fun t369 => (impl_NearOk.l0 kj1 t369 ([] : List ByteArray) l0_0 (l0_0.length : Int) 0 l0_0 a0_1 l0_2 l0_3 a0_4 a0_5 l0_6 a0_7 l0_8 a0_9 l0_10 l0_11 a0_12 a0_13))) = some r := by first|(rw [hy363]; with_reducible exact H)|(have H2_ := (Option.bind_some _ _).symm.trans H; rw [hy363]; with_reducible exact H2_)|(have H2_ := (Option.bind_some _ _).symm.trans H; with_reducible exact H2_)|with_reducible exact H|(rw [hy363]; exact H)|exact H
        have Ny363 := Aside0.mk hy363
        clear hy363
        replace H := Option.bind_eq_some_iff.mp H
        obtain ⟨t366, A140, H⟩ := H
        replace H : ((slices_Sort_string_string.f t366).bind fun t369 => (impl_NearOk.l0 kj1 t369 ([] : List ByteArray) l0_0 (l0_0.length : Int) 0 l0_0 a0_1 l0_2 l0_3 a0_4 a0_5 l0_6 a0_7 l0_8 a0_9 l0_10 l0_11 a0_12 a0_13)) = some r := H
        have A14 := Aside0.mk A140
        clear A140
        replace H := Option.bind_eq_some_iff.mp H
        obtain ⟨t369, A150, H⟩ := H
        replace H : (impl_NearOk.l0 kj1 t369 ([] : List ByteArray) l0_0 (l0_0.length : Int) 0 l0_0 a0_1 l0_2 l0_3 a0_4 a0_5 l0_6 a0_7 l0_8 a0_9 l0_10 l0_11 a0_12 a0_13) = some r := H
        have A15 := Aside0.mk A150
        clear A150
        have H' := Aside0.mk H
        clear H
        obtain ⟨hcz16_0, hcz16_1, hcz16_2, hcz16_3, hcz16_4, hcz16_5, hcz16_6, hcz16_7, hcz16_8, hcz16_9, hcz16_10, hcz16_11, hcz16_12, hcz16_13, hfz16_0, hfz16_1, hfz16_2, hfz16_3, hfz16_4, hfz16_5, hfz16_6, hfz16_7, hfz16_8, hfz16_9, hfz16_10, hfz16_11, hfz16_12, hfz16_13⟩ := zb14 BK360.out
        go_wp2_with (first|((with_reducible refine gate_dst (N := 30) rfl ?_); refine Kd.N_lit (Kd.slice 9 Kd.string) _ 28 ?hg (N' := 30) ?hd (xs := ([l0_6, l0_8, l0_10] : List (List ByteArray))) (inner := [.slice A0_6 l0_6.length c0_6, .slice A0_8 l0_8.length c0_8, .slice A0_10 l0_10.length c0_10]) (ok := (fun k_ => ((P0_6_ k_ ∨ P0_8_ k_ ∨ P0_10_ k_) ∨ w.heap.size ≤ k_) ∧ k_ ≠ gb360)) (okp := (fun k_ => ((P0_6_ k_ ∨ P0_8_ k_ ∨ P0_10_ k_) ∨ w.heap.size ≤ k_) ∧ k_ ≠ gb360)) ?hr ?hp (fun _ hk => hk) ((show ∀ k_, wc.heap.size ≤ k_ → (fun k_ => ((P0_6_ k_ ∨ P0_8_ k_ ∨ P0_10_ k_) ∨ w.heap.size ≤ k_) ∧ k_ ≠ gb360) k_ from fun k_ hk => ⟨(.inr (Nat.le_trans (below_size (by repeat (first|(with_reducible first|exact HB.out|apply zI|apply zG|apply zH|refine zJ ?_ GE360.out)|exact HB.out))) hk)), Kd.freshB (g := gb360) (o := .cells #[.slice A0_0 l0_0.length c0_0, .int .i64 a0_1, .slice A0_2 l0_2.length c0_2, .slice A0_3 l0_3.length c0_3, .int .i64 a0_4, .int .i64 a0_5, .slice A0_6 l0_6.length c0_6, .int .i64 a0_7, .slice A0_8 l0_8.length c0_8, .int .i64 a0_9, .slice A0_10 l0_10.length c0_10, .slice A0_11 l0_11.length c0_11, .int .i64 a0_12, .int .i64 a0_13] 37 (0, 0)) (by (with_reducible repeat (first|refine zA ?_ _|refine zC ?_|refine zB ?_ _)); exact BK360.out) k_ hk⟩) _ (Nat.le_refl _)) (Below.refl _ _) (Nat.le_refl _) (by simp) ?_; (case hd => rfl); (case hg => rfl); (case hr => first|(go_simp; done)|(go_simp; rfl)); (case hp => exact (Reps.one (show Kd.FK (Kd.slice 9 Kd.string) _ _ l0_6 [.slice A0_6 l0_6.length c0_6] from (Kd.FK_slice_mk (Kd.V_reads' (Kd.V_mono (ok' := (fun k_ => ((P0_6_ k_ ∨ P0_8_ k_ ∨ P0_10_ k_) ∨ w.heap.size ≤ k_) ∧ k_ ≠ gb360)) (HO_361006.out) (fun k_ hk => ⟨hk.1, hk.2⟩))).2.1 (Kd.V_F (Kd.V_mono (ok' := (fun k_ => ((P0_6_ k_ ∨ P0_8_ k_ ∨ P0_10_ k_) ∨ w.heap.size ≤ k_) ∧ k_ ≠ gb360)) (HO_361006.out) (fun k_ hk => ⟨hk.1, hk.2⟩))))) (Reps.one (show Kd.FK (Kd.slice 9 Kd.string) _ _ l0_8 [.slice A0_8 l0_8.length c0_8] from (Kd.FK_slice_mk (Kd.V_reads' (Kd.V_mono (ok' := (fun k_ => ((P0_6_ k_ ∨ P0_8_ k_ ∨ P0_10_ k_) ∨ w.heap.size ≤ k_) ∧ k_ ≠ gb360)) (HO_361008.out) (fun k_ hk => ⟨hk.1, hk.2⟩))).2.1 (Kd.V_F (Kd.V_mono (ok' := (fun k_ => ((P0_6_ k_ ∨ P0_8_ k_ ∨ P0_10_ k_) ∨ w.heap.size ≤ k_) ∧ k_ ≠ gb360)) (HO_361008.out) (fun k_ hk => ⟨hk.1, hk.2⟩))))) (Reps.one (show Kd.FK (Kd.slice 9 Kd.string) _ _ l0_10 [.slice A0_10 l0_10.length c0_10] from (Kd.FK_slice_mk (Kd.V_reads' (Kd.V_mono (ok' := (fun k_ => ((P0_6_ k_ ∨ P0_8_ k_ ∨ P0_10_ k_) ∨ w.heap.size ≤ k_) ∧ k_ ≠ gb360)) (HO_361010.out) (fun k_ hk => ⟨hk.1, hk.2⟩))).2.1 (Kd.V_F (Kd.V_mono (ok' := (fun k_ => ((P0_6_ k_ ∨ P0_8_ k_ ∨ P0_10_ k_) ∨ w.heap.size ≤ k_) ∧ k_ ≠ gb360)) (HO_361010.out) (fun k_ hk => ⟨hk.1, hk.2⟩))))) (Reps.none _ _))))); intro v364 w17 ho18 hb hg_ hnew_; clear hg_ hnew_; (first|rw [← Ny363.out] at ho18|(simp only [Int.reduceToNat] at ho18; rw [← Ny363.out] at ho18)); have n0_ := Aside0.mk (Kd.V_elder' (by (with_reducible repeat (first|apply Kd.V_alloc|apply Kd.V_drewN|apply Kd.V_drew)); exact HO_361006.out) (Kd.N_base ho18) hb); have n1_ := Aside0.mk (Kd.V_elder' (by (with_reducible repeat (first|apply Kd.V_alloc|apply Kd.V_drewN|apply Kd.V_drew)); exact HO_361008.out) (Kd.N_base ho18) hb); have n2_ := Aside0.mk (Kd.V_elder' (by (with_reducible repeat (first|apply Kd.V_alloc|apply Kd.V_drewN|apply Kd.V_drew)); exact HO_361010.out) (Kd.N_base ho18) hb); have n3_ := Aside0.mk (Kd.N_lower ho18 (below_size (by repeat (first|(with_reducible first|exact HB.out|apply zI|apply zG|apply zH|refine zJ ?_ GE360.out)|exact HB.out)))); have n4_ := Aside0.mk (zK (g := gb360) (o := .cells #[.slice A0_0 l0_0.length c0_0, .int .i64 a0_1, .slice A0_2 l0_2.length c0_2, .slice A0_3 l0_3.length c0_3, .int .i64 a0_4, .int .i64 a0_5, .slice A0_6 l0_6.length c0_6, .int .i64 a0_7, .slice A0_8 l0_8.length c0_8, .int .i64 a0_9, .slice A0_10 l0_10.length c0_10, .slice A0_11 l0_11.length c0_11, .int .i64 a0_12, .int .i64 a0_13] 37 (0, 0)) (by (with_reducible repeat (first|refine zA ?_ _|refine zC ?_|refine zB ?_ _)); exact BK360.out) hb); have n5_ := Aside0.mk (zN (by repeat (first|(with_reducible first|exact HB.out|apply zI|apply zG|apply zH|refine zJ ?_ GE360.out)|exact HB.out)) hb); clear HO_361006; clear HO_361008; clear HO_361010; clear BK360; clear HB; have HO_361006 := n0_; have HO_361008 := n1_; have HO_361010 := n2_; have HO365 := n3_; have BK360 := n4_; have HB := n5_; clear n0_ n1_ n2_ n3_ n4_ n5_; clear hb ho18; obtain ⟨Ao19, co19, eo19⟩ := Kd.N_slice HO365.out; subst eo19)|((with_reducible refine gate_callee (f := 41) rfl ?_); refine goesL_ (some 31) rfl rfl Try.func41 (by kernel_rfl) rfl #[.slice Ao19 y363.length co19] rfl (by (try simp only [List.map_toArray, List.map_cons, List.map_nil]); first|done|rfl|(simp only [List.length_drop, List.length_take]; rfl)) ?_; (with_reducible refine (slices_Concat_string_string.calls _ _ y363 t366 _ ?side1 ?side2 A14.out).mono ?_); (case side1 => repeat (first|exact (Kd.N_reads' HO365.out).2.2|(with_reducible refine Kd.C_alloc ?_ _)|(with_reducible refine Kd.C_drewN ?_ _)|(with_reducible refine Kd.C_drew ?_))); (case side2 => exact (Kd.N_reads' HO365.out).2.1); rintro e w20 ⟨v367, rfl, ho0, hb⟩; refine ⟨_, rfl, ?_⟩; have n0_ := Aside0.mk (Kd.V_elder' (by (with_reducible repeat (first|apply Kd.V_alloc|apply Kd.V_drewN|apply Kd.V_drew)); exact HO_361006.out) (Kd.R_base ho0) hb); have n1_ := Aside0.mk (Kd.V_elder' (by (with_reducible repeat (first|apply Kd.V_alloc|apply Kd.V_drewN|apply Kd.V_drew)); exact HO_361008.out) (Kd.R_base ho0) hb); have n2_ := Aside0.mk (Kd.V_elder' (by (with_reducible repeat (first|apply Kd.V_alloc|apply Kd.V_drewN|apply Kd.V_drew)); exact HO_361010.out) (Kd.R_base ho0) hb); have n3_ := Aside0.mk (Kd.N_elder' (by (with_reducible repeat (first|apply Kd.N_alloc|apply Kd.N_drewN|apply Kd.N_drew)); exact HO365.out) (Kd.R_base ho0) hb); have n4_ := Aside0.mk (Kd.R_lower (Kd.R_newM (M := fun k_ => (w.heap.size ≤ k_)) ho0 (below_size (by repeat (first|(with_reducible first|exact HB.out|apply zI|apply zG|apply zH|refine zJ ?_ GE360.out)|exact HB.out))) (fun k_ h_ => h_)) (below_size (by repeat (first|(with_reducible first|exact HB.out|apply zI|apply zG|apply zH|refine zJ ?_ GE360.out)|exact HB.out)))); have n5_ := Aside0.mk (zK (g := gb360) (o := .cells #[.slice A0_0 l0_0.length c0_0, .int .i64 a0_1, .slice A0_2 l0_2.length c0_2, .slice A0_3 l0_3.length c0_3, .int .i64 a0_4, .int .i64 a0_5, .slice A0_6 l0_6.length c0_6, .int .i64 a0_7, .slice A0_8 l0_8.length c0_8, .int .i64 a0_9, .slice A0_10 l0_10.length c0_10, .slice A0_11 l0_11.length c0_11, .int .i64 a0_12, .int .i64 a0_13] 37 (0, 0)) (by (with_reducible repeat (first|refine zA ?_ _|refine zC ?_|refine zB ?_ _)); exact BK360.out) hb); have n6_ := Aside0.mk (zN (by repeat (first|(with_reducible first|exact HB.out|apply zI|apply zG|apply zH|refine zJ ?_ GE360.out)|exact HB.out)) hb); clear HO_361006; clear HO_361008; clear HO_361010; clear HO365; clear BK360; clear HB; have HO_361006 := n0_; have HO_361008 := n1_; have HO_361010 := n2_; have HO365 := n3_; have HO368 := n4_; have BK360 := n5_; have HB := n6_; clear n0_ n1_ n2_ n3_ n4_ n5_ n6_; (try clear hb); (try clear hb2); (try clear hk); (try clear hi); (try clear ho0); obtain ⟨Ao21, co21, eo21⟩ := Kd.R_slice HO368.out; subst eo21)|((with_reducible refine gate_callee (f := 42) rfl ?_); refine goesL_ (some 33) rfl rfl Try.func42 (by kernel_rfl) rfl #[.slice Ao21 t366.length co21] rfl (by (try simp only [List.map_toArray, List.map_cons, List.map_nil]); first|done|rfl|(simp only [List.length_drop, List.length_take]; rfl)) ?_; (with_reducible refine (slices_Sort_string_string.calls (fun k_ => some k_ = (.slice Ao21 t366.length co21 : Value).ownBlock) (.slice Ao21 t366.length co21) t366 t369 w _ ?side1 ?side2 A15.out).mono ?_); (case side1 => repeat (first|(with_reducible first|exact HB.out|apply zI|apply zG|apply zH|refine zJ ?_ GE360.out)|exact HB.out)); (case side2 => exact Kd.R_tight rfl HO368.out); rintro e w22 ⟨rfl, hy0, hb, hkp⟩; refine ⟨_, rfl, ?_⟩; have n0_ := Aside0.mk (Kd.V_mono (ok' := fun k_ => ((P0_6_ k_ ∨ P0_8_ k_ ∨ P0_10_ k_) ∨ w.heap.size ≤ k_) ∧ some k_ ≠ (.slice Ao19 y363.length co19 : Value).ownBlock ∧ some k_ ≠ (.slice Ao21 t366.length co21 : Value).ownBlock ∧ k_ ≠ gb360) (Kd.V_keptB (HO_361006.out) hkp (fun k_ hk_ hs_ => by first|exact hk_.2 hs_|exact hk_.1 hs_|exact hk_.2 hs_|exact hk_ hs_)) (fun k_ hk_ => ⟨hk_.1.1.1.1, hk_.1.1.2, hk_.1.2, hk_.1.1.1.2⟩)); have n1_ := Aside0.mk (Kd.V_mono (ok' := fun k_ => ((P0_6_ k_ ∨ P0_8_ k_ ∨ P0_10_ k_) ∨ w.heap.size ≤ k_) ∧ some k_ ≠ (.slice Ao19 y363.length co19 : Value).ownBlock ∧ some k_ ≠ (.slice Ao21 t366.length co21 : Value).ownBlock ∧ k_ ≠ gb360) (Kd.V_keptB (HO_361008.out) hkp (fun k_ hk_ hs_ => by first|exact hk_.2 hs_|exact hk_.1 hs_|exact hk_.2 hs_|exact hk_ hs_)) (fun k_ hk_ => ⟨hk_.1.1.1.1, hk_.1.1.2, hk_.1.2, hk_.1.1.1.2⟩)); have n2_ := Aside0.mk (Kd.V_mono (ok' := fun k_ => ((P0_6_ k_ ∨ P0_8_ k_ ∨ P0_10_ k_) ∨ w.heap.size ≤ k_) ∧ some k_ ≠ (.slice Ao19 y363.length co19 : Value).ownBlock ∧ some k_ ≠ (.slice Ao21 t366.length co21 : Value).ownBlock ∧ k_ ≠ gb360) (Kd.V_keptB (HO_361010.out) hkp (fun k_ hk_ hs_ => by first|exact hk_.2 hs_|exact hk_.1 hs_|exact hk_.2 hs_|exact hk_ hs_)) (fun k_ hk_ => ⟨hk_.1.1.1.1, hk_.1.1.2, hk_.1.2, hk_.1.1.1.2⟩)); have n3_ := Aside0.mk (blk_kept (by (with_reducible repeat (first|refine zA ?_ _|refine zC ?_|refine zB ?_ _)); exact BK360.out) hkp (fun hs_ => (fun e_ => (Kd.R_ne HO368.out BK360.out (by decide)) e_) hs_)); have n4_ := Aside0.mk (Kd.N_mono (ok' := fun k_ => ((P0_6_ k_ ∨ P0_8_ k_ ∨ P0_10_ k_) ∨ w.heap.size ≤ k_) ∧ some k_ ≠ (.slice Ao21 t366.length co21 : Value).ownBlock ∧ k_ ≠ gb360) (Kd.N_keptB (HO365.out) hkp (fun k_ hk_ hs_ => by first|exact hk_.2 hs_|exact hk_.1 hs_|exact hk_.2 hs_|exact hk_ hs_)) (fun k_ hk_ => ⟨hk_.1.1.1, hk_.1.2, hk_.1.1.2⟩)); have n5_ := Aside0.mk (Kd.R_reok rfl hy0 (fun k_ e_ => HO368.out.1 k_ e_)); have n6_ := Aside0.mk (hb); clear HO_361006; clear HO_361008; clear HO_361010; clear BK360; clear HO365; clear HO368; clear HB; have HO_361006 := n0_; have HO_361008 := n1_; have HO_361010 := n2_; have BK360 := n3_; have HO365 := n4_; have HO368 := n5_; have HB := n6_; clear n0_ n1_ n2_ n3_ n4_ n5_ n6_; (try clear hb); (try clear hkp); (try clear hy0); obtain ⟨hcz23_0, hcz23_1, hcz23_2, hcz23_3, hcz23_4, hcz23_5, hcz23_6, hcz23_7, hcz23_8, hcz23_9, hcz23_10, hcz23_11, hcz23_12, hcz23_13, hfz23_0, hfz23_1, hfz23_2, hfz23_3, hfz23_4, hfz23_5, hfz23_6, hfz23_7, hfz23_8, hfz23_9, hfz23_10, hfz23_11, hfz23_12, hfz23_13⟩ := zb14 BK360.out))
        go_loopg [4, 38] kj1 (fun kq v4 v38 w' => ∃ (x4_2 : List ByteArray) (x38_2 : Int), v38 = .int .i64 x38_2 ∧ Aside0 (impl_NearOk.l0 kq t369 x4_2 l0_0 (l0_0.length : Int) x38_2 l0_0 a0_1 l0_2 l0_3 a0_4 a0_5 l0_6 a0_7 l0_8 a0_9 l0_10 l0_11 a0_12 a0_13 = some r) ∧ Aside0 (kq ≤ kj1) ∧ Aside0 (Kd.R Kd.string 9 w' w.heap.size (fun k_ => (w.heap.size ≤ k_) ∧ some k_ ≠ (v4 : Value).ownBlock) (.slice Ao21 t366.length co21) t369) ∧ Aside0 (Kd.R Kd.string 9 w' w.heap.size (fun k_ => (w.heap.size ≤ k_) ∧ some k_ ≠ ((.slice Ao21 t366.length co21) : Value).ownBlock) v4 x4_2) ∧ Aside0 (Kd.V Kd.string 9 w' w.heap.size (fun k_ => ((P0_6_ k_ ∨ P0_8_ k_ ∨ P0_10_ k_) ∨ w.heap.size ≤ k_) ∧ some k_ ≠ ((.slice Ao21 t366.length co21) : Value).ownBlock ∧ some k_ ≠ (v4 : Value).ownBlock ∧ k_ ≠ gb360) (.slice A0_6 l0_6.length c0_6) l0_6) ∧ Aside0 (Kd.V Kd.string 9 w' w.heap.size (fun k_ => ((P0_6_ k_ ∨ P0_8_ k_ ∨ P0_10_ k_) ∨ w.heap.size ≤ k_) ∧ some k_ ≠ ((.slice Ao21 t366.length co21) : Value).ownBlock ∧ some k_ ≠ (v4 : Value).ownBlock ∧ k_ ≠ gb360) (.slice A0_8 l0_8.length c0_8) l0_8) ∧ Aside0 (Kd.V Kd.string 9 w' w.heap.size (fun k_ => ((P0_6_ k_ ∨ P0_8_ k_ ∨ P0_10_ k_) ∨ w.heap.size ≤ k_) ∧ some k_ ≠ ((.slice Ao21 t366.length co21) : Value).ownBlock ∧ some k_ ≠ (v4 : Value).ownBlock ∧ k_ ≠ gb360) (.slice A0_10 l0_10.length c0_10) l0_10) ∧ Aside0 (w'.heap[gb360]? = some (.cells #[(.slice A0_0 l0_0.length c0_0), .int .i64 a0_1, (.slice A0_2 l0_2.length c0_2), (.slice A0_3 l0_3.length c0_3), .int .i64 a0_4, .int .i64 a0_5, (.slice A0_6 l0_6.length c0_6), .int .i64 a0_7, (.slice A0_8 l0_8.length c0_8), .int .i64 a0_9, (.slice A0_10 l0_10.length c0_10), (.slice A0_11 l0_11.length c0_11), .int .i64 a0_12, .int .i64 a0_13] 37 (0, 0))) ∧ Aside0 (Below w.heap.size w w'))
        case atStart => exact ⟨(([] : List ByteArray)), (0), (by first|rfl|(simp; done)|(simp [*]; done)), H', ⟨Nat.le_refl _⟩, ⟨by (with_reducible repeat (first|apply zE|apply zD|apply zF)); exact zR HO368.out (fun _ hk => ⟨hk.1, (by simp [Value.ownBlock])⟩)⟩, ⟨by first|exact Kd.R_nil _ _ _ _ _|exact Kd.N_nil _ _ _ _ _|exact Kd.V_nil _ _ _ _ _|exact Kd.Q_nil _ _ _ _ _|exact Kd.S_nil _ _ _ _ _⟩, ⟨by (with_reducible repeat (first|apply Kd.V_alloc|apply Kd.V_drewN|apply Kd.V_drew)); exact Kd.V_mono HO_361006.out (fun _ hk => ⟨hk.1, ⟨hk.2.2.1, ⟨(by simp [Value.ownBlock]), hk.2.2.2⟩⟩⟩)⟩, ⟨by (with_reducible repeat (first|apply Kd.V_alloc|apply Kd.V_drewN|apply Kd.V_drew)); exact Kd.V_mono HO_361008.out (fun _ hk => ⟨hk.1, ⟨hk.2.2.1, ⟨(by simp [Value.ownBlock]), hk.2.2.2⟩⟩⟩)⟩, ⟨by (with_reducible repeat (first|apply Kd.V_alloc|apply Kd.V_drewN|apply Kd.V_drew)); exact Kd.V_mono HO_361010.out (fun _ hk => ⟨hk.1, ⟨hk.2.2.1, ⟨(by simp [Value.ownBlock]), hk.2.2.2⟩⟩⟩)⟩, ⟨by (with_reducible repeat (first|refine zA ?_ _|refine zC ?_|refine zB ?_ _)); exact BK360.out⟩, ⟨by repeat (first|(with_reducible first|exact HB.out|apply zI|apply zG|apply zH|refine zJ ?_ GE360.out)|exact HB.out)⟩⟩
        case round =>
          clear H'
          try clear c1
          try clear p2
          try clear c3
          try clear c4
          try clear c5
          try clear c12
          try clear c13
          try clear hcz11_0
          try clear hcz11_1
          try clear hcz11_10
          try clear hcz11_11
          try clear hcz11_12
          try clear hcz11_13
          try clear hcz11_2
          try clear hcz11_3
          try clear hcz11_4
          try clear hcz11_5
          try clear hcz11_6
          try clear hcz11_7
          try clear hcz11_8
          try clear hcz11_9
          try clear hcz16_0
          try clear hcz16_1
          try clear hcz16_10
          try clear hcz16_11
          try clear hcz16_12
          try clear hcz16_13
          try clear hcz16_2
          try clear hcz16_3
          try clear hcz16_4
          try clear hcz16_5
          try clear hcz16_6
          try clear hcz16_7
          try clear hcz16_8
          try clear hcz16_9
          try clear hcz23_0
          try clear hcz23_1
          try clear hcz23_10
          try clear hcz23_11
          try clear hcz23_12
          try clear hcz23_13
          try clear hcz23_2
          try clear hcz23_3
          try clear hcz23_4
          try clear hcz23_5
          try clear hcz23_6
          try clear hcz23_7
          try clear hcz23_8
          try clear hcz23_9
          try clear hcz7_0
          try clear hcz7_1
          try clear hcz7_10
          try clear hcz7_11
          try clear hcz7_12
          try clear hcz7_13
          try clear hcz7_2
          try clear hcz7_3
          try clear hcz7_4
          try clear hcz7_5
          try clear hcz7_6
          try clear hcz7_7
          try clear hcz7_8
          try clear hcz7_9
          try clear hcz9_0
          try clear hcz9_1
          try clear hcz9_10
          try clear hcz9_11
          try clear hcz9_12
          try clear hcz9_13
          try clear hcz9_2
          try clear hcz9_3
          try clear hcz9_4
          try clear hcz9_5
          try clear hcz9_6
          try clear hcz9_7
          try clear hcz9_8
          try clear hcz9_9
          try clear hfz11_0
          try clear hfz11_1
          try clear hfz11_10
          try clear hfz11_11
          try clear hfz11_12
          try clear hfz11_13
          try clear hfz11_2
          try clear hfz11_3
          try clear hfz11_4
          try clear hfz11_5
          try clear hfz11_6
          try clear hfz11_7
          try clear hfz11_8
          try clear hfz11_9
          try clear hfz16_0
          try clear hfz16_1
          try clear hfz16_10
          try clear hfz16_11
          try clear hfz16_12
          try clear hfz16_13
          try clear hfz16_2
          try clear hfz16_3
          try clear hfz16_4
          try clear hfz16_5
          try clear hfz16_6
          try clear hfz16_7
          try clear hfz16_8
          try clear hfz16_9
          try clear hfz23_0
          try clear hfz23_1
          try clear hfz23_10
          try clear hfz23_11
          try clear hfz23_12
          try clear hfz23_13
          try clear hfz23_2
          try clear hfz23_3
          try clear hfz23_4
          try clear hfz23_5
          try clear hfz23_6
          try clear hfz23_7
          try clear hfz23_8
          try clear hfz23_9
          try clear hfz7_0
          try clear hfz7_1
          try clear hfz7_10
          try clear hfz7_11
          try clear hfz7_12
          try clear hfz7_13
          try clear hfz7_2
          try clear hfz7_3
          try clear hfz7_4
          try clear hfz7_5
          try clear hfz7_6
          try clear hfz7_7
          try clear hfz7_8
          try clear hfz7_9
          try clear hfz9_0
          try clear hfz9_1
          try clear hfz9_10
          try clear hfz9_11
          try clear hfz9_12
          try clear hfz9_13
          try clear hfz9_2
          try clear hfz9_3
          try clear hfz9_4
          try clear hfz9_5
          try clear hfz9_6
          try clear hfz9_7
          try clear hfz9_8
          try clear hfz9_9
          try clear p2
          obtain ⟨x4_2, x38_2, rfl, HA, HK2, HO_3, HO_4, HO_361006, HO_361008, HO_361010, BK360, HB⟩ := hrel
          have hl3_2 := (Kd.R_reads' HO_3.out).1
          rw [hl3_2] at HO_3
          (try simp only [hl3_2])
          (try simp only [hl3_2] at BK360)
          (try simp only [hl3_2] at HO_4)
          (try simp only [hl3_2] at HO_361006)
          (try simp only [hl3_2] at HO_361008)
          (try simp only [hl3_2] at HO_361010)
          cases gk with
         |zero => exact absurd HA.out (by simp [impl_NearOk.l0])
         |succ k2 =>
            have H := HA.out
            clear HA
            simp only [impl_NearOk.l0] at H
            by_cases c24 : x38_2 < (l0_0.length : Int)
            · rw [if_pos c24] at H
              have c24b0 : decide (x38_2 < (l0_0.length : Int)) = true := decide_eq_true c24
              clear c24
              by_cases c25 : 0 ≤ x38_2
              · rw [if_pos c25] at H
                have c25b0 : decide (0 ≤ x38_2) = true := decide_eq_true c25
                clear c25
                by_cases c26 : x38_2 < (l0_0.length : Int)
                · rw [if_pos c26] at H
                  have c26b0 : decide (x38_2 < (l0_0.length : Int)) = true := decide_eq_true c26
                  clear c26
                  obtain ⟨bq27, hbq27⟩ : ∃ b_ : Bool, b_ = ((rd_T73 l0_0 x38_2).f1) := ⟨_, rfl⟩
                  replace H : (if bq27 = true then (if x4_2.length < 8796093022208 then (impl_NearOk.l0 k2 t369 (x4_2 ++ [(rd_T73 l0_0 x38_2).f2]) l0_0 (l0_0.length : Int) (wrap64 (x38_2 + 1)) l0_0 a0_1 l0_2 l0_3 a0_4 a0_5 l0_6 a0_7 l0_8 a0_9 l0_10 l0_11 a0_12 a0_13) else (none)) else (impl_NearOk.l0 k2 t369 x4_2 l0_0 (l0_0.length : Int) (wrap64 (x38_2 + 1)) l0_0 a0_1 l0_2 l0_3 a0_4 a0_5 l0_6 a0_7 l0_8 a0_9 l0_10 l0_11 a0_12 a0_13)) = some r := by rw [← hbq27] at H; exact H
                  have Nbq27 := Aside0.mk hbq27
                  clear hbq27
                  by_cases c28 : bq27 = true
                  · subst c28
                    have H1 : (if x4_2.length < 8796093022208 then (impl_NearOk.l0 k2 t369 (x4_2 ++ [(rd_T73 l0_0 x38_2).f2]) l0_0 (l0_0.length : Int) (wrap64 (x38_2 + 1)) l0_0 a0_1 l0_2 l0_3 a0_4 a0_5 l0_6 a0_7 l0_8 a0_9 l0_10 l0_11 a0_12 a0_13) else (none)) = some r := by rw [if_pos rfl] at H; exact H
                    clear H
                    have H := H1
                    clear H1
                    by_cases c29 : x4_2.length < 8796093022208
                    · rw [if_pos c29] at H
                      have LMc29 := Aside0.mk c29
                      clear c29
                      obtain ⟨y372, hy372⟩ : ∃ y_ : List ByteArray, y_ = (x4_2 ++ [(rd_T73 l0_0 x38_2).f2]) := ⟨_, rfl⟩
                      replace H : (impl_NearOk.l0 k2 t369 y372 l0_0 (l0_0.length : Int) (wrap64 (x38_2 + 1)) l0_0 a0_1 l0_2 l0_3 a0_4 a0_5 l0_6 a0_7 l0_8 a0_9 l0_10 l0_11 a0_12 a0_13) = some r := by first|(rw [hy372]; with_reducible exact H)|(have H2_ := (Option.bind_some _ _).symm.trans H; rw [hy372]; with_reducible exact H2_)|(have H2_ := (Option.bind_some _ _).symm.trans H; with_reducible exact H2_)|with_reducible exact H|(rw [hy372]; exact H)|exact H
                      have Ny372 := Aside0.mk hy372
                      clear hy372
                      have H' := Aside0.mk H
                      clear H
                      have p370 : 0 ≤ (x38_2 : Int) := of_decide_eq_true (by first|(with_reducible assumption)|assumption)
                      have q370 : x38_2 < (l0_0.length : Int) := of_decide_eq_true (by first|(with_reducible assumption)|assumption)
                      obtain ⟨ad370, e370, hx370_0, hx370_1, hx370_2, hx370_3, hx370_4⟩ := at_T73 HR0_0.out x38_2 p370 q370
                      (try rw [← Nbq27.out] at hx370_1)
                      cases e370
                      replace hx370_0 := (HB.out.cell (World.block_lt_of_cell? w _ hx370_0)).trans hx370_0
                      replace hx370_1 := (HB.out.cell (World.block_lt_of_cell? w _ hx370_1)).trans hx370_1
                      replace hx370_2 := (HB.out.cell (World.block_lt_of_cell? w _ hx370_2)).trans hx370_2
                      replace hx370_3 := (HB.out.cell (World.block_lt_of_cell? w _ hx370_3)).trans hx370_3
                      replace hx370_4 := (HB.out.cell (World.block_lt_of_cell? w _ hx370_4)).trans hx370_4
                      replace p370 := eq_true p370
                      replace q370 := eq_true q370
                      go_wp2_with (first|((with_reducible refine gate_dst (N := 6) rfl ?_); refine box_event ?hg (N := 6) ?hd (cs := #[.int .i64 0, .bool false, .string (⟨#[]⟩ : ByteArray), .string (⟨#[]⟩ : ByteArray), .int .i64 0]) (t := 73) ?hr ?_; (case hd => rfl); (case hg => rfl); (case hr => first|(go_simp; done)|(go_simp; rfl)); intro gb371 hg w30 hbox hb; have n0_ := Aside0.mk (zM (by (with_reducible repeat (first|apply zE|apply zD|apply zF)); exact HO_3.out) hb); have n1_ := Aside0.mk (zM (by (with_reducible repeat (first|apply zE|apply zD|apply zF)); exact HO_4.out) hb); have n2_ := Aside0.mk (Kd.V_below (Kd.V_elderB (by (with_reducible repeat (first|apply Kd.V_alloc|apply Kd.V_drewN|apply Kd.V_drew)); exact HO_361006.out) gb371 (Nat.le_of_eq hg.symm)) hb); have n3_ := Aside0.mk (Kd.V_below (Kd.V_elderB (by (with_reducible repeat (first|apply Kd.V_alloc|apply Kd.V_drewN|apply Kd.V_drew)); exact HO_361008.out) gb371 (Nat.le_of_eq hg.symm)) hb); have n4_ := Aside0.mk (Kd.V_below (Kd.V_elderB (by (with_reducible repeat (first|apply Kd.V_alloc|apply Kd.V_drewN|apply Kd.V_drew)); exact HO_361010.out) gb371 (Nat.le_of_eq hg.symm)) hb); have n5_ := Aside0.mk (zK (g := gb360) (o := .cells #[.slice (some ad370) l0_0.length c0_0, .int .i64 a0_1, .slice A0_2 l0_2.length c0_2, .slice A0_3 l0_3.length c0_3, .int .i64 a0_4, .int .i64 a0_5, .slice A0_6 l0_6.length c0_6, .int .i64 a0_7, .slice A0_8 l0_8.length c0_8, .int .i64 a0_9, .slice A0_10 l0_10.length c0_10, .slice A0_11 l0_11.length c0_11, .int .i64 a0_12, .int .i64 a0_13] 37 (0, 0)) (by (with_reducible repeat (first|refine zA ?_ _|refine zC ?_|refine zB ?_ _)); exact BK360.out) hb); have n6_ := Aside0.mk (zN (by repeat (first|(with_reducible first|exact HB.out|apply zI|apply zG|apply zH|refine zJ ?_ GE360.out)|exact HB.out)) hb); have n7_ := Aside0.mk (hbox); have n8_ := Aside0.mk ((by rw [hg]; exact (below_size (by repeat (first|(with_reducible first|exact HB.out|apply zI|apply zG|apply zH|refine zJ ?_ GE360.out)|exact HB.out))) : w.heap.size ≤ gb371)); have n9_ := Aside0.mk ((by rw [hg]; exact (below_size (by repeat (first|(with_reducible first|exact HB.out|apply zI|apply zG|apply zH|refine zJ ?_ GE360.out)|exact HB.out))) : w.heap.size ≤ gb371)); have n10_ := Aside0.mk ((by rw [hg]; exact Nat.ne_of_lt (blk_lt (g := gb360) (o := .cells #[.slice (some ad370) l0_0.length c0_0, .int .i64 a0_1, .slice A0_2 l0_2.length c0_2, .slice A0_3 l0_3.length c0_3, .int .i64 a0_4, .int .i64 a0_5, .slice A0_6 l0_6.length c0_6, .int .i64 a0_7, .slice A0_8 l0_8.length c0_8, .int .i64 a0_9, .slice A0_10 l0_10.length c0_10, .slice A0_11 l0_11.length c0_11, .int .i64 a0_12, .int .i64 a0_13] 37 (0, 0)) (by (with_reducible repeat (first|refine zA ?_ _|refine zC ?_|refine zB ?_ _)); exact BK360.out)) : gb360 ≠ gb371)); have n11_ := Aside0.mk ((by rw [hg]; exact Nat.ne_of_gt (blk_lt (g := gb360) (o := .cells #[.slice (some ad370) l0_0.length c0_0, .int .i64 a0_1, .slice A0_2 l0_2.length c0_2, .slice A0_3 l0_3.length c0_3, .int .i64 a0_4, .int .i64 a0_5, .slice A0_6 l0_6.length c0_6, .int .i64 a0_7, .slice A0_8 l0_8.length c0_8, .int .i64 a0_9, .slice A0_10 l0_10.length c0_10, .slice A0_11 l0_11.length c0_11, .int .i64 a0_12, .int .i64 a0_13] 37 (0, 0)) (by (with_reducible repeat (first|refine zA ?_ _|refine zC ?_|refine zB ?_ _)); exact BK360.out)) : gb371 ≠ gb360)); clear HO_3; clear HO_4; clear HO_361006; clear HO_361008; clear HO_361010; clear BK360; clear HB; have HO_3 := n0_; have HO_4 := n1_; have HO_361006 := n2_; have HO_361008 := n3_; have HO_361010 := n4_; have BK360 := n5_; have HB := n6_; have BK371 := n7_; have GW371 := n8_; have GE371 := n9_; have NB360_371 := n10_; have NB371_360 := n11_; clear n0_ n1_ n2_ n3_ n4_ n5_ n6_ n7_ n8_ n9_ n10_ n11_; clear hb hbox hg; have hnb31 := NB371_360.out; have hnc31 := NB360_371.out; obtain ⟨hcz32_0, hcz32_1, hcz32_2, hcz32_3, hcz32_4, hfz32_0, hfz32_1, hfz32_2, hfz32_3, hfz32_4⟩ := zb5 BK371.out)|((with_reducible refine gate_builtin (b := .append) (xs := #[.tmp 44, .tmp 47]) rfl ?_); at_builtin; refine Kd.R_append Kd.string (w0 := w) w.heap.size rfl (.tmp 44) (.tmp 47) 28 9 (.string ⟨#[]⟩) 16 rfl Try.underlying28 info9 rfl (by decide) (by omega) u4 x4_2 ((rd_T73 l0_0 x38_2).f2) [.string ((rd_T73 l0_0 x38_2).f2)] (fun k_ => (w.heap.size ≤ k_) ∧ some k_ ≠ (.slice Ao21 t369.length co21 : Value).ownBlock) (fun _ => False) rfl (by first|(go_simp; done)|(go_simp; rfl)) ?aP (fun _ hk => hk.elim) ?aF ?aO ?aB ?aS ?aL ?_; (case aP => exact rfl); (case aB => exact (by repeat (first|(with_reducible first|exact HB.out|apply zI|apply zG|apply zH|refine zJ ?_ GE360.out|refine zJ ?_ GE371.out)|exact HB.out))); (case aF => exact (fun k_ hk => ⟨(Nat.le_trans (below_size (by repeat (first|(with_reducible first|exact HB.out|apply zI|apply zG|apply zH|refine zJ ?_ GE360.out|refine zJ ?_ GE371.out)|exact HB.out))) hk), Kd.fresh' (Kd.R_lt (by (with_reducible repeat (first|apply zE|apply zD|apply zF)); exact (zR (zL (p := ⟨gb371, 4, none⟩) (zL (p := ⟨gb371, 3, none⟩) (zL (p := ⟨gb371, 2, none⟩) (zL (p := ⟨gb371, 1, none⟩) (zL (p := ⟨gb371, 0, none⟩) (zQ HO_3.out BK371.out (by decide)) (fun _ hk => hk.2) (.int .i64 ((rd_T73 l0_0 x38_2).f0))) (fun _ hk => hk.2) (.bool true)) (fun _ hk => hk.2) (.string ((rd_T73 l0_0 x38_2).f2))) (fun _ hk => hk.2) (.string ((rd_T73 l0_0 x38_2).f3))) (fun _ hk => hk.2) (.int .i64 ((rd_T73 l0_0 x38_2).f4))) (fun _ h_ => h_.1)))) k_ hk⟩)); (case aO => exact (by (with_reducible repeat (first|apply zE|apply zD|apply zF)); exact zR (zL (p := ⟨gb371, 4, none⟩) (zL (p := ⟨gb371, 3, none⟩) (zL (p := ⟨gb371, 2, none⟩) (zL (p := ⟨gb371, 1, none⟩) (zL (p := ⟨gb371, 0, none⟩) (zQ HO_4.out BK371.out (by decide)) (fun _ hk => hk.2) (.int .i64 ((rd_T73 l0_0 x38_2).f0))) (fun _ hk => hk.2) (.bool true)) (fun _ hk => hk.2) (.string ((rd_T73 l0_0 x38_2).f2))) (fun _ hk => hk.2) (.string ((rd_T73 l0_0 x38_2).f3))) (fun _ hk => hk.2) (.int .i64 ((rd_T73 l0_0 x38_2).f4))) (fun _ hk => ⟨hk.1.1, hk.1.2⟩))); (case aS => exact (below_size (by repeat (first|(with_reducible first|exact HB.out|apply zI|apply zG|apply zH|refine zJ ?_ GE360.out|refine zJ ?_ GE371.out)|exact HB.out)))); (case aL => have := LMc29.out; omega); intro v373 w33 ho hb hg hat; rw [← Ny372.out] at ho; have n0_ := Aside0.mk (Kd.R_after (ok := (fun k_ => (w.heap.size ≤ k_))) (by (with_reducible repeat (first|apply zE|apply zD|apply zF)); exact zR (zL (p := ⟨gb371, 4, none⟩) (zL (p := ⟨gb371, 3, none⟩) (zL (p := ⟨gb371, 2, none⟩) (zL (p := ⟨gb371, 1, none⟩) (zL (p := ⟨gb371, 0, none⟩) (zQ HO_3.out BK371.out (by decide)) (fun _ hk => hk.2) (.int .i64 ((rd_T73 l0_0 x38_2).f0))) (fun _ hk => hk.2) (.bool true)) (fun _ hk => hk.2) (.string ((rd_T73 l0_0 x38_2).f2))) (fun _ hk => hk.2) (.string ((rd_T73 l0_0 x38_2).f3))) (fun _ hk => hk.2) (.int .i64 ((rd_T73 l0_0 x38_2).f4))) (fun _ hk => ⟨hk.1.1, hk.1.2⟩)) hg hat); have n1_ := Aside0.mk (Kd.V_afterv (ok := (fun k_ => ((P0_6_ k_ ∨ P0_8_ k_ ∨ P0_10_ k_) ∨ w.heap.size ≤ k_) ∧ some k_ ≠ (.slice Ao21 t369.length co21 : Value).ownBlock ∧ k_ ≠ gb360 ∧ k_ ≠ gb371)) (by (with_reducible repeat (first|apply Kd.V_alloc|apply Kd.V_drewN|apply Kd.V_drew)); exact Kd.V_mono (Kd.V_far (p := ⟨gb371, 4, none⟩) (Kd.V_far (p := ⟨gb371, 3, none⟩) (Kd.V_far (p := ⟨gb371, 2, none⟩) (Kd.V_far (p := ⟨gb371, 1, none⟩) (Kd.V_far (p := ⟨gb371, 0, none⟩) (Kd.V_mono HO_361006.out (fun k_ hk => (⟨hk, hk.2⟩ : _ ∧ k_ ≠ gb371))) (fun _ hk => hk.2) (.int .i64 ((rd_T73 l0_0 x38_2).f0))) (fun _ hk => hk.2) (.bool true)) (fun _ hk => hk.2) (.string ((rd_T73 l0_0 x38_2).f2))) (fun _ hk => hk.2) (.string ((rd_T73 l0_0 x38_2).f3))) (fun _ hk => hk.2) (.int .i64 ((rd_T73 l0_0 x38_2).f4))) (fun _ hk => ⟨⟨hk.1.1.1, ⟨hk.1.1.2.1, ⟨hk.1.1.2.2.2, hk.1.2⟩⟩⟩, hk.1.1.2.2.1⟩)) hg hat); have n2_ := Aside0.mk (Kd.V_afterv (ok := (fun k_ => ((P0_6_ k_ ∨ P0_8_ k_ ∨ P0_10_ k_) ∨ w.heap.size ≤ k_) ∧ some k_ ≠ (.slice Ao21 t369.length co21 : Value).ownBlock ∧ k_ ≠ gb360 ∧ k_ ≠ gb371)) (by (with_reducible repeat (first|apply Kd.V_alloc|apply Kd.V_drewN|apply Kd.V_drew)); exact Kd.V_mono (Kd.V_far (p := ⟨gb371, 4, none⟩) (Kd.V_far (p := ⟨gb371, 3, none⟩) (Kd.V_far (p := ⟨gb371, 2, none⟩) (Kd.V_far (p := ⟨gb371, 1, none⟩) (Kd.V_far (p := ⟨gb371, 0, none⟩) (Kd.V_mono HO_361008.out (fun k_ hk => (⟨hk, hk.2⟩ : _ ∧ k_ ≠ gb371))) (fun _ hk => hk.2) (.int .i64 ((rd_T73 l0_0 x38_2).f0))) (fun _ hk => hk.2) (.bool true)) (fun _ hk => hk.2) (.string ((rd_T73 l0_0 x38_2).f2))) (fun _ hk => hk.2) (.string ((rd_T73 l0_0 x38_2).f3))) (fun _ hk => hk.2) (.int .i64 ((rd_T73 l0_0 x38_2).f4))) (fun _ hk => ⟨⟨hk.1.1.1, ⟨hk.1.1.2.1, ⟨hk.1.1.2.2.2, hk.1.2⟩⟩⟩, hk.1.1.2.2.1⟩)) hg hat); have n3_ := Aside0.mk (Kd.V_afterv (ok := (fun k_ => ((P0_6_ k_ ∨ P0_8_ k_ ∨ P0_10_ k_) ∨ w.heap.size ≤ k_) ∧ some k_ ≠ (.slice Ao21 t369.length co21 : Value).ownBlock ∧ k_ ≠ gb360 ∧ k_ ≠ gb371)) (by (with_reducible repeat (first|apply Kd.V_alloc|apply Kd.V_drewN|apply Kd.V_drew)); exact Kd.V_mono (Kd.V_far (p := ⟨gb371, 4, none⟩) (Kd.V_far (p := ⟨gb371, 3, none⟩) (Kd.V_far (p := ⟨gb371, 2, none⟩) (Kd.V_far (p := ⟨gb371, 1, none⟩) (Kd.V_far (p := ⟨gb371, 0, none⟩) (Kd.V_mono HO_361010.out (fun k_ hk => (⟨hk, hk.2⟩ : _ ∧ k_ ≠ gb371))) (fun _ hk => hk.2) (.int .i64 ((rd_T73 l0_0 x38_2).f0))) (fun _ hk => hk.2) (.bool true)) (fun _ hk => hk.2) (.string ((rd_T73 l0_0 x38_2).f2))) (fun _ hk => hk.2) (.string ((rd_T73 l0_0 x38_2).f3))) (fun _ hk => hk.2) (.int .i64 ((rd_T73 l0_0 x38_2).f4))) (fun _ hk => ⟨⟨hk.1.1.1, ⟨hk.1.1.2.1, ⟨hk.1.1.2.2.2, hk.1.2⟩⟩⟩, hk.1.1.2.2.1⟩)) hg hat); have n4_ := Aside0.mk (blk_grown (g := gb360) (o := .cells #[.slice (some ad370) l0_0.length c0_0, .int .i64 a0_1, .slice A0_2 l0_2.length c0_2, .slice A0_3 l0_3.length c0_3, .int .i64 a0_4, .int .i64 a0_5, .slice A0_6 l0_6.length c0_6, .int .i64 a0_7, .slice A0_8 l0_8.length c0_8, .int .i64 a0_9, .slice A0_10 l0_10.length c0_10, .slice A0_11 l0_11.length c0_11, .int .i64 a0_12, .int .i64 a0_13] 37 (0, 0)) (by (with_reducible repeat (first|refine zA ?_ _|refine zC ?_|refine zB ?_ _)); refine zT ?_ NB360_371.out _; (with_reducible repeat (first|refine zA ?_ _|refine zC ?_|refine zB ?_ _)); refine zT ?_ NB360_371.out _; (with_reducible repeat (first|refine zA ?_ _|refine zC ?_|refine zB ?_ _)); refine zT ?_ NB360_371.out _; (with_reducible repeat (first|refine zA ?_ _|refine zC ?_|refine zB ?_ _)); refine zT ?_ NB360_371.out _; (with_reducible repeat (first|refine zA ?_ _|refine zC ?_|refine zB ?_ _)); refine zT ?_ NB360_371.out _; (with_reducible repeat (first|refine zA ?_ _|refine zC ?_|refine zB ?_ _)); exact BK360.out) hg (Kd.R_ne HO_4.out BK360.out (by decide))); have n5_ := Aside0.mk (blk_grown (g := gb371) (o := .cells #[.int .i64 ((rd_T73 l0_0 x38_2).f0), .bool true, .string ((rd_T73 l0_0 x38_2).f2), .string ((rd_T73 l0_0 x38_2).f3), .int .i64 ((rd_T73 l0_0 x38_2).f4)] 73 (0, 0)) (by (with_reducible repeat (first|refine zA ?_ _|refine zC ?_|refine zB ?_ _)); refine blk_put (cs := #[.int .i64 ((rd_T73 l0_0 x38_2).f0), .bool true, .string ((rd_T73 l0_0 x38_2).f2), .string ((rd_T73 l0_0 x38_2).f3), .int .i64 0]) ?_ 4 _ rfl; (with_reducible repeat (first|refine zA ?_ _|refine zC ?_|refine zB ?_ _)); refine blk_put (cs := #[.int .i64 ((rd_T73 l0_0 x38_2).f0), .bool true, .string ((rd_T73 l0_0 x38_2).f2), .string (⟨#[]⟩ : ByteArray), .int .i64 0]) ?_ 3 _ rfl; (with_reducible repeat (first|refine zA ?_ _|refine zC ?_|refine zB ?_ _)); refine blk_put (cs := #[.int .i64 ((rd_T73 l0_0 x38_2).f0), .bool true, .string (⟨#[]⟩ : ByteArray), .string (⟨#[]⟩ : ByteArray), .int .i64 0]) ?_ 2 _ rfl; (with_reducible repeat (first|refine zA ?_ _|refine zC ?_|refine zB ?_ _)); refine blk_put (cs := #[.int .i64 ((rd_T73 l0_0 x38_2).f0), .bool false, .string (⟨#[]⟩ : ByteArray), .string (⟨#[]⟩ : ByteArray), .int .i64 0]) ?_ 1 _ rfl; (with_reducible repeat (first|refine zA ?_ _|refine zC ?_|refine zB ?_ _)); refine blk_put (cs := #[.int .i64 0, .bool false, .string (⟨#[]⟩ : ByteArray), .string (⟨#[]⟩ : ByteArray), .int .i64 0]) ?_ 0 _ rfl; (with_reducible repeat (first|refine zA ?_ _|refine zC ?_|refine zB ?_ _)); exact BK371.out) hg (Kd.R_ne HO_4.out BK371.out (by decide))); have n6_ := Aside0.mk (hb); have n7_ := Aside0.mk (ho); clear HO_3; clear HO_361006; clear HO_361008; clear HO_361010; clear BK360; clear BK371; clear HB; clear HO_4; have HO_3 := n0_; have HO_361006 := n1_; have HO_361008 := n2_; have HO_361010 := n3_; have BK360 := n4_; have BK371 := n5_; have HB := n6_; have HO374 := n7_; clear n0_ n1_ n2_ n3_ n4_ n5_ n6_ n7_; clear ho hb hg hat))
                      (try simp only [← hl3_2])
                      go_roundg k2
                      case measure => have := HJ1.out; have := HK2.out; omega
                      case rel => exact ⟨(y372), (wrap64 (x38_2 + 1)), (by first|rfl|(simp; done)|(simp [*]; done)), H', ⟨by have := HJ1.out; have := HK2.out; omega⟩, ⟨by (try simp only [hl3_2]); (with_reducible repeat (first|apply zE|apply zD|apply zF)); exact HO_3.out⟩, ⟨by (try simp only [hl3_2]); (with_reducible repeat (first|apply zE|apply zD|apply zF)); exact HO374.out⟩, ⟨by (try simp only [hl3_2]); (with_reducible repeat (first|apply Kd.V_alloc|apply Kd.V_drewN|apply Kd.V_drew)); exact Kd.V_mono HO_361006.out (fun _ hk => ⟨hk.1.1, ⟨hk.1.2.1, ⟨hk.2, hk.1.2.2.1⟩⟩⟩)⟩, ⟨by (try simp only [hl3_2]); (with_reducible repeat (first|apply Kd.V_alloc|apply Kd.V_drewN|apply Kd.V_drew)); exact Kd.V_mono HO_361008.out (fun _ hk => ⟨hk.1.1, ⟨hk.1.2.1, ⟨hk.2, hk.1.2.2.1⟩⟩⟩)⟩, ⟨by (try simp only [hl3_2]); (with_reducible repeat (first|apply Kd.V_alloc|apply Kd.V_drewN|apply Kd.V_drew)); exact Kd.V_mono HO_361010.out (fun _ hk => ⟨hk.1.1, ⟨hk.1.2.1, ⟨hk.2, hk.1.2.2.1⟩⟩⟩)⟩, ⟨by (try simp only [hl3_2]); (with_reducible repeat (first|refine zA ?_ _|refine zC ?_|refine zB ?_ _)); exact BK360.out⟩, ⟨by repeat (first|(with_reducible first|exact HB.out|apply zI|apply zG|apply zH|refine zJ ?_ GE360.out|refine zJ ?_ GE371.out)|exact HB.out)⟩⟩
                    · rw [if_neg c29] at H
                      exact absurd H (by simp)
                  · replace c28 := Bool.eq_false_iff.mpr c28
                    subst c28
                    have H1 : (impl_NearOk.l0 k2 t369 x4_2 l0_0 (l0_0.length : Int) (wrap64 (x38_2 + 1)) l0_0 a0_1 l0_2 l0_3 a0_4 a0_5 l0_6 a0_7 l0_8 a0_9 l0_10 l0_11 a0_12 a0_13) = some r := by rw [if_neg (show ¬ (false = true) by decide)] at H; exact H
                    clear H
                    have H := H1
                    clear H1
                    have H' := Aside0.mk H
                    clear H
                    have p370 : 0 ≤ (x38_2 : Int) := of_decide_eq_true (by first|(with_reducible assumption)|assumption)
                    have q370 : x38_2 < (l0_0.length : Int) := of_decide_eq_true (by first|(with_reducible assumption)|assumption)
                    obtain ⟨ad370, e370, hx370_0, hx370_1, hx370_2, hx370_3, hx370_4⟩ := at_T73 HR0_0.out x38_2 p370 q370
                    (try rw [← Nbq27.out] at hx370_1)
                    cases e370
                    replace hx370_0 := (HB.out.cell (World.block_lt_of_cell? w _ hx370_0)).trans hx370_0
                    replace hx370_1 := (HB.out.cell (World.block_lt_of_cell? w _ hx370_1)).trans hx370_1
                    replace hx370_2 := (HB.out.cell (World.block_lt_of_cell? w _ hx370_2)).trans hx370_2
                    replace hx370_3 := (HB.out.cell (World.block_lt_of_cell? w _ hx370_3)).trans hx370_3
                    replace hx370_4 := (HB.out.cell (World.block_lt_of_cell? w _ hx370_4)).trans hx370_4
                    replace p370 := eq_true p370
                    replace q370 := eq_true q370
                    go_wp2_with (first|((with_reducible refine gate_dst (N := 6) rfl ?_); refine box_event ?hg (N := 6) ?hd (cs := #[.int .i64 0, .bool false, .string (⟨#[]⟩ : ByteArray), .string (⟨#[]⟩ : ByteArray), .int .i64 0]) (t := 73) ?hr ?_; (case hd => rfl); (case hg => rfl); (case hr => first|(go_simp; done)|(go_simp; rfl)); intro gb371 hg w34 hbox hb; have n0_ := Aside0.mk (zM (by (with_reducible repeat (first|apply zE|apply zD|apply zF)); exact HO_3.out) hb); have n1_ := Aside0.mk (zM (by (with_reducible repeat (first|apply zE|apply zD|apply zF)); exact HO_4.out) hb); have n2_ := Aside0.mk (Kd.V_below (Kd.V_elderB (by (with_reducible repeat (first|apply Kd.V_alloc|apply Kd.V_drewN|apply Kd.V_drew)); exact HO_361006.out) gb371 (Nat.le_of_eq hg.symm)) hb); have n3_ := Aside0.mk (Kd.V_below (Kd.V_elderB (by (with_reducible repeat (first|apply Kd.V_alloc|apply Kd.V_drewN|apply Kd.V_drew)); exact HO_361008.out) gb371 (Nat.le_of_eq hg.symm)) hb); have n4_ := Aside0.mk (Kd.V_below (Kd.V_elderB (by (with_reducible repeat (first|apply Kd.V_alloc|apply Kd.V_drewN|apply Kd.V_drew)); exact HO_361010.out) gb371 (Nat.le_of_eq hg.symm)) hb); have n5_ := Aside0.mk (zK (g := gb360) (o := .cells #[.slice (some ad370) l0_0.length c0_0, .int .i64 a0_1, .slice A0_2 l0_2.length c0_2, .slice A0_3 l0_3.length c0_3, .int .i64 a0_4, .int .i64 a0_5, .slice A0_6 l0_6.length c0_6, .int .i64 a0_7, .slice A0_8 l0_8.length c0_8, .int .i64 a0_9, .slice A0_10 l0_10.length c0_10, .slice A0_11 l0_11.length c0_11, .int .i64 a0_12, .int .i64 a0_13] 37 (0, 0)) (by (with_reducible repeat (first|refine zA ?_ _|refine zC ?_|refine zB ?_ _)); exact BK360.out) hb); have n6_ := Aside0.mk (zN (by repeat (first|(with_reducible first|exact HB.out|apply zI|apply zG|apply zH|refine zJ ?_ GE360.out)|exact HB.out)) hb); have n7_ := Aside0.mk (hbox); have n8_ := Aside0.mk ((by rw [hg]; exact (below_size (by repeat (first|(with_reducible first|exact HB.out|apply zI|apply zG|apply zH|refine zJ ?_ GE360.out)|exact HB.out))) : w.heap.size ≤ gb371)); have n9_ := Aside0.mk ((by rw [hg]; exact (below_size (by repeat (first|(with_reducible first|exact HB.out|apply zI|apply zG|apply zH|refine zJ ?_ GE360.out)|exact HB.out))) : w.heap.size ≤ gb371)); have n10_ := Aside0.mk ((by rw [hg]; exact Nat.ne_of_lt (blk_lt (g := gb360) (o := .cells #[.slice (some ad370) l0_0.length c0_0, .int .i64 a0_1, .slice A0_2 l0_2.length c0_2, .slice A0_3 l0_3.length c0_3, .int .i64 a0_4, .int .i64 a0_5, .slice A0_6 l0_6.length c0_6, .int .i64 a0_7, .slice A0_8 l0_8.length c0_8, .int .i64 a0_9, .slice A0_10 l0_10.length c0_10, .slice A0_11 l0_11.length c0_11, .int .i64 a0_12, .int .i64 a0_13] 37 (0, 0)) (by (with_reducible repeat (first|refine zA ?_ _|refine zC ?_|refine zB ?_ _)); exact BK360.out)) : gb360 ≠ gb371)); have n11_ := Aside0.mk ((by rw [hg]; exact Nat.ne_of_gt (blk_lt (g := gb360) (o := .cells #[.slice (some ad370) l0_0.length c0_0, .int .i64 a0_1, .slice A0_2 l0_2.length c0_2, .slice A0_3 l0_3.length c0_3, .int .i64 a0_4, .int .i64 a0_5, .slice A0_6 l0_6.length c0_6, .int .i64 a0_7, .slice A0_8 l0_8.length c0_8, .int .i64 a0_9, .slice A0_10 l0_10.length c0_10, .slice A0_11 l0_11.length c0_11, .int .i64 a0_12, .int .i64 a0_13] 37 (0, 0)) (by (with_reducible repeat (first|refine zA ?_ _|refine zC ?_|refine zB ?_ _)); exact BK360.out)) : gb371 ≠ gb360)); clear HO_3; clear HO_4; clear HO_361006; clear HO_361008; clear HO_361010; clear BK360; clear HB; have HO_3 := n0_; have HO_4 := n1_; have HO_361006 := n2_; have HO_361008 := n3_; have HO_361010 := n4_; have BK360 := n5_; have HB := n6_; have BK371 := n7_; have GW371 := n8_; have GE371 := n9_; have NB360_371 := n10_; have NB371_360 := n11_; clear n0_ n1_ n2_ n3_ n4_ n5_ n6_ n7_ n8_ n9_ n10_ n11_; clear hb hbox hg; have hnb35 := NB371_360.out; have hnc35 := NB360_371.out; obtain ⟨hcz36_0, hcz36_1, hcz36_2, hcz36_3, hcz36_4, hfz36_0, hfz36_1, hfz36_2, hfz36_3, hfz36_4⟩ := zb5 BK371.out))
                    (try simp only [← hl3_2])
                    go_roundg k2
                    case measure => have := HJ1.out; have := HK2.out; omega
                    case rel => exact ⟨(x4_2), (wrap64 (x38_2 + 1)), (by first|rfl|(simp; done)|(simp [*]; done)), H', ⟨by have := HJ1.out; have := HK2.out; omega⟩, ⟨by (try simp only [hl3_2]); (with_reducible repeat (first|apply zE|apply zD|apply zF)); exact zR (zL (p := ⟨gb371, 4, none⟩) (zL (p := ⟨gb371, 3, none⟩) (zL (p := ⟨gb371, 2, none⟩) (zL (p := ⟨gb371, 1, none⟩) (zL (p := ⟨gb371, 0, none⟩) (zQ HO_3.out BK371.out (by decide)) (fun _ hk => hk.2) (.int .i64 ((rd_T73 l0_0 x38_2).f0))) (fun _ hk => hk.2) (.bool false)) (fun _ hk => hk.2) (.string ((rd_T73 l0_0 x38_2).f2))) (fun _ hk => hk.2) (.string ((rd_T73 l0_0 x38_2).f3))) (fun _ hk => hk.2) (.int .i64 ((rd_T73 l0_0 x38_2).f4))) (fun _ hk => ⟨hk.1.1, hk.1.2⟩)⟩, ⟨by (try simp only [hl3_2]); (with_reducible repeat (first|apply zE|apply zD|apply zF)); exact zR (zL (p := ⟨gb371, 4, none⟩) (zL (p := ⟨gb371, 3, none⟩) (zL (p := ⟨gb371, 2, none⟩) (zL (p := ⟨gb371, 1, none⟩) (zL (p := ⟨gb371, 0, none⟩) (zQ HO_4.out BK371.out (by decide)) (fun _ hk => hk.2) (.int .i64 ((rd_T73 l0_0 x38_2).f0))) (fun _ hk => hk.2) (.bool false)) (fun _ hk => hk.2) (.string ((rd_T73 l0_0 x38_2).f2))) (fun _ hk => hk.2) (.string ((rd_T73 l0_0 x38_2).f3))) (fun _ hk => hk.2) (.int .i64 ((rd_T73 l0_0 x38_2).f4))) (fun _ hk => ⟨hk.1.1, hk.1.2⟩)⟩, ⟨by (try simp only [hl3_2]); (with_reducible repeat (first|apply Kd.V_alloc|apply Kd.V_drewN|apply Kd.V_drew)); exact Kd.V_mono (Kd.V_far (p := ⟨gb371, 4, none⟩) (Kd.V_far (p := ⟨gb371, 3, none⟩) (Kd.V_far (p := ⟨gb371, 2, none⟩) (Kd.V_far (p := ⟨gb371, 1, none⟩) (Kd.V_far (p := ⟨gb371, 0, none⟩) (Kd.V_mono HO_361006.out (fun k_ hk => (⟨hk, hk.2⟩ : _ ∧ k_ ≠ gb371))) (fun _ hk => hk.2) (.int .i64 ((rd_T73 l0_0 x38_2).f0))) (fun _ hk => hk.2) (.bool false)) (fun _ hk => hk.2) (.string ((rd_T73 l0_0 x38_2).f2))) (fun _ hk => hk.2) (.string ((rd_T73 l0_0 x38_2).f3))) (fun _ hk => hk.2) (.int .i64 ((rd_T73 l0_0 x38_2).f4))) (fun _ hk => ⟨hk.1.1.1, ⟨hk.1.1.2.1, ⟨hk.1.1.2.2.1, hk.1.1.2.2.2⟩⟩⟩)⟩, ⟨by (try simp only [hl3_2]); (with_reducible repeat (first|apply Kd.V_alloc|apply Kd.V_drewN|apply Kd.V_drew)); exact Kd.V_mono (Kd.V_far (p := ⟨gb371, 4, none⟩) (Kd.V_far (p := ⟨gb371, 3, none⟩) (Kd.V_far (p := ⟨gb371, 2, none⟩) (Kd.V_far (p := ⟨gb371, 1, none⟩) (Kd.V_far (p := ⟨gb371, 0, none⟩) (Kd.V_mono HO_361008.out (fun k_ hk => (⟨hk, hk.2⟩ : _ ∧ k_ ≠ gb371))) (fun _ hk => hk.2) (.int .i64 ((rd_T73 l0_0 x38_2).f0))) (fun _ hk => hk.2) (.bool false)) (fun _ hk => hk.2) (.string ((rd_T73 l0_0 x38_2).f2))) (fun _ hk => hk.2) (.string ((rd_T73 l0_0 x38_2).f3))) (fun _ hk => hk.2) (.int .i64 ((rd_T73 l0_0 x38_2).f4))) (fun _ hk => ⟨hk.1.1.1, ⟨hk.1.1.2.1, ⟨hk.1.1.2.2.1, hk.1.1.2.2.2⟩⟩⟩)⟩, ⟨by (try simp only [hl3_2]); (with_reducible repeat (first|apply Kd.V_alloc|apply Kd.V_drewN|apply Kd.V_drew)); exact Kd.V_mono (Kd.V_far (p := ⟨gb371, 4, none⟩) (Kd.V_far (p := ⟨gb371, 3, none⟩) (Kd.V_far (p := ⟨gb371, 2, none⟩) (Kd.V_far (p := ⟨gb371, 1, none⟩) (Kd.V_far (p := ⟨gb371, 0, none⟩) (Kd.V_mono HO_361010.out (fun k_ hk => (⟨hk, hk.2⟩ : _ ∧ k_ ≠ gb371))) (fun _ hk => hk.2) (.int .i64 ((rd_T73 l0_0 x38_2).f0))) (fun _ hk => hk.2) (.bool false)) (fun _ hk => hk.2) (.string ((rd_T73 l0_0 x38_2).f2))) (fun _ hk => hk.2) (.string ((rd_T73 l0_0 x38_2).f3))) (fun _ hk => hk.2) (.int .i64 ((rd_T73 l0_0 x38_2).f4))) (fun _ hk => ⟨hk.1.1.1, ⟨hk.1.1.2.1, ⟨hk.1.1.2.2.1, hk.1.1.2.2.2⟩⟩⟩)⟩, ⟨by (try simp only [hl3_2]); (with_reducible repeat (first|refine zA ?_ _|refine zC ?_|refine zB ?_ _)); refine zT ?_ NB360_371.out _; (with_reducible repeat (first|refine zA ?_ _|refine zC ?_|refine zB ?_ _)); refine zT ?_ NB360_371.out _; (with_reducible repeat (first|refine zA ?_ _|refine zC ?_|refine zB ?_ _)); refine zT ?_ NB360_371.out _; (with_reducible repeat (first|refine zA ?_ _|refine zC ?_|refine zB ?_ _)); refine zT ?_ NB360_371.out _; (with_reducible repeat (first|refine zA ?_ _|refine zC ?_|refine zB ?_ _)); refine zT ?_ NB360_371.out _; (with_reducible repeat (first|refine zA ?_ _|refine zC ?_|refine zB ?_ _)); exact BK360.out⟩, ⟨by repeat (first|(with_reducible first|exact HB.out|apply zI|apply zG|apply zH|refine zJ ?_ GE360.out|refine zJ ?_ GE371.out)|exact HB.out)⟩⟩
                · rw [if_neg c26] at H
                  exact absurd H (by simp)
              · rw [if_neg c25] at H
                exact absurd H (by simp)
            · rw [if_neg c24] at H
              have c24b0 : decide (x38_2 < (l0_0.length : Int)) = false := decide_eq_false c24
              clear c24
              replace H := Option.bind_eq_some_iff.mp H
              obtain ⟨t375, A370, H⟩ := H
              replace H : ((impl_Table_keys.f k2 l0_2 l0_3 a0_4).bind fun t376 => ((slices_Equal_string_string.f k2 t369 t376).bind fun t379 => (if t379 = true then ((slices_Equal_string_string.f k2 t375 t376).bind fun t380 => (impl_NearOk.j2 k2 t376 (!t380) l0_0 a0_1 l0_2 l0_3 a0_4 a0_5 l0_6 a0_7 l0_8 a0_9 l0_10 l0_11 a0_12 a0_13)) else (impl_NearOk.j2 k2 t376 true l0_0 a0_1 l0_2 l0_3 a0_4 a0_5 l0_6 a0_7 l0_8 a0_9 l0_10 l0_11 a0_12 a0_13)))) = some r := H
              have A37 := Aside0.mk A370
              clear A370
              replace H := Option.bind_eq_some_iff.mp H
              obtain ⟨t376, A380, H⟩ := H
              replace H : ((slices_Equal_string_string.f k2 t369 t376).bind fun t379 => (if t379 = true then ((slices_Equal_string_string.f k2 t375 t376).bind fun t380 => (impl_NearOk.j2 k2 t376 (!t380) l0_0 a0_1 l0_2 l0_3 a0_4 a0_5 l0_6 a0_7 l0_8 a0_9 l0_10 l0_11 a0_12 a0_13)) else (impl_NearOk.j2 k2 t376 true l0_0 a0_1 l0_2 l0_3 a0_4 a0_5 l0_6 a0_7 l0_8 a0_9 l0_10 l0_11 a0_12 a0_13))) = some r := H
              have A38 := Aside0.mk A380
              clear A380
              have HC39 := Aside0.mk H
              clear H
              obtain ⟨Ao40, co40, eo40⟩ := Kd.R_slice HO_4.out
              subst eo40
              go_upto_region 14 with (first|((with_reducible refine gate_callee (f := 42) rfl ?_); refine goesL_ (some 51) rfl rfl Try.func42 (by kernel_rfl) rfl #[.slice Ao40 x4_2.length co40] rfl (by (try simp only [List.map_toArray, List.map_cons, List.map_nil]); first|done|rfl|(simp only [List.length_drop, List.length_take]; rfl)) ?_; (with_reducible refine (slices_Sort_string_string.calls (fun k_ => some k_ = (.slice Ao40 x4_2.length co40 : Value).ownBlock) (.slice Ao40 x4_2.length co40) x4_2 t375 w _ ?side1 ?side2 A37.out).mono ?_); (case side1 => repeat (first|(with_reducible first|exact HB.out|apply zI|apply zG|apply zH|refine zJ ?_ GE360.out)|exact HB.out)); (case side2 => exact Kd.R_tight rfl HO_4.out); rintro e w41 ⟨rfl, hy0, hb, hkp⟩; refine ⟨_, rfl, ?_⟩; have n0_ := Aside0.mk (zR (ok' := fun k_ => (w.heap.size ≤ k_) ∧ some k_ ≠ (.slice Ao40 x4_2.length co40 : Value).ownBlock) (Kd.R_keptB (HO_3.out) hkp (fun k_ hk_ hs_ => by first|exact hk_.2 hs_|exact hk_.1 hs_|exact hk_.2 hs_|exact hk_ hs_)) (fun k_ hk_ => ⟨hk_.1.1, hk_.1.2⟩)); have n1_ := Aside0.mk (Kd.R_reok rfl hy0 (fun k_ e_ => HO_4.out.1 k_ e_)); have n2_ := Aside0.mk (Kd.V_mono (ok' := fun k_ => ((P0_6_ k_ ∨ P0_8_ k_ ∨ P0_10_ k_) ∨ w.heap.size ≤ k_) ∧ some k_ ≠ (.slice Ao21 t369.length co21 : Value).ownBlock ∧ some k_ ≠ (.slice Ao40 x4_2.length co40 : Value).ownBlock ∧ k_ ≠ gb360) (Kd.V_keptB (HO_361006.out) hkp (fun k_ hk_ hs_ => by first|exact hk_.2.2.1 hs_|exact hk_.1 hs_|exact hk_.2 hs_|exact hk_ hs_)) (fun k_ hk_ => ⟨hk_.1.1, hk_.1.2.1, hk_.1.2.2.1, hk_.1.2.2.2⟩)); have n3_ := Aside0.mk (Kd.V_mono (ok' := fun k_ => ((P0_6_ k_ ∨ P0_8_ k_ ∨ P0_10_ k_) ∨ w.heap.size ≤ k_) ∧ some k_ ≠ (.slice Ao21 t369.length co21 : Value).ownBlock ∧ some k_ ≠ (.slice Ao40 x4_2.length co40 : Value).ownBlock ∧ k_ ≠ gb360) (Kd.V_keptB (HO_361008.out) hkp (fun k_ hk_ hs_ => by first|exact hk_.2.2.1 hs_|exact hk_.1 hs_|exact hk_.2 hs_|exact hk_ hs_)) (fun k_ hk_ => ⟨hk_.1.1, hk_.1.2.1, hk_.1.2.2.1, hk_.1.2.2.2⟩)); have n4_ := Aside0.mk (Kd.V_mono (ok' := fun k_ => ((P0_6_ k_ ∨ P0_8_ k_ ∨ P0_10_ k_) ∨ w.heap.size ≤ k_) ∧ some k_ ≠ (.slice Ao21 t369.length co21 : Value).ownBlock ∧ some k_ ≠ (.slice Ao40 x4_2.length co40 : Value).ownBlock ∧ k_ ≠ gb360) (Kd.V_keptB (HO_361010.out) hkp (fun k_ hk_ hs_ => by first|exact hk_.2.2.1 hs_|exact hk_.1 hs_|exact hk_.2 hs_|exact hk_ hs_)) (fun k_ hk_ => ⟨hk_.1.1, hk_.1.2.1, hk_.1.2.2.1, hk_.1.2.2.2⟩)); have n5_ := Aside0.mk (blk_kept (by (with_reducible repeat (first|refine zA ?_ _|refine zC ?_|refine zB ?_ _)); exact BK360.out) hkp (fun hs_ => (fun e_ => (Kd.R_ne HO_4.out BK360.out (by decide)) e_) hs_)); have n6_ := Aside0.mk (hb); clear HO_3; clear HO_4; clear HO_361006; clear HO_361008; clear HO_361010; clear BK360; clear HB; have HO_3 := n0_; have HO_4 := n1_; have HO_361006 := n2_; have HO_361008 := n3_; have HO_361010 := n4_; have BK360 := n5_; have HB := n6_; clear n0_ n1_ n2_ n3_ n4_ n5_ n6_; (try clear hb); (try clear hkp); (try clear hy0); obtain ⟨hcz42_0, hcz42_1, hcz42_2, hcz42_3, hcz42_4, hcz42_5, hcz42_6, hcz42_7, hcz42_8, hcz42_9, hcz42_10, hcz42_11, hcz42_12, hcz42_13, hfz42_0, hfz42_1, hfz42_2, hfz42_3, hfz42_4, hfz42_5, hfz42_6, hfz42_7, hfz42_8, hfz42_9, hfz42_10, hfz42_11, hfz42_12, hfz42_13⟩ := zb14 BK360.out)|((with_reducible refine gate_callee (f := 43) rfl ?_); refine goesL_ (some 54) rfl rfl Try.func43 (by kernel_rfl) rfl #[.agg #[.slice A0_2 l0_2.length c0_2, .slice A0_3 l0_3.length c0_3, .int .i64 a0_4]] rfl (by (try simp only [List.map_toArray, List.map_cons, List.map_nil]); first|done|rfl|(simp only [List.length_drop, List.length_take]; rfl)) ?_; (with_reducible refine (impl_Table_keys.calls k2 (fun k_ => k_ < w.heap.size) _ _ l0_2 (fun k_ => k_ < w.heap.size) _ _ l0_3 a0_4 t376 _ ?side1 ?side2 A38.out).mono ?_); (case side1 => exact Kd.V_mk HC0_2.out (Kd.F_below (Kd.C_F k103_heap HR0_2.out) (by repeat (first|(with_reducible first|exact HB.out|apply zI|apply zG|apply zH|refine zJ ?_ GE360.out)|exact HB.out)))); (case side2 => exact Kd.V_mk HC0_3.out (Kd.F_below (Kd.C_F k103_heap HR0_3.out) (by repeat (first|(with_reducible first|exact HB.out|apply zI|apply zG|apply zH|refine zJ ?_ GE360.out)|exact HB.out)))); rintro e w43 ⟨v377, rfl, ho0, hb⟩; refine ⟨_, rfl, ?_⟩; have n0_ := Aside0.mk (Kd.R_elder' (by (with_reducible repeat (first|apply zE|apply zD|apply zF)); exact HO_3.out) (Kd.R_base ho0) hb); have n1_ := Aside0.mk (Kd.R_elder' (by (with_reducible repeat (first|apply zE|apply zD|apply zF)); exact HO_4.out) (Kd.R_base ho0) hb); have n2_ := Aside0.mk (Kd.V_elder' (by (with_reducible repeat (first|apply Kd.V_alloc|apply Kd.V_drewN|apply Kd.V_drew)); exact HO_361006.out) (Kd.R_base ho0) hb); have n3_ := Aside0.mk (Kd.V_elder' (by (with_reducible repeat (first|apply Kd.V_alloc|apply Kd.V_drewN|apply Kd.V_drew)); exact HO_361008.out) (Kd.R_base ho0) hb); have n4_ := Aside0.mk (Kd.V_elder' (by (with_reducible repeat (first|apply Kd.V_alloc|apply Kd.V_drewN|apply Kd.V_drew)); exact HO_361010.out) (Kd.R_base ho0) hb); have n5_ := Aside0.mk (Kd.R_lower (Kd.R_new' (Kd.R_new' (Kd.R_newM (M := fun k_ => (w.heap.size ≤ k_)) (zR (ok' := fun k_ => True) ho0 (fun _ hk_ => trivial)) (below_size (by repeat (first|(with_reducible first|exact HB.out|apply zI|apply zG|apply zH|refine zJ ?_ GE360.out)|exact HB.out))) (fun k_ h_ => h_)) (Kd.R_lt (by (with_reducible repeat (first|apply zE|apply zD|apply zF)); exact HO_3.out))) (Kd.R_lt (by (with_reducible repeat (first|apply zE|apply zD|apply zF)); exact HO_4.out))) (below_size (by repeat (first|(with_reducible first|exact HB.out|apply zI|apply zG|apply zH|refine zJ ?_ GE360.out)|exact HB.out)))); have n6_ := Aside0.mk (zK (g := gb360) (o := .cells #[.slice A0_0 l0_0.length c0_0, .int .i64 a0_1, .slice A0_2 l0_2.length c0_2, .slice A0_3 l0_3.length c0_3, .int .i64 a0_4, .int .i64 a0_5, .slice A0_6 l0_6.length c0_6, .int .i64 a0_7, .slice A0_8 l0_8.length c0_8, .int .i64 a0_9, .slice A0_10 l0_10.length c0_10, .slice A0_11 l0_11.length c0_11, .int .i64 a0_12, .int .i64 a0_13] 37 (0, 0)) (by (with_reducible repeat (first|refine zA ?_ _|refine zC ?_|refine zB ?_ _)); exact BK360.out) hb); have n7_ := Aside0.mk (zN (by repeat (first|(with_reducible first|exact HB.out|apply zI|apply zG|apply zH|refine zJ ?_ GE360.out)|exact HB.out)) hb); clear HO_3; clear HO_4; clear HO_361006; clear HO_361008; clear HO_361010; clear BK360; clear HB; have HO_3 := n0_; have HO_4 := n1_; have HO_361006 := n2_; have HO_361008 := n3_; have HO_361010 := n4_; have HO378 := n5_; have BK360 := n6_; have HB := n7_; clear n0_ n1_ n2_ n3_ n4_ n5_ n6_ n7_; (try clear hb); (try clear hb2); (try clear hk); (try clear hi); (try clear ho0)))
              (try simp only [Act.put, List.setIfInBounds_toArray, List.set_cons_zero, List.set_cons_succ])
              go_cut [64] (fun v64 wc => ∃ (kq : Nat) (x64_38 : Bool), v64 = .bool x64_38 ∧ Aside0 (impl_NearOk.j2 kq t376 x64_38 l0_0 a0_1 l0_2 l0_3 a0_4 a0_5 l0_6 a0_7 l0_8 a0_9 l0_10 l0_11 a0_12 a0_13 = some r) ∧ Aside0 (kq ≤ k2) ∧ Aside0 (Kd.R Kd.string 9 wc w.heap.size (fun k_ => (w.heap.size ≤ k_)) v377 t376) ∧ Aside0 (Kd.V Kd.string 9 wc w.heap.size (fun k_ => ((P0_6_ k_ ∨ P0_8_ k_ ∨ P0_10_ k_) ∨ w.heap.size ≤ k_) ∧ some k_ ≠ (v377 : Value).ownBlock ∧ k_ ≠ gb360) (.slice A0_6 l0_6.length c0_6) l0_6) ∧ Aside0 (Kd.V Kd.string 9 wc w.heap.size (fun k_ => ((P0_6_ k_ ∨ P0_8_ k_ ∨ P0_10_ k_) ∨ w.heap.size ≤ k_) ∧ some k_ ≠ (v377 : Value).ownBlock ∧ k_ ≠ gb360) (.slice A0_8 l0_8.length c0_8) l0_8) ∧ Aside0 (Kd.V Kd.string 9 wc w.heap.size (fun k_ => ((P0_6_ k_ ∨ P0_8_ k_ ∨ P0_10_ k_) ∨ w.heap.size ≤ k_) ∧ some k_ ≠ (v377 : Value).ownBlock ∧ k_ ≠ gb360) (.slice A0_10 l0_10.length c0_10) l0_10) ∧ Aside0 (wc.heap[gb360]? = some (.cells #[(.slice A0_0 l0_0.length c0_0), .int .i64 a0_1, (.slice A0_2 l0_2.length c0_2), (.slice A0_3 l0_3.length c0_3), .int .i64 a0_4, .int .i64 a0_5, (.slice A0_6 l0_6.length c0_6), .int .i64 a0_7, (.slice A0_8 l0_8.length c0_8), .int .i64 a0_9, (.slice A0_10 l0_10.length c0_10), (.slice A0_11 l0_11.length c0_11), .int .i64 a0_12, .int .i64 a0_13] 37 (0, 0))) ∧ Aside0 (Below w.heap.size w wc))
              case first =>
                have H := HC39.out
                clear HC39
                replace H := Option.bind_eq_some_iff.mp H
                obtain ⟨t379, A440, H⟩ := H
                replace H : (if t379 = true then ((slices_Equal_string_string.f k2 t375 t376).bind fun t380 => (impl_NearOk.j2 k2 t376 (!t380) l0_0 a0_1 l0_2 l0_3 a0_4 a0_5 l0_6 a0_7 l0_8 a0_9 l0_10 l0_11 a0_12 a0_13)) else (impl_NearOk.j2 k2 t376 true l0_0 a0_1 l0_2 l0_3 a0_4 a0_5 l0_6 a0_7 l0_8 a0_9 l0_10 l0_11 a0_12 a0_13)) = some r := H
                have A44 := Aside0.mk A440
                clear A440
                by_cases c45 : t379 = true
                · subst c45
                  have H1 : ((slices_Equal_string_string.f k2 t375 t376).bind fun t380 => (impl_NearOk.j2 k2 t376 (!t380) l0_0 a0_1 l0_2 l0_3 a0_4 a0_5 l0_6 a0_7 l0_8 a0_9 l0_10 l0_11 a0_12 a0_13)) = some r := by rw [if_pos rfl] at H; exact H
                  clear H
                  have H := H1
                  clear H1
                  replace H := Option.bind_eq_some_iff.mp H
                  obtain ⟨t380, A460, H⟩ := H
                  replace H : (impl_NearOk.j2 k2 t376 (!t380) l0_0 a0_1 l0_2 l0_3 a0_4 a0_5 l0_6 a0_7 l0_8 a0_9 l0_10 l0_11 a0_12 a0_13) = some r := H
                  have A46 := Aside0.mk A460
                  clear A460
                  have H' := Aside0.mk H
                  clear H
                  obtain ⟨Ao47, co47, eo47⟩ := Kd.R_slice HO378.out
                  subst eo47
                  go_wp2_with (first|((with_reducible refine gate_callee (f := 44) rfl ?_); refine goesL_ (some 57) rfl rfl Try.func44 (by kernel_rfl) rfl #[.slice Ao21 t369.length co21, .slice Ao47 t376.length co47] rfl (by (try simp only [List.map_toArray, List.map_cons, List.map_nil]); first|done|rfl|(simp only [List.length_drop, List.length_take]; rfl)) ?_; (with_reducible refine (slices_Equal_string_string.calls k2 _ _ t369 _ _ t376 true _ ?side1 ?side2 ?side3 ?side4 A44.out).mono ?_); (case side1 => repeat (first|exact (Kd.R_reads' HO_3.out).2.2|(with_reducible refine Kd.C_alloc ?_ _)|(with_reducible refine Kd.C_drewN ?_ _)|(with_reducible refine Kd.C_drew ?_))); (case side2 => exact (Kd.R_reads' HO_3.out).2.1); (case side3 => repeat (first|exact (Kd.R_reads' HO378.out).2.2|(with_reducible refine Kd.C_alloc ?_ _)|(with_reducible refine Kd.C_drewN ?_ _)|(with_reducible refine Kd.C_drew ?_))); (case side4 => exact (Kd.R_reads' HO378.out).2.1); rintro e w' ⟨rfl, ⟨nd, rfl⟩⟩; refine ⟨_, rfl, ?_⟩)|(go_at_call 44; refine calls_of_args (args' := #[.slice Ao40 t375.length co40, .slice Ao47 t376.length co47]) (by first|(rw [show t375.length = x4_2.length from (Kd.R_reads' HO_4.out).1.symm] <;> rfl)|rfl) ?_; (with_reducible refine (slices_Equal_string_string.calls k2 _ _ t375 _ _ t376 t380 _ ?side1 ?side2 ?side3 ?side4 A46.out).mono ?_); (case side1 => repeat (first|exact (Kd.R_reads' HO_4.out).2.2|(with_reducible refine Kd.C_alloc ?_ _)|(with_reducible refine Kd.C_drewN ?_ _)|(with_reducible refine Kd.C_drew ?_))); (case side2 => rw [show t375.length = x4_2.length from (Kd.R_reads' HO_4.out).1.symm]; exact (Kd.R_reads' HO_4.out).2.1); (case side3 => repeat (first|exact (Kd.R_reads' HO378.out).2.2|(with_reducible refine Kd.C_alloc ?_ _)|(with_reducible refine Kd.C_drewN ?_ _)|(with_reducible refine Kd.C_drew ?_))); (case side4 => exact (Kd.R_reads' HO378.out).2.1); rintro e w' ⟨rfl, ⟨nd, rfl⟩⟩))
                  go_meet
                  case rel => exact ⟨_, (!t380), (by first|rfl|(simp; done)|(simp [*]; done)), H', ⟨by have := HJ1.out; have := HK2.out; first|omega|exact Nat.le_refl _⟩, ⟨by (try simp only [hl3_2]); (with_reducible repeat (first|apply zE|apply zD|apply zF)); exact zR HO378.out (fun _ hk => hk.1.1.1)⟩, ⟨by (try simp only [hl3_2]); (with_reducible repeat (first|apply Kd.V_alloc|apply Kd.V_drewN|apply Kd.V_drew)); exact Kd.V_mono HO_361006.out (fun _ hk => ⟨hk.1.1, ⟨hk.2, hk.1.2.2.2⟩⟩)⟩, ⟨by (try simp only [hl3_2]); (with_reducible repeat (first|apply Kd.V_alloc|apply Kd.V_drewN|apply Kd.V_drew)); exact Kd.V_mono HO_361008.out (fun _ hk => ⟨hk.1.1, ⟨hk.2, hk.1.2.2.2⟩⟩)⟩, ⟨by (try simp only [hl3_2]); (with_reducible repeat (first|apply Kd.V_alloc|apply Kd.V_drewN|apply Kd.V_drew)); exact Kd.V_mono HO_361010.out (fun _ hk => ⟨hk.1.1, ⟨hk.2, hk.1.2.2.2⟩⟩)⟩, ⟨by (try simp only [hl3_2]); (with_reducible repeat (first|refine zA ?_ _|refine zC ?_|refine zB ?_ _)); exact BK360.out⟩, ⟨by repeat (first|(with_reducible first|exact HB.out|apply zI|apply zG|apply zH|refine zJ ?_ GE360.out)|exact HB.out)⟩⟩
                · replace c45 := Bool.eq_false_iff.mpr c45
                  subst c45
                  have H1 : (impl_NearOk.j2 k2 t376 true l0_0 a0_1 l0_2 l0_3 a0_4 a0_5 l0_6 a0_7 l0_8 a0_9 l0_10 l0_11 a0_12 a0_13) = some r := by rw [if_neg (show ¬ (false = true) by decide)] at H; exact H
                  clear H
                  have H := H1
                  clear H1
                  have H' := Aside0.mk H
                  clear H
                  obtain ⟨Ao48, co48, eo48⟩ := Kd.R_slice HO378.out
                  subst eo48
                  go_wp2_with (first|((with_reducible refine gate_callee (f := 44) rfl ?_); refine goesL_ (some 57) rfl rfl Try.func44 (by kernel_rfl) rfl #[.slice Ao21 t369.length co21, .slice Ao48 t376.length co48] rfl (by (try simp only [List.map_toArray, List.map_cons, List.map_nil]); first|done|rfl|(simp only [List.length_drop, List.length_take]; rfl)) ?_; (with_reducible refine (slices_Equal_string_string.calls k2 _ _ t369 _ _ t376 false _ ?side1 ?side2 ?side3 ?side4 A44.out).mono ?_); (case side1 => repeat (first|exact (Kd.R_reads' HO_3.out).2.2|(with_reducible refine Kd.C_alloc ?_ _)|(with_reducible refine Kd.C_drewN ?_ _)|(with_reducible refine Kd.C_drew ?_))); (case side2 => exact (Kd.R_reads' HO_3.out).2.1); (case side3 => repeat (first|exact (Kd.R_reads' HO378.out).2.2|(with_reducible refine Kd.C_alloc ?_ _)|(with_reducible refine Kd.C_drewN ?_ _)|(with_reducible refine Kd.C_drew ?_))); (case side4 => exact (Kd.R_reads' HO378.out).2.1); rintro e w' ⟨rfl, ⟨nd, rfl⟩⟩; refine ⟨_, rfl, ?_⟩))
                  go_meet
                  case rel => exact ⟨_, (true), (by first|rfl|(simp; done)|(simp [*]; done)), H', ⟨by have := HJ1.out; have := HK2.out; first|omega|exact Nat.le_refl _⟩, ⟨by (try simp only [hl3_2]); (with_reducible repeat (first|apply zE|apply zD|apply zF)); exact zR HO378.out (fun _ hk => hk.1.1.1)⟩, ⟨by (try simp only [hl3_2]); (with_reducible repeat (first|apply Kd.V_alloc|apply Kd.V_drewN|apply Kd.V_drew)); exact Kd.V_mono HO_361006.out (fun _ hk => ⟨hk.1.1, ⟨hk.2, hk.1.2.2.2⟩⟩)⟩, ⟨by (try simp only [hl3_2]); (with_reducible repeat (first|apply Kd.V_alloc|apply Kd.V_drewN|apply Kd.V_drew)); exact Kd.V_mono HO_361008.out (fun _ hk => ⟨hk.1.1, ⟨hk.2, hk.1.2.2.2⟩⟩)⟩, ⟨by (try simp only [hl3_2]); (with_reducible repeat (first|apply Kd.V_alloc|apply Kd.V_drewN|apply Kd.V_drew)); exact Kd.V_mono HO_361010.out (fun _ hk => ⟨hk.1.1, ⟨hk.2, hk.1.2.2.2⟩⟩)⟩, ⟨by (try simp only [hl3_2]); (with_reducible repeat (first|refine zA ?_ _|refine zC ?_|refine zB ?_ _)); exact BK360.out⟩, ⟨by repeat (first|(with_reducible first|exact HB.out|apply zI|apply zG|apply zH|refine zJ ?_ GE360.out)|exact HB.out)⟩⟩
              case rest =>
                clear HC39
                try clear c1
                try clear c2
                try clear p2
                try clear q2
                try clear c3
                try clear p3
                try clear q3
                try clear hx3
                try clear c4
                try clear c5
                try clear p6
                try clear c12
                try clear c13
                try clear c24
                try clear c24b0
                try clear c25
                try clear c25b0
                try clear c26
                try clear c26b0
                try clear q27
                try clear c28
                try clear c29
                try clear c31
                try clear c35
                try clear p37
                try clear q37
                try clear hx37
                try clear c39
                try clear c41
                try clear c42
                try clear c43
                try clear c44
                try clear c45
                try clear hcz11_0
                try clear hcz11_1
                try clear hcz11_10
                try clear hcz11_11
                try clear hcz11_12
                try clear hcz11_13
                try clear hcz11_2
                try clear hcz11_3
                try clear hcz11_4
                try clear hcz11_5
                try clear hcz11_6
                try clear hcz11_7
                try clear hcz11_8
                try clear hcz11_9
                try clear hcz16_0
                try clear hcz16_1
                try clear hcz16_10
                try clear hcz16_11
                try clear hcz16_12
                try clear hcz16_13
                try clear hcz16_2
                try clear hcz16_3
                try clear hcz16_4
                try clear hcz16_5
                try clear hcz16_6
                try clear hcz16_7
                try clear hcz16_8
                try clear hcz16_9
                try clear hcz23_0
                try clear hcz23_1
                try clear hcz23_10
                try clear hcz23_11
                try clear hcz23_12
                try clear hcz23_13
                try clear hcz23_2
                try clear hcz23_3
                try clear hcz23_4
                try clear hcz23_5
                try clear hcz23_6
                try clear hcz23_7
                try clear hcz23_8
                try clear hcz23_9
                try clear hcz32_0
                try clear hcz32_1
                try clear hcz32_2
                try clear hcz32_3
                try clear hcz32_4
                try clear hcz36_0
                try clear hcz36_1
                try clear hcz36_2
                try clear hcz36_3
                try clear hcz36_4
                try clear hcz42_0
                try clear hcz42_1
                try clear hcz42_10
                try clear hcz42_11
                try clear hcz42_12
                try clear hcz42_13
                try clear hcz42_2
                try clear hcz42_3
                try clear hcz42_4
                try clear hcz42_5
                try clear hcz42_6
                try clear hcz42_7
                try clear hcz42_8
                try clear hcz42_9
                try clear hcz7_0
                try clear hcz7_1
                try clear hcz7_10
                try clear hcz7_11
                try clear hcz7_12
                try clear hcz7_13
                try clear hcz7_2
                try clear hcz7_3
                try clear hcz7_4
                try clear hcz7_5
                try clear hcz7_6
                try clear hcz7_7
                try clear hcz7_8
                try clear hcz7_9
                try clear hcz9_0
                try clear hcz9_1
                try clear hcz9_10
                try clear hcz9_11
                try clear hcz9_12
                try clear hcz9_13
                try clear hcz9_2
                try clear hcz9_3
                try clear hcz9_4
                try clear hcz9_5
                try clear hcz9_6
                try clear hcz9_7
                try clear hcz9_8
                try clear hcz9_9
                try clear hfz11_0
                try clear hfz11_1
                try clear hfz11_10
                try clear hfz11_11
                try clear hfz11_12
                try clear hfz11_13
                try clear hfz11_2
                try clear hfz11_3
                try clear hfz11_4
                try clear hfz11_5
                try clear hfz11_6
                try clear hfz11_7
                try clear hfz11_8
                try clear hfz11_9
                try clear hfz16_0
                try clear hfz16_1
                try clear hfz16_10
                try clear hfz16_11
                try clear hfz16_12
                try clear hfz16_13
                try clear hfz16_2
                try clear hfz16_3
                try clear hfz16_4
                try clear hfz16_5
                try clear hfz16_6
                try clear hfz16_7
                try clear hfz16_8
                try clear hfz16_9
                try clear hfz23_0
                try clear hfz23_1
                try clear hfz23_10
                try clear hfz23_11
                try clear hfz23_12
                try clear hfz23_13
                try clear hfz23_2
                try clear hfz23_3
                try clear hfz23_4
                try clear hfz23_5
                try clear hfz23_6
                try clear hfz23_7
                try clear hfz23_8
                try clear hfz23_9
                try clear hfz32_0
                try clear hfz32_1
                try clear hfz32_2
                try clear hfz32_3
                try clear hfz32_4
                try clear hfz36_0
                try clear hfz36_1
                try clear hfz36_2
                try clear hfz36_3
                try clear hfz36_4
                try clear hfz42_0
                try clear hfz42_1
                try clear hfz42_10
                try clear hfz42_11
                try clear hfz42_12
                try clear hfz42_13
                try clear hfz42_2
                try clear hfz42_3
                try clear hfz42_4
                try clear hfz42_5
                try clear hfz42_6
                try clear hfz42_7
                try clear hfz42_8
                try clear hfz42_9
                try clear hfz7_0
                try clear hfz7_1
                try clear hfz7_10
                try clear hfz7_11
                try clear hfz7_12
                try clear hfz7_13
                try clear hfz7_2
                try clear hfz7_3
                try clear hfz7_4
                try clear hfz7_5
                try clear hfz7_6
                try clear hfz7_7
                try clear hfz7_8
                try clear hfz7_9
                try clear hfz9_0
                try clear hfz9_1
                try clear hfz9_10
                try clear hfz9_11
                try clear hfz9_12
                try clear hfz9_13
                try clear hfz9_2
                try clear hfz9_3
                try clear hfz9_4
                try clear hfz9_5
                try clear hfz9_6
                try clear hfz9_7
                try clear hfz9_8
                try clear hfz9_9
                try clear hx370_0
                try clear hx370_1
                try clear hx370_2
                try clear hx370_3
                try clear hx370_4
                try clear p2
                try clear p370
                try clear q370
                obtain ⟨kq, x64_38, rfl, HA, HJ38, HO_7, HO_361006, HO_361008, HO_361010, BK360, HB⟩ := hcut
                cases kq with
               |zero => exact absurd HA.out (by simp [impl_NearOk.j2])
               |succ kj38 =>
                  have H := HA.out
                  clear HA
                  simp only [impl_NearOk.j2] at H
                  by_cases c49 : x64_38 = true
                  · subst c49
                    have H1 : (some false) = some r := by rw [if_pos rfl] at H; exact H
                    clear H
                    have H := H1
                    clear H1
                    obtain rfl := Option.some.inj H
                    go_wp2
                    go_ret
                    exact ⟨by first|rfl|(simp [errW_none, errW_some] <;> rfl)|(simp [*, errW_none, errW_some] <;> rfl), by repeat (first|(with_reducible first|exact HB.out|apply zI|apply zG|apply zH|refine zJ ?_ GE360.out)|exact HB.out)⟩
                  · replace c49 := Bool.eq_false_iff.mpr c49
                    subst c49
                    have H1 : (impl_NearOk.l1 kj38 t376 (t376.length : Int) 0 l0_0 a0_1 l0_2 l0_3 a0_4 a0_5 l0_6 a0_7 l0_8 a0_9 l0_10 l0_11 a0_12 a0_13) = some r := by rw [if_neg (show ¬ (false = true) by decide)] at H; exact H
                    clear H
                    have H := H1
                    clear H1
                    have H' := Aside0.mk H
                    clear H
                    obtain ⟨Ao50, co50, eo50⟩ := Kd.R_slice HO_7.out
                    subst eo50
                    go_wp2
                    go_loopg [67] kj38 (fun kq v67 w' => ∃ (x67_4 : Int), v67 = .int .i64 x67_4 ∧ Aside0 (impl_NearOk.l1 kq t376 (t376.length : Int) x67_4 l0_0 a0_1 l0_2 l0_3 a0_4 a0_5 l0_6 a0_7 l0_8 a0_9 l0_10 l0_11 a0_12 a0_13 = some r) ∧ Aside0 (kq ≤ kj38) ∧ Aside0 (Kd.R Kd.string 9 w' w.heap.size (fun k_ => (w.heap.size ≤ k_)) (.slice Ao50 t376.length co50) t376) ∧ Aside0 (Kd.V Kd.string 9 w' w.heap.size (fun k_ => ((P0_6_ k_ ∨ P0_8_ k_ ∨ P0_10_ k_) ∨ w.heap.size ≤ k_) ∧ some k_ ≠ ((.slice Ao50 t376.length co50) : Value).ownBlock ∧ k_ ≠ gb360) (.slice A0_6 l0_6.length c0_6) l0_6) ∧ Aside0 (Kd.V Kd.string 9 w' w.heap.size (fun k_ => ((P0_6_ k_ ∨ P0_8_ k_ ∨ P0_10_ k_) ∨ w.heap.size ≤ k_) ∧ some k_ ≠ ((.slice Ao50 t376.length co50) : Value).ownBlock ∧ k_ ≠ gb360) (.slice A0_8 l0_8.length c0_8) l0_8) ∧ Aside0 (Kd.V Kd.string 9 w' w.heap.size (fun k_ => ((P0_6_ k_ ∨ P0_8_ k_ ∨ P0_10_ k_) ∨ w.heap.size ≤ k_) ∧ some k_ ≠ ((.slice Ao50 t376.length co50) : Value).ownBlock ∧ k_ ≠ gb360) (.slice A0_10 l0_10.length c0_10) l0_10) ∧ Aside0 (w'.heap[gb360]? = some (.cells #[(.slice A0_0 l0_0.length c0_0), .int .i64 a0_1, (.slice A0_2 l0_2.length c0_2), (.slice A0_3 l0_3.length c0_3), .int .i64 a0_4, .int .i64 a0_5, (.slice A0_6 l0_6.length c0_6), .int .i64 a0_7, (.slice A0_8 l0_8.length c0_8), .int .i64 a0_9, (.slice A0_10 l0_10.length c0_10), (.slice A0_11 l0_11.length c0_11), .int .i64 a0_12, .int .i64 a0_13] 37 (0, 0))) ∧ Aside0 (Below w.heap.size w w'))
                    case atStart => exact ⟨(0), (by first|rfl|(simp; done)|(simp [*]; done)), H', ⟨Nat.le_refl _⟩, ⟨by (try simp only [hl3_2]); (with_reducible repeat (first|apply zE|apply zD|apply zF)); exact HO_7.out⟩, ⟨by (try simp only [hl3_2]); (with_reducible repeat (first|apply Kd.V_alloc|apply Kd.V_drewN|apply Kd.V_drew)); exact HO_361006.out⟩, ⟨by (try simp only [hl3_2]); (with_reducible repeat (first|apply Kd.V_alloc|apply Kd.V_drewN|apply Kd.V_drew)); exact HO_361008.out⟩, ⟨by (try simp only [hl3_2]); (with_reducible repeat (first|apply Kd.V_alloc|apply Kd.V_drewN|apply Kd.V_drew)); exact HO_361010.out⟩, ⟨by (try simp only [hl3_2]); (with_reducible repeat (first|refine zA ?_ _|refine zC ?_|refine zB ?_ _)); exact BK360.out⟩, ⟨by repeat (first|(with_reducible first|exact HB.out|apply zI|apply zG|apply zH|refine zJ ?_ GE360.out)|exact HB.out)⟩⟩
                    case round =>
                      clear H'
                      try clear c1
                      try clear c2
                      try clear p2
                      try clear q2
                      try clear c3
                      try clear p3
                      try clear q3
                      try clear hx3
                      try clear c4
                      try clear c5
                      try clear p6
                      try clear c12
                      try clear c13
                      try clear c24
                      try clear c24b0
                      try clear c25
                      try clear c25b0
                      try clear c26
                      try clear c26b0
                      try clear q27
                      try clear c28
                      try clear c29
                      try clear c31
                      try clear c35
                      try clear p37
                      try clear q37
                      try clear hx37
                      try clear c39
                      try clear c41
                      try clear c42
                      try clear c43
                      try clear c44
                      try clear c45
                      try clear c49
                      try clear hcz11_0
                      try clear hcz11_1
                      try clear hcz11_10
                      try clear hcz11_11
                      try clear hcz11_12
                      try clear hcz11_13
                      try clear hcz11_2
                      try clear hcz11_3
                      try clear hcz11_4
                      try clear hcz11_5
                      try clear hcz11_6
                      try clear hcz11_7
                      try clear hcz11_8
                      try clear hcz11_9
                      try clear hcz16_0
                      try clear hcz16_1
                      try clear hcz16_10
                      try clear hcz16_11
                      try clear hcz16_12
                      try clear hcz16_13
                      try clear hcz16_2
                      try clear hcz16_3
                      try clear hcz16_4
                      try clear hcz16_5
                      try clear hcz16_6
                      try clear hcz16_7
                      try clear hcz16_8
                      try clear hcz16_9
                      try clear hcz23_0
                      try clear hcz23_1
                      try clear hcz23_10
                      try clear hcz23_11
                      try clear hcz23_12
                      try clear hcz23_13
                      try clear hcz23_2
                      try clear hcz23_3
                      try clear hcz23_4
                      try clear hcz23_5
                      try clear hcz23_6
                      try clear hcz23_7
                      try clear hcz23_8
                      try clear hcz23_9
                      try clear hcz32_0
                      try clear hcz32_1
                      try clear hcz32_2
                      try clear hcz32_3
                      try clear hcz32_4
                      try clear hcz36_0
                      try clear hcz36_1
                      try clear hcz36_2
                      try clear hcz36_3
                      try clear hcz36_4
                      try clear hcz42_0
                      try clear hcz42_1
                      try clear hcz42_10
                      try clear hcz42_11
                      try clear hcz42_12
                      try clear hcz42_13
                      try clear hcz42_2
                      try clear hcz42_3
                      try clear hcz42_4
                      try clear hcz42_5
                      try clear hcz42_6
                      try clear hcz42_7
                      try clear hcz42_8
                      try clear hcz42_9
                      try clear hcz7_0
                      try clear hcz7_1
                      try clear hcz7_10
                      try clear hcz7_11
                      try clear hcz7_12
                      try clear hcz7_13
                      try clear hcz7_2
                      try clear hcz7_3
                      try clear hcz7_4
                      try clear hcz7_5
                      try clear hcz7_6
                      try clear hcz7_7
                      try clear hcz7_8
                      try clear hcz7_9
                      try clear hcz9_0
                      try clear hcz9_1
                      try clear hcz9_10
                      try clear hcz9_11
                      try clear hcz9_12
                      try clear hcz9_13
                      try clear hcz9_2
                      try clear hcz9_3
                      try clear hcz9_4
                      try clear hcz9_5
                      try clear hcz9_6
                      try clear hcz9_7
                      try clear hcz9_8
                      try clear hcz9_9
                      try clear hfz11_0
                      try clear hfz11_1
                      try clear hfz11_10
                      try clear hfz11_11
                      try clear hfz11_12
                      try clear hfz11_13
                      try clear hfz11_2
                      try clear hfz11_3
                      try clear hfz11_4
                      try clear hfz11_5
                      try clear hfz11_6
                      try clear hfz11_7
                      try clear hfz11_8
                      try clear hfz11_9
                      try clear hfz16_0
                      try clear hfz16_1
                      try clear hfz16_10
                      try clear hfz16_11
                      try clear hfz16_12
                      try clear hfz16_13
                      try clear hfz16_2
                      try clear hfz16_3
                      try clear hfz16_4
                      try clear hfz16_5
                      try clear hfz16_6
                      try clear hfz16_7
                      try clear hfz16_8
                      try clear hfz16_9
                      try clear hfz23_0
                      try clear hfz23_1
                      try clear hfz23_10
                      try clear hfz23_11
                      try clear hfz23_12
                      try clear hfz23_13
                      try clear hfz23_2
                      try clear hfz23_3
                      try clear hfz23_4
                      try clear hfz23_5
                      try clear hfz23_6
                      try clear hfz23_7
                      try clear hfz23_8
                      try clear hfz23_9
                      try clear hfz32_0
                      try clear hfz32_1
                      try clear hfz32_2
                      try clear hfz32_3
                      try clear hfz32_4
                      try clear hfz36_0
                      try clear hfz36_1
                      try clear hfz36_2
                      try clear hfz36_3
                      try clear hfz36_4
                      try clear hfz42_0
                      try clear hfz42_1
                      try clear hfz42_10
                      try clear hfz42_11
                      try clear hfz42_12
                      try clear hfz42_13
                      try clear hfz42_2
                      try clear hfz42_3
                      try clear hfz42_4
                      try clear hfz42_5
                      try clear hfz42_6
                      try clear hfz42_7
                      try clear hfz42_8
                      try clear hfz42_9
                      try clear hfz7_0
                      try clear hfz7_1
                      try clear hfz7_10
                      try clear hfz7_11
                      try clear hfz7_12
                      try clear hfz7_13
                      try clear hfz7_2
                      try clear hfz7_3
                      try clear hfz7_4
                      try clear hfz7_5
                      try clear hfz7_6
                      try clear hfz7_7
                      try clear hfz7_8
                      try clear hfz7_9
                      try clear hfz9_0
                      try clear hfz9_1
                      try clear hfz9_10
                      try clear hfz9_11
                      try clear hfz9_12
                      try clear hfz9_13
                      try clear hfz9_2
                      try clear hfz9_3
                      try clear hfz9_4
                      try clear hfz9_5
                      try clear hfz9_6
                      try clear hfz9_7
                      try clear hfz9_8
                      try clear hfz9_9
                      try clear hx370_0
                      try clear hx370_1
                      try clear hx370_2
                      try clear hx370_3
                      try clear hx370_4
                      try clear p2
                      try clear p3
                      try clear p37
                      try clear p370
                      try clear p6
                      try clear q2
                      try clear q27
                      try clear q3
                      try clear q37
                      try clear q370
                      obtain ⟨x67_4, rfl, HA, HK4, HO_65, HO_361006, HO_361008, HO_361010, BK360, HB⟩ := hrel
                      cases gk with
                     |zero => exact absurd HA.out (by simp [impl_NearOk.l1])
                     |succ k4 =>
                        have H := HA.out
                        clear HA
                        simp only [impl_NearOk.l1] at H
                        by_cases c51 : x67_4 < (t376.length : Int)
                        · rw [if_pos c51] at H
                          have c51b0 : decide (x67_4 < (t376.length : Int)) = true := decide_eq_true c51
                          clear c51
                          by_cases c52 : 0 ≤ x67_4
                          · rw [if_pos c52] at H
                            have c52b0 : decide (0 ≤ x67_4) = true := decide_eq_true c52
                            clear c52
                            by_cases c53 : x67_4 < (t376.length : Int)
                            · rw [if_pos c53] at H
                              have c53b0 : decide (x67_4 < (t376.length : Int)) = true := decide_eq_true c53
                              clear c53
                              replace H := Option.bind_eq_some_iff.mp H
                              obtain ⟨⟨t382, t383⟩, A540, H⟩ := H
                              replace H : ((impl_Arena_place.f l0_0 a0_1 t382).bind fun t384 => (if t384 < 0 then (some false) else (if 0 ≤ t384 then (if t384 < (l0_0.length : Int) then (if ((rd_T73 l0_0 t384).f2).toList = (rdOf ByteArray.empty t376 x67_4).toList then (impl_NearOk.l1 k4 t376 (t376.length : Int) (wrap64 (x67_4 + 1)) l0_0 a0_1 l0_2 l0_3 a0_4 a0_5 l0_6 a0_7 l0_8 a0_9 l0_10 l0_11 a0_12 a0_13) else (some false)) else (none)) else (none)))) = some r := H
                              have A54 := Aside0.mk A540
                              clear A540
                              replace H := Option.bind_eq_some_iff.mp H
                              obtain ⟨t384, A550, H⟩ := H
                              replace H : (if t384 < 0 then (some false) else (if 0 ≤ t384 then (if t384 < (l0_0.length : Int) then (if ((rd_T73 l0_0 t384).f2).toList = (rdOf ByteArray.empty t376 x67_4).toList then (impl_NearOk.l1 k4 t376 (t376.length : Int) (wrap64 (x67_4 + 1)) l0_0 a0_1 l0_2 l0_3 a0_4 a0_5 l0_6 a0_7 l0_8 a0_9 l0_10 l0_11 a0_12 a0_13) else (some false)) else (none)) else (none))) = some r := H
                              have A55 := Aside0.mk A550
                              clear A550
                              by_cases c56 : t384 < 0
                              · rw [if_pos c56] at H
                                have c56b0 : decide (t384 < 0) = true := decide_eq_true c56
                                clear c56
                                obtain rfl := Option.some.inj H
                                have p381 : 0 ≤ (x67_4 : Int) := of_decide_eq_true (by first|(with_reducible assumption)|assumption)
                                have q381 : x67_4 < (t376.length : Int) := of_decide_eq_true (by first|(with_reducible assumption)|assumption)
                                obtain ⟨ad381, e381, hx381_0⟩ := Kd.at_string (Kd.R_reads' HO_65.out).2.2 x67_4 p381 q381
                                cases e381
                                replace p381 := eq_true p381
                                replace q381 := eq_true q381
                                obtain ⟨hcz57_0, hcz57_1, hcz57_2, hcz57_3, hcz57_4, hcz57_5, hcz57_6, hcz57_7, hcz57_8, hcz57_9, hcz57_10, hcz57_11, hcz57_12, hcz57_13, hfz57_0, hfz57_1, hfz57_2, hfz57_3, hfz57_4, hfz57_5, hfz57_6, hfz57_7, hfz57_8, hfz57_9, hfz57_10, hfz57_11, hfz57_12, hfz57_13⟩ := zb14 BK360.out
                                go_wp2_with (first|((with_reducible refine gate_callee (f := 45) rfl ?_); refine goesL_ (some 75) rfl rfl Try.func45 (by kernel_rfl) rfl #[.agg #[.slice A0_2 l0_2.length c0_2, .slice A0_3 l0_3.length c0_3, .int .i64 a0_4], .string (rdOf ByteArray.empty t376 x67_4)] rfl (by (try simp only [List.map_toArray, List.map_cons, List.map_nil]); first|done|rfl|(simp only [List.length_drop, List.length_take]; rfl)) ?_; (with_reducible refine (impl_Table_find.calls k4 _ _ l0_2 _ _ l0_3 a0_4 (rdOf ByteArray.empty t376 x67_4) t382 t383 _ ?side1 ?side2 ?side3 ?side4 A54.out).mono ?_); (case side1 => repeat (first|exact (Kd.C_below HR0_2.out HB.out)|(with_reducible refine Kd.C_alloc ?_ _)|(with_reducible refine Kd.C_drewN ?_ _)|(with_reducible refine Kd.C_drew ?_))); (case side2 => exact HC0_2.out); (case side3 => repeat (first|exact (Kd.C_below HR0_3.out HB.out)|(with_reducible refine Kd.C_alloc ?_ _)|(with_reducible refine Kd.C_drewN ?_ _)|(with_reducible refine Kd.C_drew ?_))); (case side4 => exact HC0_3.out); rintro e w58 ⟨rfl, hb⟩; refine ⟨_, rfl, ?_⟩; have n0_ := Aside0.mk (zM (by (with_reducible repeat (first|apply zE|apply zD|apply zF)); exact HO_65.out) hb); have n1_ := Aside0.mk (Kd.V_below (by (with_reducible repeat (first|apply Kd.V_alloc|apply Kd.V_drewN|apply Kd.V_drew)); exact HO_361006.out) hb); have n2_ := Aside0.mk (Kd.V_below (by (with_reducible repeat (first|apply Kd.V_alloc|apply Kd.V_drewN|apply Kd.V_drew)); exact HO_361008.out) hb); have n3_ := Aside0.mk (Kd.V_below (by (with_reducible repeat (first|apply Kd.V_alloc|apply Kd.V_drewN|apply Kd.V_drew)); exact HO_361010.out) hb); have n4_ := Aside0.mk (zK (g := gb360) (o := .cells #[.slice A0_0 l0_0.length c0_0, .int .i64 a0_1, .slice A0_2 l0_2.length c0_2, .slice A0_3 l0_3.length c0_3, .int .i64 a0_4, .int .i64 a0_5, .slice A0_6 l0_6.length c0_6, .int .i64 a0_7, .slice A0_8 l0_8.length c0_8, .int .i64 a0_9, .slice A0_10 l0_10.length c0_10, .slice A0_11 l0_11.length c0_11, .int .i64 a0_12, .int .i64 a0_13] 37 (0, 0)) (by (with_reducible repeat (first|refine zA ?_ _|refine zC ?_|refine zB ?_ _)); exact BK360.out) hb); have n5_ := Aside0.mk (zN (by repeat (first|(with_reducible first|exact HB.out|apply zI|apply zG|apply zH|refine zJ ?_ GE360.out)|exact HB.out)) hb); clear HO_65; clear HO_361006; clear HO_361008; clear HO_361010; clear BK360; clear HB; have HO_65 := n0_; have HO_361006 := n1_; have HO_361008 := n2_; have HO_361010 := n3_; have BK360 := n4_; have HB := n5_; clear n0_ n1_ n2_ n3_ n4_ n5_; (try clear hb); (try clear hb2); (try clear hk); (try clear hi); obtain ⟨hcz59_0, hcz59_1, hcz59_2, hcz59_3, hcz59_4, hcz59_5, hcz59_6, hcz59_7, hcz59_8, hcz59_9, hcz59_10, hcz59_11, hcz59_12, hcz59_13, hfz59_0, hfz59_1, hfz59_2, hfz59_3, hfz59_4, hfz59_5, hfz59_6, hfz59_7, hfz59_8, hfz59_9, hfz59_10, hfz59_11, hfz59_12, hfz59_13⟩ := zb14 BK360.out)|((with_reducible refine gate_callee (f := 46) rfl ?_); refine goesL_ (some 81) rfl rfl Try.func46 (by kernel_rfl) rfl #[.agg #[.slice A0_0 l0_0.length c0_0, .int .i64 a0_1], .int .i64 t382] rfl (by (try simp only [List.map_toArray, List.map_cons, List.map_nil]); first|done|rfl|(simp only [List.length_drop, List.length_take]; rfl)) ?_; (with_reducible refine (impl_Arena_place.calls _ _ l0_0 a0_1 t382 t384 _ ?side1 ?side2 A55.out).mono ?_); (case side1 => repeat (first|exact (Kd.C_below HR0_0.out HB.out)|(with_reducible refine Kd.C_alloc ?_ _)|(with_reducible refine Kd.C_drewN ?_ _)|(with_reducible refine Kd.C_drew ?_))); (case side2 => exact HC0_0.out); rintro e w60 ⟨rfl, hb⟩; refine ⟨_, rfl, ?_⟩; have n0_ := Aside0.mk (zM (by (with_reducible repeat (first|apply zE|apply zD|apply zF)); exact HO_65.out) hb); have n1_ := Aside0.mk (Kd.V_below (by (with_reducible repeat (first|apply Kd.V_alloc|apply Kd.V_drewN|apply Kd.V_drew)); exact HO_361006.out) hb); have n2_ := Aside0.mk (Kd.V_below (by (with_reducible repeat (first|apply Kd.V_alloc|apply Kd.V_drewN|apply Kd.V_drew)); exact HO_361008.out) hb); have n3_ := Aside0.mk (Kd.V_below (by (with_reducible repeat (first|apply Kd.V_alloc|apply Kd.V_drewN|apply Kd.V_drew)); exact HO_361010.out) hb); have n4_ := Aside0.mk (zK (g := gb360) (o := .cells #[.slice A0_0 l0_0.length c0_0, .int .i64 a0_1, .slice A0_2 l0_2.length c0_2, .slice A0_3 l0_3.length c0_3, .int .i64 a0_4, .int .i64 a0_5, .slice A0_6 l0_6.length c0_6, .int .i64 a0_7, .slice A0_8 l0_8.length c0_8, .int .i64 a0_9, .slice A0_10 l0_10.length c0_10, .slice A0_11 l0_11.length c0_11, .int .i64 a0_12, .int .i64 a0_13] 37 (0, 0)) (by (with_reducible repeat (first|refine zA ?_ _|refine zC ?_|refine zB ?_ _)); exact BK360.out) hb); have n5_ := Aside0.mk (zN (by repeat (first|(with_reducible first|exact HB.out|apply zI|apply zG|apply zH|refine zJ ?_ GE360.out)|exact HB.out)) hb); clear HO_65; clear HO_361006; clear HO_361008; clear HO_361010; clear BK360; clear HB; have HO_65 := n0_; have HO_361006 := n1_; have HO_361008 := n2_; have HO_361010 := n3_; have BK360 := n4_; have HB := n5_; clear n0_ n1_ n2_ n3_ n4_ n5_; (try clear hb); (try clear hb2); (try clear hk); (try clear hi)))
                                go_ret
                                exact ⟨by first|rfl|(simp [errW_none, errW_some] <;> rfl)|(simp [*, errW_none, errW_some] <;> rfl), by repeat (first|(with_reducible first|exact HB.out|apply zI|apply zG|apply zH|refine zJ ?_ GE360.out)|exact HB.out)⟩
                              · rw [if_neg c56] at H
                                have c56b0 : decide (t384 < 0) = false := decide_eq_false c56
                                clear c56
                                by_cases c61 : 0 ≤ t384
                                · rw [if_pos c61] at H
                                  have c61b0 : decide (0 ≤ t384) = true := decide_eq_true c61
                                  clear c61
                                  by_cases c62 : t384 < (l0_0.length : Int)
                                  · rw [if_pos c62] at H
                                    have c62b0 : decide (t384 < (l0_0.length : Int)) = true := decide_eq_true c62
                                    clear c62
                                    by_cases c63 : ((rd_T73 l0_0 t384).f2).toList = (rdOf ByteArray.empty t376 x67_4).toList
                                    · rw [if_pos c63] at H
                                      have c63b0 : (((rd_T73 l0_0 t384).f2).toList == (rdOf ByteArray.empty t376 x67_4).toList) = true := beq_iff_eq.mpr c63
                                      have c63b1 : (((rd_T73 l0_0 t384).f2).toList != (rdOf ByteArray.empty t376 x67_4).toList) = false := bne_eq_false_iff_eq.mpr c63
                                      clear c63
                                      have H' := Aside0.mk H
                                      clear H
                                      have p381 : 0 ≤ (x67_4 : Int) := of_decide_eq_true (by first|(with_reducible assumption)|assumption)
                                      have q381 : x67_4 < (t376.length : Int) := of_decide_eq_true (by first|(with_reducible assumption)|assumption)
                                      obtain ⟨ad381, e381, hx381_0⟩ := Kd.at_string (Kd.R_reads' HO_65.out).2.2 x67_4 p381 q381
                                      cases e381
                                      replace p381 := eq_true p381
                                      replace q381 := eq_true q381
                                      obtain ⟨hcz64_0, hcz64_1, hcz64_2, hcz64_3, hcz64_4, hcz64_5, hcz64_6, hcz64_7, hcz64_8, hcz64_9, hcz64_10, hcz64_11, hcz64_12, hcz64_13, hfz64_0, hfz64_1, hfz64_2, hfz64_3, hfz64_4, hfz64_5, hfz64_6, hfz64_7, hfz64_8, hfz64_9, hfz64_10, hfz64_11, hfz64_12, hfz64_13⟩ := zb14 BK360.out
                                      go_wp2_with (first|((with_reducible refine gate_callee (f := 45) rfl ?_); refine goesL_ (some 75) rfl rfl Try.func45 (by kernel_rfl) rfl #[.agg #[.slice A0_2 l0_2.length c0_2, .slice A0_3 l0_3.length c0_3, .int .i64 a0_4], .string (rdOf ByteArray.empty t376 x67_4)] rfl (by (try simp only [List.map_toArray, List.map_cons, List.map_nil]); first|done|rfl|(simp only [List.length_drop, List.length_take]; rfl)) ?_; (with_reducible refine (impl_Table_find.calls k4 _ _ l0_2 _ _ l0_3 a0_4 (rdOf ByteArray.empty t376 x67_4) t382 t383 _ ?side1 ?side2 ?side3 ?side4 A54.out).mono ?_); (case side1 => repeat (first|exact (Kd.C_below HR0_2.out HB.out)|(with_reducible refine Kd.C_alloc ?_ _)|(with_reducible refine Kd.C_drewN ?_ _)|(with_reducible refine Kd.C_drew ?_))); (case side2 => exact HC0_2.out); (case side3 => repeat (first|exact (Kd.C_below HR0_3.out HB.out)|(with_reducible refine Kd.C_alloc ?_ _)|(with_reducible refine Kd.C_drewN ?_ _)|(with_reducible refine Kd.C_drew ?_))); (case side4 => exact HC0_3.out); rintro e w65 ⟨rfl, hb⟩; refine ⟨_, rfl, ?_⟩; have n0_ := Aside0.mk (zM (by (with_reducible repeat (first|apply zE|apply zD|apply zF)); exact HO_65.out) hb); have n1_ := Aside0.mk (Kd.V_below (by (with_reducible repeat (first|apply Kd.V_alloc|apply Kd.V_drewN|apply Kd.V_drew)); exact HO_361006.out) hb); have n2_ := Aside0.mk (Kd.V_below (by (with_reducible repeat (first|apply Kd.V_alloc|apply Kd.V_drewN|apply Kd.V_drew)); exact HO_361008.out) hb); have n3_ := Aside0.mk (Kd.V_below (by (with_reducible repeat (first|apply Kd.V_alloc|apply Kd.V_drewN|apply Kd.V_drew)); exact HO_361010.out) hb); have n4_ := Aside0.mk (zK (g := gb360) (o := .cells #[.slice A0_0 l0_0.length c0_0, .int .i64 a0_1, .slice A0_2 l0_2.length c0_2, .slice A0_3 l0_3.length c0_3, .int .i64 a0_4, .int .i64 a0_5, .slice A0_6 l0_6.length c0_6, .int .i64 a0_7, .slice A0_8 l0_8.length c0_8, .int .i64 a0_9, .slice A0_10 l0_10.length c0_10, .slice A0_11 l0_11.length c0_11, .int .i64 a0_12, .int .i64 a0_13] 37 (0, 0)) (by (with_reducible repeat (first|refine zA ?_ _|refine zC ?_|refine zB ?_ _)); exact BK360.out) hb); have n5_ := Aside0.mk (zN (by repeat (first|(with_reducible first|exact HB.out|apply zI|apply zG|apply zH|refine zJ ?_ GE360.out)|exact HB.out)) hb); clear HO_65; clear HO_361006; clear HO_361008; clear HO_361010; clear BK360; clear HB; have HO_65 := n0_; have HO_361006 := n1_; have HO_361008 := n2_; have HO_361010 := n3_; have BK360 := n4_; have HB := n5_; clear n0_ n1_ n2_ n3_ n4_ n5_; (try clear hb); (try clear hb2); (try clear hk); (try clear hi); obtain ⟨hcz66_0, hcz66_1, hcz66_2, hcz66_3, hcz66_4, hcz66_5, hcz66_6, hcz66_7, hcz66_8, hcz66_9, hcz66_10, hcz66_11, hcz66_12, hcz66_13, hfz66_0, hfz66_1, hfz66_2, hfz66_3, hfz66_4, hfz66_5, hfz66_6, hfz66_7, hfz66_8, hfz66_9, hfz66_10, hfz66_11, hfz66_12, hfz66_13⟩ := zb14 BK360.out)|((with_reducible refine gate_callee (f := 46) rfl ?_); refine goesL_ (some 81) rfl rfl Try.func46 (by kernel_rfl) rfl #[.agg #[.slice A0_0 l0_0.length c0_0, .int .i64 a0_1], .int .i64 t382] rfl (by (try simp only [List.map_toArray, List.map_cons, List.map_nil]); first|done|rfl|(simp only [List.length_drop, List.length_take]; rfl)) ?_; (with_reducible refine (impl_Arena_place.calls _ _ l0_0 a0_1 t382 t384 _ ?side1 ?side2 A55.out).mono ?_); (case side1 => repeat (first|exact (Kd.C_below HR0_0.out HB.out)|(with_reducible refine Kd.C_alloc ?_ _)|(with_reducible refine Kd.C_drewN ?_ _)|(with_reducible refine Kd.C_drew ?_))); (case side2 => exact HC0_0.out); rintro e w67 ⟨rfl, hb⟩; refine ⟨_, rfl, ?_⟩; have n0_ := Aside0.mk (zM (by (with_reducible repeat (first|apply zE|apply zD|apply zF)); exact HO_65.out) hb); have n1_ := Aside0.mk (Kd.V_below (by (with_reducible repeat (first|apply Kd.V_alloc|apply Kd.V_drewN|apply Kd.V_drew)); exact HO_361006.out) hb); have n2_ := Aside0.mk (Kd.V_below (by (with_reducible repeat (first|apply Kd.V_alloc|apply Kd.V_drewN|apply Kd.V_drew)); exact HO_361008.out) hb); have n3_ := Aside0.mk (Kd.V_below (by (with_reducible repeat (first|apply Kd.V_alloc|apply Kd.V_drewN|apply Kd.V_drew)); exact HO_361010.out) hb); have n4_ := Aside0.mk (zK (g := gb360) (o := .cells #[.slice A0_0 l0_0.length c0_0, .int .i64 a0_1, .slice A0_2 l0_2.length c0_2, .slice A0_3 l0_3.length c0_3, .int .i64 a0_4, .int .i64 a0_5, .slice A0_6 l0_6.length c0_6, .int .i64 a0_7, .slice A0_8 l0_8.length c0_8, .int .i64 a0_9, .slice A0_10 l0_10.length c0_10, .slice A0_11 l0_11.length c0_11, .int .i64 a0_12, .int .i64 a0_13] 37 (0, 0)) (by (with_reducible repeat (first|refine zA ?_ _|refine zC ?_|refine zB ?_ _)); exact BK360.out) hb); have n5_ := Aside0.mk (zN (by repeat (first|(with_reducible first|exact HB.out|apply zI|apply zG|apply zH|refine zJ ?_ GE360.out)|exact HB.out)) hb); clear HO_65; clear HO_361006; clear HO_361008; clear HO_361010; clear BK360; clear HB; have HO_65 := n0_; have HO_361006 := n1_; have HO_361008 := n2_; have HO_361010 := n3_; have BK360 := n4_; have HB := n5_; clear n0_ n1_ n2_ n3_ n4_ n5_; (try clear hb); (try clear hb2); (try clear hk); (try clear hi); obtain ⟨hcz68_0, hcz68_1, hcz68_2, hcz68_3, hcz68_4, hcz68_5, hcz68_6, hcz68_7, hcz68_8, hcz68_9, hcz68_10, hcz68_11, hcz68_12, hcz68_13, hfz68_0, hfz68_1, hfz68_2, hfz68_3, hfz68_4, hfz68_5, hfz68_6, hfz68_7, hfz68_8, hfz68_9, hfz68_10, hfz68_11, hfz68_12, hfz68_13⟩ := zb14 BK360.out; have p385 : 0 ≤ (t384 : Int) := of_decide_eq_true (by first|(with_reducible assumption)|assumption); have q385 : t384 < (l0_0.length : Int) := of_decide_eq_true (by first|(with_reducible assumption)|assumption); obtain ⟨ad385, e385, hx385_0, hx385_1, hx385_2, hx385_3, hx385_4⟩ := at_T73 HR0_0.out t384 p385 q385; cases e385; replace hx385_0 := (HB.out.cell (World.block_lt_of_cell? w _ hx385_0)).trans hx385_0; replace hx385_1 := (HB.out.cell (World.block_lt_of_cell? w _ hx385_1)).trans hx385_1; replace hx385_2 := (HB.out.cell (World.block_lt_of_cell? w _ hx385_2)).trans hx385_2; replace hx385_3 := (HB.out.cell (World.block_lt_of_cell? w _ hx385_3)).trans hx385_3; replace hx385_4 := (HB.out.cell (World.block_lt_of_cell? w _ hx385_4)).trans hx385_4; replace p385 := eq_true p385; replace q385 := eq_true q385))
                                      go_roundg k4
                                      case measure => have := HJ1.out; have := HK2.out; have := HJ38.out; have := HK4.out; omega
                                      case rel => exact ⟨(wrap64 (x67_4 + 1)), (by first|rfl|(simp; done)|(simp [*]; done)), H', ⟨by have := HJ1.out; have := HK2.out; have := HJ38.out; have := HK4.out; omega⟩, ⟨by (try simp only [hl3_2]); (with_reducible repeat (first|apply zE|apply zD|apply zF)); exact HO_65.out⟩, ⟨by (try simp only [hl3_2]); (with_reducible repeat (first|apply Kd.V_alloc|apply Kd.V_drewN|apply Kd.V_drew)); exact HO_361006.out⟩, ⟨by (try simp only [hl3_2]); (with_reducible repeat (first|apply Kd.V_alloc|apply Kd.V_drewN|apply Kd.V_drew)); exact HO_361008.out⟩, ⟨by (try simp only [hl3_2]); (with_reducible repeat (first|apply Kd.V_alloc|apply Kd.V_drewN|apply Kd.V_drew)); exact HO_361010.out⟩, ⟨by (try simp only [hl3_2]); (with_reducible repeat (first|refine zA ?_ _|refine zC ?_|refine zB ?_ _)); exact BK360.out⟩, ⟨by repeat (first|(with_reducible first|exact HB.out|apply zI|apply zG|apply zH|refine zJ ?_ GE360.out)|exact HB.out)⟩⟩
                                    · rw [if_neg c63] at H
                                      have c63b0 : (((rd_T73 l0_0 t384).f2).toList == (rdOf ByteArray.empty t376 x67_4).toList) = false := beq_eq_false_iff_ne.mpr c63
                                      have c63b1 : (((rd_T73 l0_0 t384).f2).toList != (rdOf ByteArray.empty t376 x67_4).toList) = true := bne_iff_ne.mpr c63
                                      obtain rfl := Option.some.inj H
                                      have p381 : 0 ≤ (x67_4 : Int) := of_decide_eq_true (by first|(with_reducible assumption)|assumption)
                                      have q381 : x67_4 < (t376.length : Int) := of_decide_eq_true (by first|(with_reducible assumption)|assumption)
                                      obtain ⟨ad381, e381, hx381_0⟩ := Kd.at_string (Kd.R_reads' HO_65.out).2.2 x67_4 p381 q381
                                      cases e381
                                      replace p381 := eq_true p381
                                      replace q381 := eq_true q381
                                      obtain ⟨hcz69_0, hcz69_1, hcz69_2, hcz69_3, hcz69_4, hcz69_5, hcz69_6, hcz69_7, hcz69_8, hcz69_9, hcz69_10, hcz69_11, hcz69_12, hcz69_13, hfz69_0, hfz69_1, hfz69_2, hfz69_3, hfz69_4, hfz69_5, hfz69_6, hfz69_7, hfz69_8, hfz69_9, hfz69_10, hfz69_11, hfz69_12, hfz69_13⟩ := zb14 BK360.out
                                      go_wp2_with (first|((with_reducible refine gate_callee (f := 45) rfl ?_); refine goesL_ (some 75) rfl rfl Try.func45 (by kernel_rfl) rfl #[.agg #[.slice A0_2 l0_2.length c0_2, .slice A0_3 l0_3.length c0_3, .int .i64 a0_4], .string (rdOf ByteArray.empty t376 x67_4)] rfl (by (try simp only [List.map_toArray, List.map_cons, List.map_nil]); first|done|rfl|(simp only [List.length_drop, List.length_take]; rfl)) ?_; (with_reducible refine (impl_Table_find.calls k4 _ _ l0_2 _ _ l0_3 a0_4 (rdOf ByteArray.empty t376 x67_4) t382 t383 _ ?side1 ?side2 ?side3 ?side4 A54.out).mono ?_); (case side1 => repeat (first|exact (Kd.C_below HR0_2.out HB.out)|(with_reducible refine Kd.C_alloc ?_ _)|(with_reducible refine Kd.C_drewN ?_ _)|(with_reducible refine Kd.C_drew ?_))); (case side2 => exact HC0_2.out); (case side3 => repeat (first|exact (Kd.C_below HR0_3.out HB.out)|(with_reducible refine Kd.C_alloc ?_ _)|(with_reducible refine Kd.C_drewN ?_ _)|(with_reducible refine Kd.C_drew ?_))); (case side4 => exact HC0_3.out); rintro e w70 ⟨rfl, hb⟩; refine ⟨_, rfl, ?_⟩; have n0_ := Aside0.mk (zM (by (with_reducible repeat (first|apply zE|apply zD|apply zF)); exact HO_65.out) hb); have n1_ := Aside0.mk (Kd.V_below (by (with_reducible repeat (first|apply Kd.V_alloc|apply Kd.V_drewN|apply Kd.V_drew)); exact HO_361006.out) hb); have n2_ := Aside0.mk (Kd.V_below (by (with_reducible repeat (first|apply Kd.V_alloc|apply Kd.V_drewN|apply Kd.V_drew)); exact HO_361008.out) hb); have n3_ := Aside0.mk (Kd.V_below (by (with_reducible repeat (first|apply Kd.V_alloc|apply Kd.V_drewN|apply Kd.V_drew)); exact HO_361010.out) hb); have n4_ := Aside0.mk (zK (g := gb360) (o := .cells #[.slice A0_0 l0_0.length c0_0, .int .i64 a0_1, .slice A0_2 l0_2.length c0_2, .slice A0_3 l0_3.length c0_3, .int .i64 a0_4, .int .i64 a0_5, .slice A0_6 l0_6.length c0_6, .int .i64 a0_7, .slice A0_8 l0_8.length c0_8, .int .i64 a0_9, .slice A0_10 l0_10.length c0_10, .slice A0_11 l0_11.length c0_11, .int .i64 a0_12, .int .i64 a0_13] 37 (0, 0)) (by (with_reducible repeat (first|refine zA ?_ _|refine zC ?_|refine zB ?_ _)); exact BK360.out) hb); have n5_ := Aside0.mk (zN (by repeat (first|(with_reducible first|exact HB.out|apply zI|apply zG|apply zH|refine zJ ?_ GE360.out)|exact HB.out)) hb); clear HO_65; clear HO_361006; clear HO_361008; clear HO_361010; clear BK360; clear HB; have HO_65 := n0_; have HO_361006 := n1_; have HO_361008 := n2_; have HO_361010 := n3_; have BK360 := n4_; have HB := n5_; clear n0_ n1_ n2_ n3_ n4_ n5_; (try clear hb); (try clear hb2); (try clear hk); (try clear hi); obtain ⟨hcz71_0, hcz71_1, hcz71_2, hcz71_3, hcz71_4, hcz71_5, hcz71_6, hcz71_7, hcz71_8, hcz71_9, hcz71_10, hcz71_11, hcz71_12, hcz71_13, hfz71_0, hfz71_1, hfz71_2, hfz71_3, hfz71_4, hfz71_5, hfz71_6, hfz71_7, hfz71_8, hfz71_9, hfz71_10, hfz71_11, hfz71_12, hfz71_13⟩ := zb14 BK360.out)|((with_reducible refine gate_callee (f := 46) rfl ?_); refine goesL_ (some 81) rfl rfl Try.func46 (by kernel_rfl) rfl #[.agg #[.slice A0_0 l0_0.length c0_0, .int .i64 a0_1], .int .i64 t382] rfl (by (try simp only [List.map_toArray, List.map_cons, List.map_nil]); first|done|rfl|(simp only [List.length_drop, List.length_take]; rfl)) ?_; (with_reducible refine (impl_Arena_place.calls _ _ l0_0 a0_1 t382 t384 _ ?side1 ?side2 A55.out).mono ?_); (case side1 => repeat (first|exact (Kd.C_below HR0_0.out HB.out)|(with_reducible refine Kd.C_alloc ?_ _)|(with_reducible refine Kd.C_drewN ?_ _)|(with_reducible refine Kd.C_drew ?_))); (case side2 => exact HC0_0.out); rintro e w72 ⟨rfl, hb⟩; refine ⟨_, rfl, ?_⟩; have n0_ := Aside0.mk (zM (by (with_reducible repeat (first|apply zE|apply zD|apply zF)); exact HO_65.out) hb); have n1_ := Aside0.mk (Kd.V_below (by (with_reducible repeat (first|apply Kd.V_alloc|apply Kd.V_drewN|apply Kd.V_drew)); exact HO_361006.out) hb); have n2_ := Aside0.mk (Kd.V_below (by (with_reducible repeat (first|apply Kd.V_alloc|apply Kd.V_drewN|apply Kd.V_drew)); exact HO_361008.out) hb); have n3_ := Aside0.mk (Kd.V_below (by (with_reducible repeat (first|apply Kd.V_alloc|apply Kd.V_drewN|apply Kd.V_drew)); exact HO_361010.out) hb); have n4_ := Aside0.mk (zK (g := gb360) (o := .cells #[.slice A0_0 l0_0.length c0_0, .int .i64 a0_1, .slice A0_2 l0_2.length c0_2, .slice A0_3 l0_3.length c0_3, .int .i64 a0_4, .int .i64 a0_5, .slice A0_6 l0_6.length c0_6, .int .i64 a0_7, .slice A0_8 l0_8.length c0_8, .int .i64 a0_9, .slice A0_10 l0_10.length c0_10, .slice A0_11 l0_11.length c0_11, .int .i64 a0_12, .int .i64 a0_13] 37 (0, 0)) (by (with_reducible repeat (first|refine zA ?_ _|refine zC ?_|refine zB ?_ _)); exact BK360.out) hb); have n5_ := Aside0.mk (zN (by repeat (first|(with_reducible first|exact HB.out|apply zI|apply zG|apply zH|refine zJ ?_ GE360.out)|exact HB.out)) hb); clear HO_65; clear HO_361006; clear HO_361008; clear HO_361010; clear BK360; clear HB; have HO_65 := n0_; have HO_361006 := n1_; have HO_361008 := n2_; have HO_361010 := n3_; have BK360 := n4_; have HB := n5_; clear n0_ n1_ n2_ n3_ n4_ n5_; (try clear hb); (try clear hb2); (try clear hk); (try clear hi); obtain ⟨hcz73_0, hcz73_1, hcz73_2, hcz73_3, hcz73_4, hcz73_5, hcz73_6, hcz73_7, hcz73_8, hcz73_9, hcz73_10, hcz73_11, hcz73_12, hcz73_13, hfz73_0, hfz73_1, hfz73_2, hfz73_3, hfz73_4, hfz73_5, hfz73_6, hfz73_7, hfz73_8, hfz73_9, hfz73_10, hfz73_11, hfz73_12, hfz73_13⟩ := zb14 BK360.out; have p385 : 0 ≤ (t384 : Int) := of_decide_eq_true (by first|(with_reducible assumption)|assumption); have q385 : t384 < (l0_0.length : Int) := of_decide_eq_true (by first|(with_reducible assumption)|assumption); obtain ⟨ad385, e385, hx385_0, hx385_1, hx385_2, hx385_3, hx385_4⟩ := at_T73 HR0_0.out t384 p385 q385; cases e385; replace hx385_0 := (HB.out.cell (World.block_lt_of_cell? w _ hx385_0)).trans hx385_0; replace hx385_1 := (HB.out.cell (World.block_lt_of_cell? w _ hx385_1)).trans hx385_1; replace hx385_2 := (HB.out.cell (World.block_lt_of_cell? w _ hx385_2)).trans hx385_2; replace hx385_3 := (HB.out.cell (World.block_lt_of_cell? w _ hx385_3)).trans hx385_3; replace hx385_4 := (HB.out.cell (World.block_lt_of_cell? w _ hx385_4)).trans hx385_4; replace p385 := eq_true p385; replace q385 := eq_true q385))
                                      go_ret
                                      exact ⟨by first|rfl|(simp [errW_none, errW_some] <;> rfl)|(simp [*, errW_none, errW_some] <;> rfl), by repeat (first|(with_reducible first|exact HB.out|apply zI|apply zG|apply zH|refine zJ ?_ GE360.out)|exact HB.out)⟩
                                  · rw [if_neg c62] at H
                                    exact absurd H (by simp)
                                · rw [if_neg c61] at H
                                  exact absurd H (by simp)
                            · rw [if_neg c53] at H
                              exact absurd H (by simp)
                          · rw [if_neg c52] at H
                            exact absurd H (by simp)
                        · rw [if_neg c51] at H
                          have c51b0 : decide (x67_4 < (t376.length : Int)) = false := decide_eq_false c51
                          clear c51
                          obtain rfl := Option.some.inj H
                          go_wp2
                          go_ret
                          exact ⟨by first|rfl|(simp [errW_none, errW_some] <;> rfl)|(simp [*, errW_none, errW_some] <;> rfl), by repeat (first|(with_reducible first|exact HB.out|apply zI|apply zG|apply zH|refine zJ ?_ GE360.out)|exact HB.out)⟩

end Go.Proofs.Ytediiolcoilepaa.GFnNearNew
