/- Walks of the functions that the law reaches: by programs of this session, over a tool's print. -/
import Derived.Test.YtjiekmbonmbhlaaGFnPushesx0
import Derived.Test.YtjiekmbonmbhlaaGFnPushesx1
namespace Go.Proofs.Ytjiekmbonmbhlaa.GFnPushes
open Go.RowKit Go.Proofs.YtjiekmbonmbhlaaW.PrintWords Go.Proofs.YtjiekmbonmbhlaaW.PrintLast Go.Proofs.YtjiekmbonmbhlaaW.PrintMore
attribute [local go_sem] max2_int min2_int max_two min_two max_three min_three max_four min_four   -- for this text's walks alone
set_option linter.unusedVariables false
set_option linter.unusedSimpArgs false


/-! ### impl_Push: function 23 -/
section
open Go.Lib Go.Sort
/-! ### Rows of texts, block and all -/
theorem row_block {e base : Nat} {ok : Nat → Prop} {w : World} {A : Option Addr} {n c : Nat} {xs : List ByteArray} (h : Kd.R Kd.string e w base ok (.slice A n c) xs) :
    n = xs.length ∧ ((A = none ∧ n = 0 ∧ c = 0) ∨ ∃ g cur, A = some ⟨g, 0, none⟩ ∧ ok g ∧ base ≤ g ∧ w.heap[g]? = some (.cells cur e (0, 0)) ∧ n ≤ c ∧ c ≤ maxLen ∧ cur.size = c ∧ cur.toList.take n = xs.map Value.string) := by
  obtain ⟨h0, inner, ⟨hlen, ho⟩, hr⟩ := h
  have hinner : inner = xs.map Value.string := by
    obtain ⟨hr1, hr2⟩ := hr
    apply List.ext_getElem?
    intro j
    by_cases hj : j < xs.length
    · have := hr2 j xs[j] (List.getElem?_eq_getElem hj)
      have h3 : (inner.drop (j * 1)).take 1 = [Value.string xs[j]] := this
      rw [Nat.mul_one] at h3
      have h4 := congrArg (fun l => l[0]?) h3
      simp at h4
      rw [h4]; simp [hj]
    · have hl : inner.length = xs.length := by have := hr1; simpa [Kd.string, Kd.scalar] using this
      rw [List.getElem?_eq_none (by omega), List.getElem?_eq_none (by simp; omega)]
  rcases ho with ⟨hv, hn⟩ | ⟨g, cap, cur, hv, hb, hc, hn, hm, hs, ht⟩
  · obtain ⟨rfl, rfl, rfl⟩ := Value.slice.inj hv
    exact ⟨hn.symm, .inl ⟨rfl, rfl, rfl⟩⟩
  · obtain ⟨rfl, rfl, rfl⟩ := Value.slice.inj hv
    refine ⟨rfl, .inr ⟨g, cur, rfl, h0 g rfl, hb, hc, hn, hm, ?_, ?_⟩⟩
    · rw [hs]; exact Nat.mul_one _
    · have : xs.length * (Kd.string).sz = xs.length := Nat.mul_one _
      rw [this] at ht
      rw [ht, hinner]
theorem block_row {e base : Nat} {ok : Nat → Prop} {w : World} {g n c : Nat} {cur : Array Value} {xs : List ByteArray} (hk : ok g) (hb : base ≤ g) (hc : w.heap[g]? = some (.cells cur e (0, 0))) (hn : n = xs.length) (hnc : n ≤ c) (hm : c ≤ maxLen) (hs : cur.size = c) (ht : cur.toList.take n = xs.map Value.string) :
    Kd.R Kd.string e w base ok (.slice (some ⟨g, 0, none⟩) n c) xs := by
  subst hn
  refine ⟨fun k hk' => ?_, xs.map Value.string, ⟨?_, .inr ⟨g, c, cur, rfl, hb, hc, hnc, hm, ?_, ?_⟩⟩, ?_⟩
  · simp [Value.ownBlock] at hk'; rw [← hk']; exact hk
  · show (xs.map Value.string).length = xs.length * 1; simp
  · show cur.size = c * 1; omega
  · show cur.toList.take (xs.length * 1) = _; rw [Nat.mul_one]; exact ht
  · exact Kd.reps_scalar (enc := Value.string) xs
theorem blk_sets (g : Nat) (t : TypeId) : ∀ (vs : List Value) (o : Nat) (w : World) (cur : Array Value), w.heap[g]? = some (.cells cur t (0, 0)) → o + vs.length ≤ cur.size →
    ∃ cur' : Array Value, (w.setCells g o vs).heap[g]? = some (.cells cur' t (0, 0)) ∧ cur'.size = cur.size ∧ cur'.toList = cur.toList.take o ++ vs ++ cur.toList.drop (o + vs.length)
  | [], o, w, cur, h, hl => ⟨cur, h, rfl, by simp⟩
  | v :: r, o, w, cur, h, hl => by
    simp only [List.length_cons] at hl
    obtain ⟨cur', h1, h2, h3⟩ := blk_sets g t r (o + 1) (w.setCell ⟨g, o, none⟩ v) (cur.setIfInBounds o v) (blk_set h o v) (by simp; omega)
    refine ⟨cur', h1, by rw [h2]; simp, ?_⟩
    rw [h3, Array.toList_setIfInBounds, List.take_add_one, List.take_set_of_le (Nat.le_refl o), List.getElem?_set_self (by simp; omega), List.drop_set_of_lt (by omega)]
    simp only [List.length_cons, Option.toList_some, List.append_assoc, List.cons_append, List.nil_append]
    rw [show o + 1 + r.length = o + (r.length + 1) by omega]
theorem grown_sets (g : Nat) : ∀ (vs : List Value) (o : Nat) (w : World), w.grownBy (w.setCells g o vs) (some g)
  | [], o, w => World.grownBy.refl w _
  | v :: r, o, w => World.grownBy.trans (⟨by simp [World.setCell], by simp [World.setCell], by simp [World.setCell], by simp [World.setCell], fun i hi hne => Below.heap_setCell w ⟨g, o, none⟩ v i (fun e => hne (by rw [e]))⟩) (grown_sets g r (o + 1) _)
theorem grown_drew {w W : World} {row : Option Nat} (h : w.grownBy W row) : w.grownBy W.drew row := ⟨h.os, h.tape, h.output, h.size, h.block⟩
theorem row_cell {w : World} {g e : Nat} {cur : Array Value} {xs : List ByteArray} (hc : w.heap[g]? = some (.cells cur e (0, 0))) (ht : cur.toList.take xs.length = xs.map Value.string) (j : Nat) (hj : j < xs.length) : w.cell? ⟨g, 0 + j, none⟩ = some (.string (xs.getD j ByteArray.empty)) := by
  rw [Nat.zero_add, blk_cell hc j]
  have h := congrArg (fun l => l[j]?) ht
  simp only [List.getElem?_take, if_pos hj, List.getElem?_map, List.getElem?_eq_getElem hj, Option.map_some] at h
  rw [List.getD_eq_getElem?_getD, List.getElem?_eq_getElem hj, ← Array.getElem?_toList, h]
  rfl
theorem strs_of (xs : List ByteArray) : Lib.strsOf (fun i => xs.getD i ByteArray.empty) xs.length = xs.map (fun s => s.data.toList) := by
  apply List.ext_getElem
  · simp [Lib.strsOf]
  · intro j h1 h2
    simp [Lib.strsOf] at h1 h2 ⊢
    simp [h2]
theorem enc_strs (xs : List ByteArray) : (xs.map (fun s : ByteArray => s.data.toList)).map encStr = xs.map Value.string := by
  rw [List.map_map]
  exact List.map_congr_left (fun s _ => rfl)
shelf_lay Lays2.n24 Nm2 24 at Try as layD
shelf_lay Lays2.n22 Nm2 22 at Try as layI
theorem del_calls (xs : List ByteArray) (i : Nat) (hi : i < xs.length) (A : Option Addr) (c base : Nat) (P_ : Nat → Prop) (w : World) (ho : Kd.R Kd.string 9 w base P_ (.slice A xs.length c) xs) :
    Calls Try.prog 107 #[.slice A xs.length c, .int .i64 (i : Int), .int .i64 ((i + 1 : Nat) : Int)] w fun e w' => e = .returned (.slice A (xs.length - 1) c) ∧ Kd.R Kd.string 9 w' base P_ (.slice A (xs.length - 1) c) (xs.eraseIdx i) ∧ w.grownBy w' (Value.slice A xs.length c).ownBlock := by
  obtain ⟨_, ⟨_, h0, _⟩ | ⟨g, cur, rfl, hk, hb, hc, hn, hm, hs, ht⟩⟩ := row_block ho
  · omega
  have hm' : c ≤ 9223372036854775807 := hm
  refine (Any.slices_Delete_string_cells layD g 0 xs.length c i (i + 1) (fun i => xs.getD i ByteArray.empty) w hn hm' (by omega) (by omega) (row_cell hc ht) (fun j hj => by rw [Nat.zero_add]; exact blk_frozen hc j)).mono ?_
  rintro e w' ⟨rfl, q, rfl⟩
  rw [strs_of]
  have hl : ((List.take i (xs.map (fun s : ByteArray => s.data.toList)) ++ List.drop (i + 1) (xs.map (fun s : ByteArray => s.data.toList)) ++ List.replicate (i + 1 - i) []).map encStr) = (xs.eraseIdx i).map Value.string ++ [.string ⟨#[]⟩] := by
    rw [show i + 1 - i = 1 by omega, List.eraseIdx_eq_take_drop_succ, List.map_append, List.map_append, List.map_append, List.map_take, List.map_drop, List.map_take, List.map_drop, enc_strs]
    rfl
  rw [hl]
  have hel : (xs.eraseIdx i).length = xs.length - 1 := by rw [List.length_eraseIdx, if_pos hi]
  obtain ⟨cur', h1, h2, h3⟩ := blk_sets g 9 ((xs.eraseIdx i).map Value.string ++ [.string ⟨#[]⟩]) 0 (w.drewN q) cur (blk_drewN hc q) (by simp; omega)
  refine ⟨by rw [show xs.length - (i + 1 - i) = xs.length - 1 by omega], block_row hk hb h1 hel.symm (by omega) hm (by omega) ?_, ?_⟩
  · rw [h3]
    simp only [List.take_zero, List.nil_append, List.append_assoc]
    rw [List.take_append_of_le_length (by simp; omega), List.take_of_length_le (by simp; omega)]
  · exact World.grownBy.trans (b := w.drewN q) ⟨rfl, rfl, rfl, Nat.le_refl _, fun _ _ _ => rfl⟩ (grown_sets g _ 0 _)
theorem zero_strs (m : Nat) : (Builtin.zeroCells (Value.string ⟨#[]⟩).cells m).size = m := by simp [Builtin.zeroCells, Value.cells]
theorem ins_calls (xs : List ByteArray) (hx : xs.length ≤ 1048576) (A : Option Addr) (c base : Nat) (P_ : Nat → Prop) (w : World) (ho : Kd.R Kd.string 9 w base P_ (.slice A xs.length c) xs) (hbw : base ≤ w.heap.size) (hf : P_ w.heap.size)
    (vb vc : Nat) (key : ByteArray) (curv : Array Value) (hv : w.heap[vb]? = some (.cells curv 9 (0, 0))) (hv0 : curv[0]? = some (.string key)) (hne : some vb ≠ (Value.slice A xs.length c).ownBlock) :
    Calls Try.prog 109 #[.slice A xs.length c, .int .i64 (0 : Int), .slice (some ⟨vb, 0, none⟩) 1 vc] w fun e w' => ∃ v', e = .returned v' ∧ Kd.R Kd.string 9 w' base P_ v' (key :: xs) ∧ w.grownBy w' (Value.slice A xs.length c).ownBlock := by
  have hvs : ∀ j v, [Value.string key][j]? = some v → w.cell? ⟨vb, 0 + j, none⟩ = some v := fun j v hj => by
    rw [Nat.zero_add, blk_cell hv j]
    rcases j with _ | j
    · rw [hv0]; exact hj
    · simp at hj
  have h1v : ∀ v ∈ [Value.string key], v.oneCell' = true := fun v h => by rw [List.mem_singleton.1 h]; rfl
  have hcl : (xs.map Value.string).length = xs.length := by simp
  have h1c : ∀ v ∈ xs.map Value.string, v.oneCell' = true := fun v h => by obtain ⟨s, _, rfl⟩ := List.mem_map.1 h; rfl
  have hML : maxLen = 9223372036854775807 := rfl
  obtain ⟨_, hrow⟩ := row_block ho
  -- no room, at the end (no text stood there)
  have grow0 : xs.length = 0 → c = 0 → (∀ a, A = some a → ∀ j v, (xs.map Value.string)[j]? = some v → w.cell? (a.add j) = some v) →
      Calls Try.prog 109 #[.slice A xs.length c, .int .i64 (0 : Int), .slice (some ⟨vb, 0, none⟩) 1 vc] w fun e w' => ∃ v', e = .returned v' ∧ Kd.R Kd.string 9 w' base P_ v' (key :: xs) ∧ w.grownBy w' (Value.slice A xs.length c).ownBlock := by
    intro h0 hc0 hcs
    obtain rfl := List.eq_nil_of_length_eq_zero h0
    subst hc0
    refine (Any2.slices_Insert_string_end_grow layI A 0 0 vb 0 1 vc [] [.string key] w (by omega) (by omega) (by omega) (by omega) rfl rfl (fun _ => rfl) hcs hvs h1v).mono ?_
    rintro e w' ⟨rfl, rfl⟩
    simp only [show layI_ren.t 9 = 9 from rfl]
    have hG : 1 ≤ grownCap w 1 0 9 := grownCap_ge w 1 0 9
    have hGm : grownCap w 1 0 9 ≤ maxLen := grownCap_le_maxLen w 1 0 9 (by rw [hML]; omega)
    refine ⟨_, rfl, ?_, ?_⟩
    · refine block_row (cur := ([Value.string key]).toArray ++ Builtin.zeroCells (Value.string ⟨#[]⟩).cells (grownCap w (0 + 1) 0 9 - (0 + 1))) hf hbw ?_ rfl hG hGm ?_ ?_
      · exact heap_alloc_new w.drew _
      · rw [Array.size_append, zero_strs]; simp; omega
      · simp
    · exact World.grownBy.trans (b := w.drew) ⟨rfl, rfl, rfl, Nat.le_refl _, fun _ _ _ => rfl⟩ (World.grownBy_alloc w.drew _ _)
  rcases hrow with ⟨rfl, h0, hc0⟩ | ⟨g, cur, rfl, hk, hb, hc, hn, hm, hs, ht⟩
  · exact grow0 h0 hc0 (fun a h => by cases h)
  have hcs : ∀ j v, (xs.map Value.string)[j]? = some v → w.cell? ⟨g, 0 + j, none⟩ = some v := fun j v hj => by
    rw [Nat.zero_add, blk_cell hc j, ← Array.getElem?_toList]
    rw [← ht] at hj
    rw [List.getElem?_take] at hj
    split at hj
    · exact hj
    · cases hj
  have hvg : vb ≠ g := fun e => hne (by rw [e]; rfl)
  have hdrew : w.grownBy w.drew (some g) := ⟨rfl, rfl, rfl, Nat.le_refl _, fun _ _ _ => rfl⟩
  by_cases hroom : xs.length + 1 ≤ c
  · have hsp : ∀ j, j < xs.length + 1 → (w.cell? ⟨g, 0 + j, none⟩).isSome = true := fun j hj => by
      rw [Nat.zero_add, blk_cell hc j, Array.getElem?_eq_getElem (by omega)]; rfl
    have hfz : ∀ j, j < xs.length + 1 → w.frozen? ⟨g, 0 + j, none⟩ = false := fun j hj => by rw [Nat.zero_add]; exact blk_frozen hc j
    by_cases h0 : xs.length = 0
    · obtain rfl := List.eq_nil_of_length_eq_zero h0
      refine (Any2.slices_Insert_string_end_room layI g 0 0 c vb 0 1 vc [.string key] w (by omega) hroom (by rw [← hML]; exact hm) rfl (fun j hj => by have := hsp j (by simpa using hj); simpa using this) (fun j hj => by have := hfz j (by simpa using hj); simpa using this) hvs h1v).mono ?_
      rintro e w' ⟨rfl, rfl⟩
      obtain ⟨cur', h1, h2, h3⟩ := blk_sets g 9 [.string key] 0 w cur hc (by simp at hroom ⊢; omega)
      refine ⟨_, rfl, block_row hk hb h1 rfl (by simpa using hroom) hm (by omega) ?_, grown_sets g _ 0 _⟩
      rw [h3]; simp
    · have hsh : w.shape? vb = some (9, curv.size) := by simp [World.shape?, hv]
      have hsg : w.shape? g = some (9, cur.size) := by simp [World.shape?, hc]
      refine (Any2.slices_Insert_string_shift layI g 0 xs.length c 0 vb 0 1 vc (xs.map Value.string) [.string key] w (by omega) (by omega) hroom (by rw [← hML]; exact hm) hvg hcl rfl hcs hsp hfz hvs h1c h1v 9 9 curv.size cur.size hsh hsg (by omega) (blk_frozen hv 0) (blk_frozen hv curv.size)).mono ?_
      rintro e w' ⟨rfl, rfl⟩
      obtain ⟨cur1, h1, h2, h3⟩ := blk_sets g 9 ((xs.map Value.string).drop 0) (0 + (0 + 1)) w.drew cur (blk_drew hc) (by simp; omega)
      obtain ⟨cur2, k1, k2, k3⟩ := blk_sets g 9 [.string key] (0 + 0) _ cur1 h1 (by simp; omega)
      refine ⟨_, rfl, block_row hk hb k1 (by simp) hroom hm (by omega) ?_, World.grownBy.trans hdrew (World.grownBy.trans (grown_sets g _ _ _) (grown_sets g _ _ _))⟩
      rw [k3, h3]
      simp only [Nat.zero_add, List.take_zero, List.nil_append, List.drop_zero, List.length_singleton]
      rw [List.append_assoc, List.drop_left' (by simp; omega), List.singleton_append, List.take_succ_cons, List.take_left' hcl]
      rfl
  · by_cases h0 : xs.length = 0
    · exact grow0 h0 (by omega) (fun a e j v hj => by rw [List.eq_nil_of_length_eq_zero h0] at hj; simp at hj)
    · refine (Any2.slices_Insert_string_grow layI g 0 xs.length c 0 vb 0 1 vc (xs.map Value.string) [.string key] w (by omega) (by omega) hn (by omega) (by omega) hcl rfl hcs hvs h1c h1v).mono ?_
      rintro e w' ⟨rfl, rfl⟩
      simp only [show layI_ren.t 9 = 9 from rfl]
      have hG := grownCap_ge w (xs.length + 1) c 9
      have hGm := grownCap_le_maxLen w (xs.length + 1) c 9 (by rw [hML]; omega)
      have hn0 := heap_alloc_new w (.cells (((xs.map Value.string).take 0).toArray ++ Builtin.zeroCells (Value.string ⟨#[]⟩).cells (xs.length + 1 - 0) ++ Builtin.zeroCells (Value.string ⟨#[]⟩).cells (grownCap w (xs.length + 1) c 9 - (xs.length + 1))) 9)
      have hsz : (((xs.map Value.string).take 0).toArray ++ Builtin.zeroCells (Value.string ⟨#[]⟩).cells (xs.length + 1 - 0) ++ Builtin.zeroCells (Value.string ⟨#[]⟩).cells (grownCap w (xs.length + 1) c 9 - (xs.length + 1))).size = grownCap w (xs.length + 1) c 9 := by
        rw [Array.size_append, Array.size_append, zero_strs, zero_strs]; simp; omega
      obtain ⟨cur1, h1, h2, h3⟩ := blk_sets w.heap.size 9 [.string key] 0 _ _ (blk_drew hn0) (by rw [hsz]; simp; omega)
      obtain ⟨cur2, k1, k2, k3⟩ := blk_sets w.heap.size 9 ((xs.map Value.string).drop 0) (0 + 1) _ cur1 (blk_drew h1) (by rw [h2, hsz]; simp; omega)
      refine ⟨_, rfl, block_row hf hbw k1 (by simp) hG hGm (by omega) ?_, ?_⟩
      · rw [k3, h3]
        simp only [Nat.zero_add, List.take_zero, List.nil_append, List.drop_zero, List.length_singleton]
        simp only [List.singleton_append, List.take_succ_cons, List.take_zero, List.append_assoc, List.cons_append, List.nil_append]
        rw [List.take_left' hcl]
        rfl
      · have G1 := grown_drew (World.grownBy_alloc w (.cells (((xs.map Value.string).take 0).toArray ++ Builtin.zeroCells (Value.string ⟨#[]⟩).cells (xs.length + 1 - 0) ++ Builtin.zeroCells (Value.string ⟨#[]⟩).cells (grownCap w (xs.length + 1) c 9 - (xs.length + 1))) 9) none)
        have G2 := World.grownBy.andThen (grown_drew (World.grownBy.andThen G1 (grown_sets w.heap.size [.string key] 0 _) (fun j hj => .inl (by injection hj with hj; omega)))) (grown_sets w.heap.size ((xs.map Value.string).drop 0) (0 + 1) _) (fun j hj => .inl (by injection hj with hj; omega))
        exact ⟨G2.os, G2.tape, G2.output, G2.size, fun i hi _ => G2.block i hi (by simp)⟩
end
set_option maxHeartbeats 1600000 in
set_option maxRecDepth 100000 in
theorem push_calls (g o t : Nat) (cs : Array Value) (u : Value) (xs : List ByteArray) (key : ByteArray) (m : Int) (P_ : Nat → Prop) (w0 w : World) (hx : xs.length ≤ 1048575)
    (hB : Below w0.heap.size w0 w) (hb : w.heap[g]? = some (.cells cs t (0, 0))) (hu0 : cs[o]? = some (.int .i64 m)) (hu : cs[o + 1]? = some u) (hg : w0.heap.size ≤ g)
    (ho : Kd.R Kd.string 9 w w0.heap.size P_ u xs) (hP : ∀ k, P_ k → k ≠ g) (hf : ∀ n, w.heap.size ≤ n → P_ n) (rs : ByteArray) (rl : List ByteArray) (hrs : rs = if (xs.length : Int) < m then ⟨#[]⟩ else (key :: xs).getD xs.length ByteArray.empty) (hrl : rl = if (xs.length : Int) < m then key :: xs else (key :: xs).take xs.length) :
    Calls Try.prog 71 #[.pointer (some ⟨g, o, none⟩), .string key] w fun e w' => e = .returned (.string rs) ∧ ∃ u', Kd.R Kd.string 9 w' w0.heap.size P_ u' rl ∧
      w'.heap[g]? = some (.cells (cs.setIfInBounds (o + 1) u') t (0, 0)) ∧ Below w0.heap.size w0 w' ∧ Kept w w' (fun k => some k = u.ownBlock ∨ k = g) := by
  have HB := Aside0.mk hB
  have HO := Aside0.mk ho
  have HNE := Aside0.mk (show some g ≠ u.ownBlock from fun e => hP g (ho.1 g e.symm) rfl)
  have HP := Aside0.mk hP
  have HU := Aside0.mk hu
  have HU0 := Aside0.mk hu0
  have HX := Aside0.mk hx
  have HBK := Aside0.mk hb
  have HG := Aside0.mk hg
  have HF := Aside0.mk hf
  obtain ⟨A1, c1, e1⟩ := Kd.R_slice ho
  subst e1
  have hc1 : w.cell? ⟨g, o + 1, none⟩ = some (.slice A1 xs.length c1) := (blk_cell hb (o + 1)).trans hu
  have HL := Aside0.mk (Array.getElem?_eq_some_iff.1 hu).1
  have HRS := Aside0.mk hrs
  have HRL := Aside0.mk hrl
  clear hB ho hP hu hu0 hb hg hx hf hrs hrl
  go_enter Try.func71, Try.ntmps71
  go_wp2_with fail
  have hsz : w0.heap.size ≤ w.heap.size := HB.out.size
  have hal : (w.alloc (Obj.cells #[Value.string key] 9)).heap.size = w.heap.size + 1 := by show (w.heap.push _).size = _; rw [Array.size_push]
  refine (ins_calls xs (by have := HX.out; omega) A1 c1 w0.heap.size P_ (w.alloc (Obj.cells #[Value.string key] 9)) (Kd.R_alloc HO.out _) (by rw [hal]; omega) (HF.out _ (by rw [hal]; omega)) w.heap.size 1 key #[.string key] (heap_alloc_new w _) rfl (fun e => by have := ((Kd.R_bound HO.out).1 _ e.symm).2.2.1; omega)).mono ?_
  rintro e w4 ⟨v', rfl, ho4, hgr0⟩
  obtain ⟨A4, c4, e4⟩ := Kd.R_slice ho4
  subst e4
  have hgr := World.grownBy.trans (World.grownBy_alloc w (Obj.cells #[Value.string key] 9) _) hgr0
  have HO4 := Aside0.mk ho4
  have HB4 := Aside0.mk (HB.out.grown hgr hsz (fun j hj => ((Kd.R_bound HO.out).1 j hj).2.1))
  have HK4 := Aside0.mk (Kept.of_grown hgr (Kept.refl w (fun k => some k = (Value.slice A1 xs.length c1).ownBlock ∨ k = g)) (fun k e => .inl (.inl e.symm)))
  have hb4 := blk_grown HBK.out hgr HNE.out
  have HBK4 := Aside0.mk hb4
  have hc4 : w4.cell? ⟨g, o + 1, none⟩ = some (.slice A1 xs.length c1) := (blk_cell hb4 (o + 1)).trans HU.out
  have hc5 : w4.cell? ⟨g, o, none⟩ = some (.int .i64 m) := (blk_cell hb4 o).trans HU0.out
  have hf4 := blk_frozen hb4 (o + 1)
  clear ho4 hgr0 hgr hb4 hc1 hsz hal
  have hw : wrap64 (xs.length : Int) = (xs.length : Int) := by
    have h1 := HX.out
    unfold wrap64; omega
  by_cases cm : (xs.length : Int) < m
  · have cmb : decide ((xs.length : Int) < m) = true := decide_eq_true cm
    have hrs := HRS.out
    have hrl := HRL.out
    rw [if_pos cm] at hrs hrl
    have CM := Aside0.mk cm
    subst hrs hrl
    clear cm HRS HRL
    go_wp2
    go_ret
    refine ⟨rfl, .slice A4 (xs.length + 1) c4, Kd.R_far HO4.out (p := ⟨g, o + 1, none⟩) HP.out _, blk_set HBK4.out (o + 1) _, below_set HB4.out HG.out, Kept.setCell HK4.out (.inl (.inr rfl)) _⟩
  · have cmb : decide ((xs.length : Int) < m) = false := decide_eq_false cm
    have hrs := HRS.out
    have hrl := HRL.out
    rw [if_neg cm] at hrs hrl
    have CM := Aside0.mk cm
    have HRS := Aside0.mk hrs
    have HRL := Aside0.mk hrl
    clear cm hrs hrl
    obtain ⟨g5, cap5, eo5, gb5, gl5, cl5, HG5⟩ := Kd.R_form HO4.out (by simp)
    obtain ⟨rfl, en5, rfl⟩ := Value.slice.inj eo5
    obtain ⟨hx5, hf5⟩ := Kd.R_celln ByteArray.empty HO4.out (xs.length : Int) (by omega) (by simp; omega)
    replace hx5 : w4.cell? ⟨g5, xs.length, none⟩ = some (.string rs) := by rw [HRS.out]; exact hx5
    have hne5 : g5 ≠ g := HP.out g5 (HO4.out.1 g5 rfl)
    have hne6 : g ≠ g5 := fun e => hne5 e.symm
    have hlt5 : (xs.length : Int) < (xs.length : Int) + 1 := by omega
    have h05 : (0 : Int) ≤ (xs.length : Int) := by omega
    have hcap5 : (xs.length : Int) ≤ (c4 : Int) := by
      have := (Kd.R_reads' HO4.out).2.1
      simp only [List.length_cons] at this
      omega
    have hcap6 : xs.length ≤ c4 := by omega
    clear gb5 gl5 cl5 HG5 eo5 en5
    go_wp2
    go_ret
    refine ⟨rfl, .slice (some ⟨g5, 0, none⟩) xs.length c4, ?_, ?_, below_set (below_set HB4.out HG.out) HG.out, Kept.setCell (Kept.setCell HK4.out (.inl (.inr rfl)) _) (.inl (.inr rfl)) _⟩
    · rw [HRL.out]
      exact Kd.R_far (p := ⟨g, o + 1, none⟩) (Kd.R_far (p := ⟨g, o + 1, none⟩) (Kd.R_take HO4.out (by simp)) HP.out _) HP.out _
    · have := blk_set (blk_set HBK4.out (o + 1) (.slice (some ⟨g5, 0, none⟩) (xs.length + 1) c4)) (o + 1) (.slice (some ⟨g5, 0, none⟩) xs.length c4)
      rw [Array.setIfInBounds_setIfInBounds] at this
      exact this
set_option maxHeartbeats 1600000 in
set_option maxRecDepth 100000 in
theorem push_zero1 (k : Nat) (a0_0 : Int) (A0_1 : Option Addr) (c0_1 : Nat) (l0_1 : List ByteArray) (key : ByteArray) (w : World) (hr0_1 : Kd.C Kd.string w A0_1 l0_1.length l0_1) (hc0_1 : l0_1.length ≤ c0_1) (hm : a0_0 = 0) :
    Calls Try.prog 23 #[.agg #[.int .i64 a0_0, .slice A0_1 l0_1.length c0_1], .string key] w fun e w' => ∃ v1_ : Value, e = .returned (.tuple #[.agg #[.int .i64 0, v1_], .string ⟨#[]⟩, .bool false]) ∧ Kd.R Kd.string 9 w' w.heap.size (fun _ => True) v1_ [] ∧ Below w.heap.size w w' := by
  have hu26 := Try.underlying26
  have HR := Aside0.mk hr0_1
  have HC := Aside0.mk hc0_1
  clear hr0_1 hc0_1
  have HB := Aside0.mk (Below.refl w.heap.size w)
  subst hm
  go_enter Try.func23, Try.ntmps23
  go_wp2_with (first | ((with_reducible refine gate_dst (N := 2) rfl ?_); refine box_event ?hg (N := 2) ?hd (cs := #[.int .i64 0, .slice A0_1 l0_1.length c0_1]) (t := 26) ?hr ?_; (case hd => rfl); (case hg => rfl); (case hr => first | (go_simp; done) | (go_simp; rfl)); intro g2 hg w3 hbox hb; have B2 := Aside0.mk hbox; have G2 := Aside0.mk (show w.heap.size ≤ g2 by rw [hg]; exact below_size HB.out); have n1_ := Aside0.mk (below_step HB.out hb); clear HB hbox hb hg; have HB := n1_; clear n1_) | ((with_reducible refine gate_dst (N := 4) rfl ?_); refine box_event ?hg (N := 4) ?hd (cs := #[.int .i64 0, .slice none 0 0]) (t := 26) ?hr ?_; (case hd => rfl); (case hg => rfl); (case hr => first | (go_simp; done) | (go_simp; rfl)); intro g4 hg w4 hbox hb; have B4 := Aside0.mk hbox; have G4 := Aside0.mk (show w.heap.size ≤ g4 by rw [hg]; exact below_size HB.out); have n0_ := Aside0.mk (blk_below B2.out hb); have n1_ := Aside0.mk (below_step HB.out hb); clear HB B2 hbox hb hg; have B2 := n0_; have HB := n1_; clear n0_ n1_; have hc2_0 : w4.cell? ⟨g2, 0, none⟩ = some (.int .i64 0) := (blk_cell B2.out 0).trans rfl; have hf2_0 := blk_frozen B2.out 0; have hc2_1 : w4.cell? ⟨g2, 1, none⟩ = some (.slice A0_1 l0_1.length c0_1) := (blk_cell B2.out 1).trans rfl; have hf2_1 := blk_frozen B2.out 1; have hc4_0 : w4.cell? ⟨g4, 0, none⟩ = some (.int .i64 0) := (blk_cell B4.out 0).trans rfl; have hf4_0 := blk_frozen B4.out 0; have hc4_1 : w4.cell? ⟨g4, 1, none⟩ = some (.slice none 0 0) := (blk_cell B4.out 1).trans rfl; have hf4_1 := blk_frozen B4.out 1))
  refine bodyPost_ret (results_ctt rfl _ _ g4 26 #[.int .i64 0, .slice none 0 0] (0, 0) _ rfl (by refine blk_put (cs := #[.int .i64 0, .slice none 0 0]) ?_ 1 _ rfl; refine blk_put (cs := #[.int .i64 0, .slice none 0 0]) ?_ 0 _ rfl; exact B4.out) Try.underlying26 rfl (by kernel_rfl)) rfl ?_
  exact ⟨_, rfl, Kd.R_nil _ _ _ _ _, below_set (below_set HB.out G4.out) G4.out⟩
set_option maxHeartbeats 1600000 in
set_option maxRecDepth 100000 in
theorem push_zero2 (k : Nat) (a0_0 : Int) (A0_1 : Option Addr) (c0_1 : Nat) (l0_1 : List ByteArray) (key : ByteArray) (w : World) (hr0_1 : Kd.C Kd.string w A0_1 l0_1.length l0_1) (hc0_1 : l0_1.length ≤ c0_1) (hm : ¬ a0_0 = 0)(h1 : impl_isKey.f key = some false) :
    Calls Try.prog 23 #[.agg #[.int .i64 a0_0, .slice A0_1 l0_1.length c0_1], .string key] w fun e w' => ∃ v1_ : Value, e = .returned (.tuple #[.agg #[.int .i64 0, v1_], .string ⟨#[]⟩, .bool false]) ∧ Kd.R Kd.string 9 w' w.heap.size (fun _ => True) v1_ [] ∧ Below w.heap.size w w' := by
  have hu26 := Try.underlying26
  have HR := Aside0.mk hr0_1
  have HC := Aside0.mk hc0_1
  clear hr0_1 hc0_1
  have HB := Aside0.mk (Below.refl w.heap.size w)
  have hmb : (a0_0 == 0) = false := beq_eq_false_iff_ne.2 hm
  have K1 := Aside0.mk h1
  clear h1
  go_enter Try.func23, Try.ntmps23
  go_wp2_with (first | ((with_reducible refine gate_dst (N := 2) rfl ?_); refine box_event ?hg (N := 2) ?hd (cs := #[.int .i64 a0_0, .slice A0_1 l0_1.length c0_1]) (t := 26) ?hr ?_; (case hd => rfl); (case hg => rfl); (case hr => first | (go_simp; done) | (go_simp; rfl)); intro g2 hg w3 hbox hb; have B2 := Aside0.mk hbox; have G2 := Aside0.mk (show w.heap.size ≤ g2 by rw [hg]; exact below_size HB.out); have n1_ := Aside0.mk (below_step HB.out hb); clear HB hbox hb hg; have HB := n1_; clear n1_) | ((with_reducible refine gate_dst (N := 4) rfl ?_); refine box_event ?hg (N := 4) ?hd (cs := #[.int .i64 0, .slice none 0 0]) (t := 26) ?hr ?_; (case hd => rfl); (case hg => rfl); (case hr => first | (go_simp; done) | (go_simp; rfl)); intro g4 hg w4 hbox hb; have B4 := Aside0.mk hbox; have G4 := Aside0.mk (show w.heap.size ≤ g4 by rw [hg]; exact below_size HB.out); have n0_ := Aside0.mk (blk_below B2.out hb); have n1_ := Aside0.mk (below_step HB.out hb); clear HB B2 hbox hb hg; have B2 := n0_; have HB := n1_; clear n0_ n1_; have hc2_0 : w4.cell? ⟨g2, 0, none⟩ = some (.int .i64 a0_0) := (blk_cell B2.out 0).trans rfl; have hf2_0 := blk_frozen B2.out 0; have hc2_1 : w4.cell? ⟨g2, 1, none⟩ = some (.slice A0_1 l0_1.length c0_1) := (blk_cell B2.out 1).trans rfl; have hf2_1 := blk_frozen B2.out 1; have hc4_0 : w4.cell? ⟨g4, 0, none⟩ = some (.int .i64 0) := (blk_cell B4.out 0).trans rfl; have hf4_0 := blk_frozen B4.out 0; have hc4_1 : w4.cell? ⟨g4, 1, none⟩ = some (.slice none 0 0) := (blk_cell B4.out 1).trans rfl; have hf4_1 := blk_frozen B4.out 1) | ((with_reducible refine gate_callee (f := 69) rfl ?_); (try (refine gate_guard (by rfl) ?_; dsimp only)); refine goesL_ (some 14) rfl rfl Try.func69 (by kernel_rfl) rfl #[.string key] rfl (by (try simp only [List.map_toArray, List.map_cons, List.map_nil]); first | done | rfl) ?_; (with_reducible refine Calls.mono (impl_isKey.calls key false _ K1.out) ?_); rintro e w5 ⟨rfl, hd⟩; refine ⟨_, rfl, ?_⟩; have hb := hd.below; clear hd; have n2_ := Aside0.mk (blk_below B2.out hb); have n4_ := Aside0.mk (blk_below B4.out hb); have nb_ := Aside0.mk (below_step HB.out hb); clear hc2_0 hf2_0 hc2_1 hf2_1 hc4_0 hf4_0 hc4_1 hf4_1; clear HB B2 B4 hb; have B2 := n2_; have B4 := n4_; have HB := nb_; clear nb_ n2_ n4_; have hc2_0 : w5.cell? ⟨g2, 0, none⟩ = some (.int .i64 a0_0) := (blk_cell B2.out 0).trans rfl; have hf2_0 := blk_frozen B2.out 0; have hc2_1 : w5.cell? ⟨g2, 1, none⟩ = some (.slice A0_1 l0_1.length c0_1) := (blk_cell B2.out 1).trans rfl; have hf2_1 := blk_frozen B2.out 1; have hc4_0 : w5.cell? ⟨g4, 0, none⟩ = some (.int .i64 0) := (blk_cell B4.out 0).trans rfl; have hf4_0 := blk_frozen B4.out 0; have hc4_1 : w5.cell? ⟨g4, 1, none⟩ = some (.slice none 0 0) := (blk_cell B4.out 1).trans rfl; have hf4_1 := blk_frozen B4.out 1))
  refine bodyPost_ret (results_ctt rfl _ _ g4 26 #[.int .i64 0, .slice none 0 0] (0, 0) _ rfl (by refine blk_put (cs := #[.int .i64 0, .slice none 0 0]) ?_ 1 _ rfl; refine blk_put (cs := #[.int .i64 0, .slice none 0 0]) ?_ 0 _ rfl; exact B4.out) Try.underlying26 rfl (by kernel_rfl)) rfl ?_
  exact ⟨_, rfl, Kd.R_nil _ _ _ _ _, below_set (below_set HB.out G4.out) G4.out⟩
set_option maxHeartbeats 1600000 in
set_option maxRecDepth 100000 in
theorem push_zero3 (k : Nat) (a0_0 : Int) (A0_1 : Option Addr) (c0_1 : Nat) (l0_1 : List ByteArray) (key : ByteArray) (w : World) (hr0_1 : Kd.C Kd.string w A0_1 l0_1.length l0_1) (hc0_1 : l0_1.length ≤ c0_1) (hm : ¬ a0_0 = 0)(h1 : impl_isKey.f key = some true)(h2 : impl_HasKey.f k a0_0 l0_1 key = some true) :
    Calls Try.prog 23 #[.agg #[.int .i64 a0_0, .slice A0_1 l0_1.length c0_1], .string key] w fun e w' => ∃ v1_ : Value, e = .returned (.tuple #[.agg #[.int .i64 0, v1_], .string ⟨#[]⟩, .bool false]) ∧ Kd.R Kd.string 9 w' w.heap.size (fun _ => True) v1_ [] ∧ Below w.heap.size w w' := by
  have hu26 := Try.underlying26
  have HR := Aside0.mk hr0_1
  have HC := Aside0.mk hc0_1
  clear hr0_1 hc0_1
  have HB := Aside0.mk (Below.refl w.heap.size w)
  have hmb : (a0_0 == 0) = false := beq_eq_false_iff_ne.2 hm
  have K1 := Aside0.mk h1
  have K2 := Aside0.mk h2
  clear h1 h2
  go_enter Try.func23, Try.ntmps23
  go_wp2_with (first | ((with_reducible refine gate_dst (N := 2) rfl ?_); refine box_event ?hg (N := 2) ?hd (cs := #[.int .i64 a0_0, .slice A0_1 l0_1.length c0_1]) (t := 26) ?hr ?_; (case hd => rfl); (case hg => rfl); (case hr => first | (go_simp; done) | (go_simp; rfl)); intro g2 hg w3 hbox hb; have B2 := Aside0.mk hbox; have G2 := Aside0.mk (show w.heap.size ≤ g2 by rw [hg]; exact below_size HB.out); have n1_ := Aside0.mk (below_step HB.out hb); clear HB hbox hb hg; have HB := n1_; clear n1_) | ((with_reducible refine gate_dst (N := 4) rfl ?_); refine box_event ?hg (N := 4) ?hd (cs := #[.int .i64 0, .slice none 0 0]) (t := 26) ?hr ?_; (case hd => rfl); (case hg => rfl); (case hr => first | (go_simp; done) | (go_simp; rfl)); intro g4 hg w4 hbox hb; have B4 := Aside0.mk hbox; have G4 := Aside0.mk (show w.heap.size ≤ g4 by rw [hg]; exact below_size HB.out); have n0_ := Aside0.mk (blk_below B2.out hb); have n1_ := Aside0.mk (below_step HB.out hb); clear HB B2 hbox hb hg; have B2 := n0_; have HB := n1_; clear n0_ n1_; have hc2_0 : w4.cell? ⟨g2, 0, none⟩ = some (.int .i64 a0_0) := (blk_cell B2.out 0).trans rfl; have hf2_0 := blk_frozen B2.out 0; have hc2_1 : w4.cell? ⟨g2, 1, none⟩ = some (.slice A0_1 l0_1.length c0_1) := (blk_cell B2.out 1).trans rfl; have hf2_1 := blk_frozen B2.out 1; have hc4_0 : w4.cell? ⟨g4, 0, none⟩ = some (.int .i64 0) := (blk_cell B4.out 0).trans rfl; have hf4_0 := blk_frozen B4.out 0; have hc4_1 : w4.cell? ⟨g4, 1, none⟩ = some (.slice none 0 0) := (blk_cell B4.out 1).trans rfl; have hf4_1 := blk_frozen B4.out 1) | ((with_reducible refine gate_callee (f := 69) rfl ?_); (try (refine gate_guard (by rfl) ?_; dsimp only)); refine goesL_ (some 14) rfl rfl Try.func69 (by kernel_rfl) rfl #[.string key] rfl (by (try simp only [List.map_toArray, List.map_cons, List.map_nil]); first | done | rfl) ?_; (with_reducible refine Calls.mono (impl_isKey.calls key true _ K1.out) ?_); rintro e w5 ⟨rfl, hd⟩; refine ⟨_, rfl, ?_⟩; have hb := hd.below; clear hd; have n2_ := Aside0.mk (blk_below B2.out hb); have n4_ := Aside0.mk (blk_below B4.out hb); have nb_ := Aside0.mk (below_step HB.out hb); clear hc2_0 hf2_0 hc2_1 hf2_1 hc4_0 hf4_0 hc4_1 hf4_1; clear HB B2 B4 hb; have B2 := n2_; have B4 := n4_; have HB := nb_; clear nb_ n2_ n4_; have hc2_0 : w5.cell? ⟨g2, 0, none⟩ = some (.int .i64 a0_0) := (blk_cell B2.out 0).trans rfl; have hf2_0 := blk_frozen B2.out 0; have hc2_1 : w5.cell? ⟨g2, 1, none⟩ = some (.slice A0_1 l0_1.length c0_1) := (blk_cell B2.out 1).trans rfl; have hf2_1 := blk_frozen B2.out 1; have hc4_0 : w5.cell? ⟨g4, 0, none⟩ = some (.int .i64 0) := (blk_cell B4.out 0).trans rfl; have hf4_0 := blk_frozen B4.out 0; have hc4_1 : w5.cell? ⟨g4, 1, none⟩ = some (.slice none 0 0) := (blk_cell B4.out 1).trans rfl; have hf4_1 := blk_frozen B4.out 1) | ((with_reducible refine gate_callee (f := 70) rfl ?_); (try (refine gate_guard (by rfl) ?_; dsimp only)); refine goesL_ (some 20) rfl rfl Try.func70 (by kernel_rfl) rfl #[.agg #[.int .i64 a0_0, .slice A0_1 l0_1.length c0_1], .string key] rfl (by (try simp only [List.map_toArray, List.map_cons, List.map_nil]); first | done | rfl) ?_; (with_reducible refine Calls.mono (impl_HasKey.calls k a0_0 _ _ l0_1 key true _ ?side1 ?side2 K2.out) ?_); (case side1 => exact Kd.C_below HR.out HB.out); (case side2 => exact HC.out); rintro e w6 ⟨rfl, hb⟩; refine ⟨_, rfl, ?_⟩; have n2_ := Aside0.mk (blk_below B2.out hb); have n4_ := Aside0.mk (blk_below B4.out hb); have nb_ := Aside0.mk (below_step HB.out hb); clear hc2_0 hf2_0 hc2_1 hf2_1 hc4_0 hf4_0 hc4_1 hf4_1; clear HB B2 B4 hb; have B2 := n2_; have B4 := n4_; have HB := nb_; clear nb_ n2_ n4_; have hc2_0 : w6.cell? ⟨g2, 0, none⟩ = some (.int .i64 a0_0) := (blk_cell B2.out 0).trans rfl; have hf2_0 := blk_frozen B2.out 0; have hc2_1 : w6.cell? ⟨g2, 1, none⟩ = some (.slice A0_1 l0_1.length c0_1) := (blk_cell B2.out 1).trans rfl; have hf2_1 := blk_frozen B2.out 1; have hc4_0 : w6.cell? ⟨g4, 0, none⟩ = some (.int .i64 0) := (blk_cell B4.out 0).trans rfl; have hf4_0 := blk_frozen B4.out 0; have hc4_1 : w6.cell? ⟨g4, 1, none⟩ = some (.slice none 0 0) := (blk_cell B4.out 1).trans rfl; have hf4_1 := blk_frozen B4.out 1))
  refine bodyPost_ret (results_ctt rfl _ _ g4 26 #[.int .i64 0, .slice none 0 0] (0, 0) _ rfl (by refine blk_put (cs := #[.int .i64 0, .slice none 0 0]) ?_ 1 _ rfl; refine blk_put (cs := #[.int .i64 0, .slice none 0 0]) ?_ 0 _ rfl; exact B4.out) Try.underlying26 rfl (by kernel_rfl)) rfl ?_
  exact ⟨_, rfl, Kd.R_nil _ _ _ _ _, below_set (below_set HB.out G4.out) G4.out⟩
set_option maxHeartbeats 1600000 in
set_option maxRecDepth 100000 in
theorem push_zero4 (k : Nat) (a0_0 : Int) (A0_1 : Option Addr) (c0_1 : Nat) (l0_1 : List ByteArray) (key : ByteArray) (w : World) (hr0_1 : Kd.C Kd.string w A0_1 l0_1.length l0_1) (hc0_1 : l0_1.length ≤ c0_1) (hm : ¬ a0_0 = 0)(h1 : impl_isKey.f key = some true)(h2 : impl_HasKey.f k a0_0 l0_1 key = some false)(h3 : impl_QueueOk.f k a0_0 l0_1 = some false) :
    Calls Try.prog 23 #[.agg #[.int .i64 a0_0, .slice A0_1 l0_1.length c0_1], .string key] w fun e w' => ∃ v1_ : Value, e = .returned (.tuple #[.agg #[.int .i64 0, v1_], .string ⟨#[]⟩, .bool false]) ∧ Kd.R Kd.string 9 w' w.heap.size (fun _ => True) v1_ [] ∧ Below w.heap.size w w' := by
  have hu26 := Try.underlying26
  have HR := Aside0.mk hr0_1
  have HC := Aside0.mk hc0_1
  clear hr0_1 hc0_1
  have HB := Aside0.mk (Below.refl w.heap.size w)
  have hmb : (a0_0 == 0) = false := beq_eq_false_iff_ne.2 hm
  have K1 := Aside0.mk h1
  have K2 := Aside0.mk h2
  have K3 := Aside0.mk h3
  clear h1 h2 h3
  go_enter Try.func23, Try.ntmps23
  go_wp2_with (first | ((with_reducible refine gate_dst (N := 2) rfl ?_); refine box_event ?hg (N := 2) ?hd (cs := #[.int .i64 a0_0, .slice A0_1 l0_1.length c0_1]) (t := 26) ?hr ?_; (case hd => rfl); (case hg => rfl); (case hr => first | (go_simp; done) | (go_simp; rfl)); intro g2 hg w3 hbox hb; have B2 := Aside0.mk hbox; have G2 := Aside0.mk (show w.heap.size ≤ g2 by rw [hg]; exact below_size HB.out); have n1_ := Aside0.mk (below_step HB.out hb); clear HB hbox hb hg; have HB := n1_; clear n1_) | ((with_reducible refine gate_dst (N := 4) rfl ?_); refine box_event ?hg (N := 4) ?hd (cs := #[.int .i64 0, .slice none 0 0]) (t := 26) ?hr ?_; (case hd => rfl); (case hg => rfl); (case hr => first | (go_simp; done) | (go_simp; rfl)); intro g4 hg w4 hbox hb; have B4 := Aside0.mk hbox; have G4 := Aside0.mk (show w.heap.size ≤ g4 by rw [hg]; exact below_size HB.out); have n0_ := Aside0.mk (blk_below B2.out hb); have n1_ := Aside0.mk (below_step HB.out hb); clear HB B2 hbox hb hg; have B2 := n0_; have HB := n1_; clear n0_ n1_; have hc2_0 : w4.cell? ⟨g2, 0, none⟩ = some (.int .i64 a0_0) := (blk_cell B2.out 0).trans rfl; have hf2_0 := blk_frozen B2.out 0; have hc2_1 : w4.cell? ⟨g2, 1, none⟩ = some (.slice A0_1 l0_1.length c0_1) := (blk_cell B2.out 1).trans rfl; have hf2_1 := blk_frozen B2.out 1; have hc4_0 : w4.cell? ⟨g4, 0, none⟩ = some (.int .i64 0) := (blk_cell B4.out 0).trans rfl; have hf4_0 := blk_frozen B4.out 0; have hc4_1 : w4.cell? ⟨g4, 1, none⟩ = some (.slice none 0 0) := (blk_cell B4.out 1).trans rfl; have hf4_1 := blk_frozen B4.out 1) | ((with_reducible refine gate_callee (f := 69) rfl ?_); (try (refine gate_guard (by rfl) ?_; dsimp only)); refine goesL_ (some 14) rfl rfl Try.func69 (by kernel_rfl) rfl #[.string key] rfl (by (try simp only [List.map_toArray, List.map_cons, List.map_nil]); first | done | rfl) ?_; (with_reducible refine Calls.mono (impl_isKey.calls key true _ K1.out) ?_); rintro e w5 ⟨rfl, hd⟩; refine ⟨_, rfl, ?_⟩; have hb := hd.below; clear hd; have n2_ := Aside0.mk (blk_below B2.out hb); have n4_ := Aside0.mk (blk_below B4.out hb); have nb_ := Aside0.mk (below_step HB.out hb); clear hc2_0 hf2_0 hc2_1 hf2_1 hc4_0 hf4_0 hc4_1 hf4_1; clear HB B2 B4 hb; have B2 := n2_; have B4 := n4_; have HB := nb_; clear nb_ n2_ n4_; have hc2_0 : w5.cell? ⟨g2, 0, none⟩ = some (.int .i64 a0_0) := (blk_cell B2.out 0).trans rfl; have hf2_0 := blk_frozen B2.out 0; have hc2_1 : w5.cell? ⟨g2, 1, none⟩ = some (.slice A0_1 l0_1.length c0_1) := (blk_cell B2.out 1).trans rfl; have hf2_1 := blk_frozen B2.out 1; have hc4_0 : w5.cell? ⟨g4, 0, none⟩ = some (.int .i64 0) := (blk_cell B4.out 0).trans rfl; have hf4_0 := blk_frozen B4.out 0; have hc4_1 : w5.cell? ⟨g4, 1, none⟩ = some (.slice none 0 0) := (blk_cell B4.out 1).trans rfl; have hf4_1 := blk_frozen B4.out 1) | ((with_reducible refine gate_callee (f := 70) rfl ?_); (try (refine gate_guard (by rfl) ?_; dsimp only)); refine goesL_ (some 20) rfl rfl Try.func70 (by kernel_rfl) rfl #[.agg #[.int .i64 a0_0, .slice A0_1 l0_1.length c0_1], .string key] rfl (by (try simp only [List.map_toArray, List.map_cons, List.map_nil]); first | done | rfl) ?_; (with_reducible refine Calls.mono (impl_HasKey.calls k a0_0 _ _ l0_1 key false _ ?side1 ?side2 K2.out) ?_); (case side1 => exact Kd.C_below HR.out HB.out); (case side2 => exact HC.out); rintro e w6 ⟨rfl, hb⟩; refine ⟨_, rfl, ?_⟩; have n2_ := Aside0.mk (blk_below B2.out hb); have n4_ := Aside0.mk (blk_below B4.out hb); have nb_ := Aside0.mk (below_step HB.out hb); clear hc2_0 hf2_0 hc2_1 hf2_1 hc4_0 hf4_0 hc4_1 hf4_1; clear HB B2 B4 hb; have B2 := n2_; have B4 := n4_; have HB := nb_; clear nb_ n2_ n4_; have hc2_0 : w6.cell? ⟨g2, 0, none⟩ = some (.int .i64 a0_0) := (blk_cell B2.out 0).trans rfl; have hf2_0 := blk_frozen B2.out 0; have hc2_1 : w6.cell? ⟨g2, 1, none⟩ = some (.slice A0_1 l0_1.length c0_1) := (blk_cell B2.out 1).trans rfl; have hf2_1 := blk_frozen B2.out 1; have hc4_0 : w6.cell? ⟨g4, 0, none⟩ = some (.int .i64 0) := (blk_cell B4.out 0).trans rfl; have hf4_0 := blk_frozen B4.out 0; have hc4_1 : w6.cell? ⟨g4, 1, none⟩ = some (.slice none 0 0) := (blk_cell B4.out 1).trans rfl; have hf4_1 := blk_frozen B4.out 1) | ((with_reducible refine gate_callee (f := 28) rfl ?_); (try (refine gate_guard (by rfl) ?_; dsimp only)); refine goesL_ (some 24) rfl rfl Try.func28 (by kernel_rfl) rfl #[.agg #[.int .i64 a0_0, .slice A0_1 l0_1.length c0_1]] rfl (by (try simp only [List.map_toArray, List.map_cons, List.map_nil]); first | done | rfl) ?_; (with_reducible refine Calls.mono (impl_QueueOk.calls k a0_0 _ _ l0_1 false _ ?side1 ?side2 K3.out) ?_); (case side1 => exact Kd.C_below HR.out HB.out); (case side2 => exact HC.out); rintro e w7 ⟨rfl, hb⟩; refine ⟨_, rfl, ?_⟩; have n2_ := Aside0.mk (blk_below B2.out hb); have n4_ := Aside0.mk (blk_below B4.out hb); have nb_ := Aside0.mk (below_step HB.out hb); clear hc2_0 hf2_0 hc2_1 hf2_1 hc4_0 hf4_0 hc4_1 hf4_1; clear HB B2 B4 hb; have B2 := n2_; have B4 := n4_; have HB := nb_; clear nb_ n2_ n4_; have hc2_0 : w7.cell? ⟨g2, 0, none⟩ = some (.int .i64 a0_0) := (blk_cell B2.out 0).trans rfl; have hf2_0 := blk_frozen B2.out 0; have hc2_1 : w7.cell? ⟨g2, 1, none⟩ = some (.slice A0_1 l0_1.length c0_1) := (blk_cell B2.out 1).trans rfl; have hf2_1 := blk_frozen B2.out 1; have hc4_0 : w7.cell? ⟨g4, 0, none⟩ = some (.int .i64 0) := (blk_cell B4.out 0).trans rfl; have hf4_0 := blk_frozen B4.out 0; have hc4_1 : w7.cell? ⟨g4, 1, none⟩ = some (.slice none 0 0) := (blk_cell B4.out 1).trans rfl; have hf4_1 := blk_frozen B4.out 1))
  refine bodyPost_ret (results_ctt rfl _ _ g4 26 #[.int .i64 0, .slice none 0 0] (0, 0) _ rfl (by refine blk_put (cs := #[.int .i64 0, .slice none 0 0]) ?_ 1 _ rfl; refine blk_put (cs := #[.int .i64 0, .slice none 0 0]) ?_ 0 _ rfl; exact B4.out) Try.underlying26 rfl (by kernel_rfl)) rfl ?_
  exact ⟨_, rfl, Kd.R_nil _ _ _ _ _, below_set (below_set HB.out G4.out) G4.out⟩
set_option maxHeartbeats 1600000 in
set_option maxRecDepth 100000 in
theorem push_main (k : Nat) (a0_0 : Int) (A0_1 : Option Addr) (c0_1 : Nat) (l0_1 : List ByteArray) (key : ByteArray) (w : World) (hr0_1 : Kd.C Kd.string w A0_1 l0_1.length l0_1) (hc0_1 : l0_1.length ≤ c0_1) (hm : ¬ a0_0 = 0)(h1 : impl_isKey.f key = some true)(h2 : impl_HasKey.f k a0_0 l0_1 key = some false)(h3 : impl_QueueOk.f k a0_0 l0_1 = some true) (tn : Int) (tl : List ByteArray) (h4 : impl_copyQueue.f a0_0 l0_1 = some (tn, tl)) (hx : tl.length ≤ 1048575) (rs : ByteArray) (rl : List ByteArray) (hrs : rs = if (tl.length : Int) < tn then ⟨#[]⟩ else (key :: tl).getD tl.length ByteArray.empty) (hrl : rl = if (tl.length : Int) < tn then key :: tl else (key :: tl).take tl.length) (un : Int) (ul : List ByteArray) (h5 : impl_copyQueue.f tn rl = some (un, ul)) :
    Calls Try.prog 23 #[.agg #[.int .i64 a0_0, .slice A0_1 l0_1.length c0_1], .string key] w fun e w' => ∃ v1_ : Value, e = .returned (.tuple #[.agg #[.int .i64 un, v1_], .string rs, .bool true]) ∧ Kd.R Kd.string 9 w' w.heap.size (fun _ => True) v1_ ul ∧ Below w.heap.size w w' := by
  have hu26 := Try.underlying26
  have HR := Aside0.mk hr0_1
  have HC := Aside0.mk hc0_1
  have HX := Aside0.mk hx
  have HRS := Aside0.mk hrs
  have HRL := Aside0.mk hrl
  clear hr0_1 hc0_1 hx hrs hrl
  have HB := Aside0.mk (Below.refl w.heap.size w)
  have hmb : (a0_0 == 0) = false := beq_eq_false_iff_ne.2 hm
  have K1 := Aside0.mk h1
  have K2 := Aside0.mk h2
  have K3 := Aside0.mk h3
  have K4 := Aside0.mk h4
  have K5 := Aside0.mk h5
  clear h1 h2 h3 h4 h5
  go_enter Try.func23, Try.ntmps23
  go_wp2_with (first | ((with_reducible refine gate_dst (N := 2) rfl ?_); refine box_event ?hg (N := 2) ?hd (cs := #[.int .i64 a0_0, .slice A0_1 l0_1.length c0_1]) (t := 26) ?hr ?_; (case hd => rfl); (case hg => rfl); (case hr => first | (go_simp; done) | (go_simp; rfl)); intro g2 hg w3 hbox hb; have B2 := Aside0.mk hbox; have G2 := Aside0.mk (show w.heap.size ≤ g2 by rw [hg]; exact below_size HB.out); have n1_ := Aside0.mk (below_step HB.out hb); clear HB hbox hb hg; have HB := n1_; clear n1_) | ((with_reducible refine gate_dst (N := 4) rfl ?_); refine box_event ?hg (N := 4) ?hd (cs := #[.int .i64 0, .slice none 0 0]) (t := 26) ?hr ?_; (case hd => rfl); (case hg => rfl); (case hr => first | (go_simp; done) | (go_simp; rfl)); intro g4 hg w4 hbox hb; have B4 := Aside0.mk hbox; have G4 := Aside0.mk (show w.heap.size ≤ g4 by rw [hg]; exact below_size HB.out); have n0_ := Aside0.mk (blk_below B2.out hb); have n1_ := Aside0.mk (below_step HB.out hb); clear HB B2 hbox hb hg; have B2 := n0_; have HB := n1_; clear n0_ n1_; have hc2_0 : w4.cell? ⟨g2, 0, none⟩ = some (.int .i64 a0_0) := (blk_cell B2.out 0).trans rfl; have hf2_0 := blk_frozen B2.out 0; have hc2_1 : w4.cell? ⟨g2, 1, none⟩ = some (.slice A0_1 l0_1.length c0_1) := (blk_cell B2.out 1).trans rfl; have hf2_1 := blk_frozen B2.out 1; have hc4_0 : w4.cell? ⟨g4, 0, none⟩ = some (.int .i64 0) := (blk_cell B4.out 0).trans rfl; have hf4_0 := blk_frozen B4.out 0; have hc4_1 : w4.cell? ⟨g4, 1, none⟩ = some (.slice none 0 0) := (blk_cell B4.out 1).trans rfl; have hf4_1 := blk_frozen B4.out 1) | ((with_reducible refine gate_callee (f := 69) rfl ?_); (try (refine gate_guard (by rfl) ?_; dsimp only)); refine goesL_ (some 14) rfl rfl Try.func69 (by kernel_rfl) rfl #[.string key] rfl (by (try simp only [List.map_toArray, List.map_cons, List.map_nil]); first | done | rfl) ?_; (with_reducible refine Calls.mono (impl_isKey.calls key true _ K1.out) ?_); rintro e w5 ⟨rfl, hd⟩; refine ⟨_, rfl, ?_⟩; have hb := hd.below; clear hd; have n2_ := Aside0.mk (blk_below B2.out hb); have n4_ := Aside0.mk (blk_below B4.out hb); have nb_ := Aside0.mk (below_step HB.out hb); clear hc2_0 hf2_0 hc2_1 hf2_1 hc4_0 hf4_0 hc4_1 hf4_1; clear HB B2 B4 hb; have B2 := n2_; have B4 := n4_; have HB := nb_; clear nb_ n2_ n4_; have hc2_0 : w5.cell? ⟨g2, 0, none⟩ = some (.int .i64 a0_0) := (blk_cell B2.out 0).trans rfl; have hf2_0 := blk_frozen B2.out 0; have hc2_1 : w5.cell? ⟨g2, 1, none⟩ = some (.slice A0_1 l0_1.length c0_1) := (blk_cell B2.out 1).trans rfl; have hf2_1 := blk_frozen B2.out 1; have hc4_0 : w5.cell? ⟨g4, 0, none⟩ = some (.int .i64 0) := (blk_cell B4.out 0).trans rfl; have hf4_0 := blk_frozen B4.out 0; have hc4_1 : w5.cell? ⟨g4, 1, none⟩ = some (.slice none 0 0) := (blk_cell B4.out 1).trans rfl; have hf4_1 := blk_frozen B4.out 1) | ((with_reducible refine gate_callee (f := 70) rfl ?_); (try (refine gate_guard (by rfl) ?_; dsimp only)); refine goesL_ (some 20) rfl rfl Try.func70 (by kernel_rfl) rfl #[.agg #[.int .i64 a0_0, .slice A0_1 l0_1.length c0_1], .string key] rfl (by (try simp only [List.map_toArray, List.map_cons, List.map_nil]); first | done | rfl) ?_; (with_reducible refine Calls.mono (impl_HasKey.calls k a0_0 _ _ l0_1 key false _ ?side1 ?side2 K2.out) ?_); (case side1 => exact Kd.C_below HR.out HB.out); (case side2 => exact HC.out); rintro e w6 ⟨rfl, hb⟩; refine ⟨_, rfl, ?_⟩; have n2_ := Aside0.mk (blk_below B2.out hb); have n4_ := Aside0.mk (blk_below B4.out hb); have nb_ := Aside0.mk (below_step HB.out hb); clear hc2_0 hf2_0 hc2_1 hf2_1 hc4_0 hf4_0 hc4_1 hf4_1; clear HB B2 B4 hb; have B2 := n2_; have B4 := n4_; have HB := nb_; clear nb_ n2_ n4_; have hc2_0 : w6.cell? ⟨g2, 0, none⟩ = some (.int .i64 a0_0) := (blk_cell B2.out 0).trans rfl; have hf2_0 := blk_frozen B2.out 0; have hc2_1 : w6.cell? ⟨g2, 1, none⟩ = some (.slice A0_1 l0_1.length c0_1) := (blk_cell B2.out 1).trans rfl; have hf2_1 := blk_frozen B2.out 1; have hc4_0 : w6.cell? ⟨g4, 0, none⟩ = some (.int .i64 0) := (blk_cell B4.out 0).trans rfl; have hf4_0 := blk_frozen B4.out 0; have hc4_1 : w6.cell? ⟨g4, 1, none⟩ = some (.slice none 0 0) := (blk_cell B4.out 1).trans rfl; have hf4_1 := blk_frozen B4.out 1) | ((with_reducible refine gate_callee (f := 28) rfl ?_); (try (refine gate_guard (by rfl) ?_; dsimp only)); refine goesL_ (some 24) rfl rfl Try.func28 (by kernel_rfl) rfl #[.agg #[.int .i64 a0_0, .slice A0_1 l0_1.length c0_1]] rfl (by (try simp only [List.map_toArray, List.map_cons, List.map_nil]); first | done | rfl) ?_; (with_reducible refine Calls.mono (impl_QueueOk.calls k a0_0 _ _ l0_1 true _ ?side1 ?side2 K3.out) ?_); (case side1 => exact Kd.C_below HR.out HB.out); (case side2 => exact HC.out); rintro e w7 ⟨rfl, hb⟩; refine ⟨_, rfl, ?_⟩; have n2_ := Aside0.mk (blk_below B2.out hb); have n4_ := Aside0.mk (blk_below B4.out hb); have nb_ := Aside0.mk (below_step HB.out hb); clear hc2_0 hf2_0 hc2_1 hf2_1 hc4_0 hf4_0 hc4_1 hf4_1; clear HB B2 B4 hb; have B2 := n2_; have B4 := n4_; have HB := nb_; clear nb_ n2_ n4_; have hc2_0 : w7.cell? ⟨g2, 0, none⟩ = some (.int .i64 a0_0) := (blk_cell B2.out 0).trans rfl; have hf2_0 := blk_frozen B2.out 0; have hc2_1 : w7.cell? ⟨g2, 1, none⟩ = some (.slice A0_1 l0_1.length c0_1) := (blk_cell B2.out 1).trans rfl; have hf2_1 := blk_frozen B2.out 1; have hc4_0 : w7.cell? ⟨g4, 0, none⟩ = some (.int .i64 0) := (blk_cell B4.out 0).trans rfl; have hf4_0 := blk_frozen B4.out 0; have hc4_1 : w7.cell? ⟨g4, 1, none⟩ = some (.slice none 0 0) := (blk_cell B4.out 1).trans rfl; have hf4_1 := blk_frozen B4.out 1) | ((with_reducible refine gate_callee (f := 62) rfl ?_); (try (refine gate_guard (by rfl) ?_; dsimp only)); refine goesL_ (some 29) rfl rfl Try.func62 (by kernel_rfl) rfl #[.agg #[.int .i64 a0_0, .slice A0_1 l0_1.length c0_1]] rfl (by (try simp only [List.map_toArray, List.map_cons, List.map_nil]); first | done | rfl) ?_; (with_reducible refine Calls.mono (impl_copyQueue.calls a0_0 _ _ l0_1 tn tl _ ?side1 ?side2 K4.out) ?_); (case side1 => exact Kd.C_below HR.out HB.out); (case side2 => exact HC.out); rintro e w8 ⟨v8, rfl, ho0, hb⟩; refine ⟨_, rfl, ?_⟩; have HO := Aside0.mk (Kd.R_lower ho0 (below_size HB.out)); clear ho0; have n2_ := Aside0.mk (blk_below B2.out hb); have n4_ := Aside0.mk (blk_below B4.out hb); have nb_ := Aside0.mk (below_step HB.out hb); clear hc2_0 hf2_0 hc2_1 hf2_1 hc4_0 hf4_0 hc4_1 hf4_1; clear HB B2 B4 hb; have B2 := n2_; have B4 := n4_; have HB := nb_; clear nb_ n2_ n4_; have hc2_0 : w8.cell? ⟨g2, 0, none⟩ = some (.int .i64 a0_0) := (blk_cell B2.out 0).trans rfl; have hf2_0 := blk_frozen B2.out 0; have hc2_1 : w8.cell? ⟨g2, 1, none⟩ = some (.slice A0_1 l0_1.length c0_1) := (blk_cell B2.out 1).trans rfl; have hf2_1 := blk_frozen B2.out 1; have hc4_0 : w8.cell? ⟨g4, 0, none⟩ = some (.int .i64 0) := (blk_cell B4.out 0).trans rfl; have hf4_0 := blk_frozen B4.out 0; have hc4_1 : w8.cell? ⟨g4, 1, none⟩ = some (.slice none 0 0) := (blk_cell B4.out 1).trans rfl; have hf4_1 := blk_frozen B4.out 1; obtain ⟨Ao, co, eo⟩ := Kd.R_slice HO.out; subst eo) | ((with_reducible refine gate_dst (N := 7) rfl ?_); refine box_event ?hg (N := 7) ?hd (cs := #[.int .i64 0, .slice none 0 0]) (t := 26) ?hr ?_; (case hd => rfl); (case hg => rfl); (case hr => first | (go_simp; done) | (go_simp; rfl)); intro g7 hg w9 hbox hb; have B7 := Aside0.mk hbox; have G7 := Aside0.mk (show w.heap.size ≤ g7 by rw [hg]; exact below_size HB.out); have N47 := Aside0.mk (show g4 ≠ g7 by rw [hg]; exact Nat.ne_of_lt (blk_lt B4.out)); have n0_ := Aside0.mk (blk_below B4.out hb); have n1_ := Aside0.mk (below_step HB.out hb); have n3_ := Aside0.mk (Kd.R_below HO.out hb); clear hc2_0 hf2_0 hc2_1 hf2_1 hc4_0 hf4_0 hc4_1 hf4_1; clear HB B2 B4 HO hbox hb hg; have B4 := n0_; have HB := n1_; have HO := n3_; clear n0_ n1_ n3_; have hc7_0 : w9.cell? ⟨g7, 0, none⟩ = some (.int .i64 0) := (blk_cell B7.out 0).trans rfl; have hf7_0 := blk_frozen B7.out 0; have hc7_1 : w9.cell? ⟨g7, 1, none⟩ = some (.slice none 0 0) := (blk_cell B7.out 1).trans rfl; have hf7_1 := blk_frozen B7.out 1) | ((with_reducible refine gate_callee (f := 71) rfl ?_); (try (refine gate_guard (by rfl) ?_; dsimp only)); have n0_ := Aside0.mk (blk_far (blk_far B4.out (p := ⟨g7, 0, none⟩) N47.out (.int .i64 tn)) (p := ⟨g7, 1, none⟩) N47.out (.slice Ao tl.length co)); have n2_ := Aside0.mk (blk_put (cs' := #[.int .i64 tn, .slice Ao tl.length co]) (blk_put (cs' := #[.int .i64 tn, .slice none 0 0]) B7.out 0 (.int .i64 tn) rfl) 1 (.slice Ao tl.length co) rfl); have n1_ := Aside0.mk (below_set (j := 1) (v := .slice Ao tl.length co) (below_set (j := 0) (v := .int .i64 tn) HB.out G7.out) G7.out); have n3_ := Aside0.mk (Kd.R_far (p := ⟨g7, 1, none⟩) (Kd.R_far (p := ⟨g7, 0, none⟩) (Kd.R_types (Kd.R_types HO.out B7.out (by decide)) B4.out (by decide)) (fun _ hk => hk.1.2) (.int .i64 tn)) (fun _ hk => hk.1.2) (.slice Ao tl.length co)); clear hc7_0 hf7_0 hc7_1 hf7_1; clear HB B4 B7 HO; have B4 := n0_; have B7 := n2_; have HB := n1_; have HO := n3_; clear n0_ n1_ n2_ n3_; refine goesL_ (some 31) rfl rfl Try.func71 (by kernel_rfl) rfl #[.pointer (some ⟨g7, 0, none⟩), .string key] rfl (by (try simp only [List.map_toArray, List.map_cons, List.map_nil]); first | done | rfl) ?_; (with_reducible refine Calls.mono (push_calls g7 0 26 #[.int .i64 tn, .slice Ao tl.length co] (.slice Ao tl.length co) tl key tn (fun k => (True ∧ k ≠ g7) ∧ k ≠ g4) w _ HX.out HB.out B7.out rfl rfl G7.out HO.out (fun _ hk => hk.1.2) (fun n hn => ⟨⟨trivial, by have := blk_lt B7.out; omega⟩, by have := blk_lt B4.out; omega⟩) rs rl HRS.out HRL.out) ?_); rintro e w10 ⟨rfl, u', ho0, hb7, hb, hkp⟩; refine ⟨_, rfl, ?_⟩; have N4 := Aside0.mk (show ¬ (some g4 = (Value.slice Ao tl.length co).ownBlock ∨ g4 = g7) from by rintro (e | e) <;> first | exact Kd.R_ne HO.out B4.out (by decide) e | exact N47.out e); have n0_ := Aside0.mk (blk_kept B4.out hkp N4.out); have n1_ := Aside0.mk hb; have n2_ := Aside0.mk hb7; have n3_ := Aside0.mk ho0; clear HB B4 B7 HO hb hb7 hkp ho0; have B4 := n0_; have B7 := n2_; have HB := n1_; have HO := n3_; clear n0_ n1_ n2_ n3_; obtain ⟨Ap, cp, ep⟩ := Kd.R_slice HO.out; subst ep; have hc7_0 : w10.cell? ⟨g7, 0, none⟩ = some (.int .i64 tn) := (blk_cell B7.out 0).trans rfl; have hf7_0 := blk_frozen B7.out 0; have hc7_1 : w10.cell? ⟨g7, 1, none⟩ = some (.slice Ap rl.length cp) := (blk_cell B7.out 1).trans rfl; have hf7_1 := blk_frozen B7.out 1) | ((with_reducible refine gate_callee (f := 62) rfl ?_); refine goesL_ (some 33) rfl rfl Try.func62 (by kernel_rfl) rfl #[.agg #[.int .i64 tn, .slice Ap rl.length cp]] rfl (by (try simp only [List.map_toArray, List.map_cons, List.map_nil]); first | done | rfl) ?_; (with_reducible refine Calls.mono (impl_copyQueue.calls tn _ _ rl un ul _ ?side1 ?side2 K5.out) ?_); (case side1 => exact (Kd.R_reads' HO.out).2.2); (case side2 => exact (Kd.R_reads' HO.out).2.1); rintro e w11 ⟨v11, rfl, ho0, hb⟩; refine ⟨_, rfl, ?_⟩; have HO2 := Aside0.mk (Kd.R_lower ho0 (below_size HB.out)); have n0_ := Aside0.mk (blk_below B4.out hb); have n1_ := Aside0.mk (below_step HB.out hb); clear HB B4 B7 HO hb ho0 hc7_0 hc7_1 hf7_0 hf7_1; have B4 := n0_; have HB := n1_; clear n0_ n1_; obtain ⟨Aq, cq, eq⟩ := Kd.R_slice HO2.out; subst eq; have hc4_0 : w11.cell? ⟨g4, 0, none⟩ = some (.int .i64 0) := (blk_cell B4.out 0).trans rfl; have hf4_0 := blk_frozen B4.out 0; have hc4_1 : w11.cell? ⟨g4, 1, none⟩ = some (.slice none 0 0) := (blk_cell B4.out 1).trans rfl; have hf4_1 := blk_frozen B4.out 1))
  refine bodyPost_ret (results_ctt rfl _ _ g4 26 #[.int .i64 un, .slice Aq ul.length cq] (0, 0) _ rfl (by refine blk_put (cs := #[.int .i64 un, .slice none 0 0]) ?_ 1 _ rfl; refine blk_put (cs := #[.int .i64 0, .slice none 0 0]) ?_ 0 _ rfl; exact B4.out) Try.underlying26 rfl (by kernel_rfl)) rfl ?_
  exact ⟨_, rfl, Kd.R_mono (Kd.R_far (p := ⟨g4, 1, none⟩) (Kd.R_far (p := ⟨g4, 0, none⟩) (Kd.R_types HO2.out B4.out (by decide)) (fun _ hk => hk.2) _) (fun _ hk => hk.2) _) (fun _ _ => trivial), below_set (below_set HB.out G4.out) G4.out⟩
def impl_Push.f (k : Nat) (m : Int) (l : List ByteArray) (key : ByteArray) : Option (Int × List ByteArray × ByteArray × Bool) :=
  if m = 0 then some (0, [], ⟨#[]⟩, false) else (impl_isKey.f key).bind fun a => if a = true then ((impl_HasKey.f k m l key).bind fun b => if b = true then some (0, [], ⟨#[]⟩, false) else ((impl_QueueOk.f k m l).bind fun c => if c = true then ((impl_copyQueue.f m l).bind fun t => if t.2.length ≤ 1048575 then ((impl_copyQueue.f t.1 (if (t.2.length : Int) < t.1 then key :: t.2 else (key :: t.2).take t.2.length)).bind fun u => some (u.1, u.2, (if (t.2.length : Int) < t.1 then ⟨#[]⟩ else (key :: t.2).getD t.2.length ByteArray.empty), true)) else none) else some (0, [], ⟨#[]⟩, false))) else some (0, [], ⟨#[]⟩, false)
theorem impl_Push.mono : ∀ a0 a1 a2 k, LeO (impl_Push.f k a0 a1 a2) (impl_Push.f (k + 1) a0 a1 a2) := by
  intro a0 a1 a2 k
  unfold impl_Push.f
  repeat' first
      | (with_reducible exact impl_QueueOk.mono _ _ _)
      | (with_reducible exact impl_HasKey.mono _ _ _ _)
      | (with_reducible exact LeO.refl _)
      | (with_reducible refine LeO.ite ?_ ?_)
      | (with_reducible refine LeO.bind ?_ (fun _ => ?_))
theorem impl_Push.calls (k : Nat) (a0_0 : Int) (A0_1 : Option Addr) (c0_1 : Nat) (l0_1 : List ByteArray) (a1 : ByteArray) (r1 : Int) (r2 : List ByteArray) (r3 : ByteArray) (r4 : Bool) (w : World) (hr0_1 : Kd.C Kd.string w A0_1 l0_1.length l0_1) (hc0_1 : l0_1.length ≤ c0_1) (h : impl_Push.f k a0_0 l0_1 a1 = some (r1, r2, r3, r4)) :
    Calls Try.prog 23 #[.agg #[.int .i64 a0_0, .slice A0_1 l0_1.length c0_1], .string a1] w fun e w' => ∃ v1_ : Value, e = .returned (.tuple #[.agg #[.int .i64 r1, v1_], .string r3, .bool r4]) ∧ Kd.R Kd.string 9 w' w.heap.size (fun _ => True) v1_ r2 ∧ Below w.heap.size w w' := by
  have zz : ∀ {x : Option (Int × List ByteArray × ByteArray × Bool)}, x = some (0, [], ⟨#[]⟩, false) → x = some (r1, r2, r3, r4) → r1 = 0 ∧ r2 = [] ∧ r3 = ⟨#[]⟩ ∧ r4 = false := fun e1 e2 => by
    have e := Option.some.inj (e1.symm.trans e2)
    simp only [Prod.mk.injEq] at e
    exact ⟨e.1.symm, e.2.1.symm, e.2.2.1.symm, e.2.2.2.symm⟩
  unfold impl_Push.f at h
  by_cases hm : a0_0 = 0
  · rw [if_pos hm] at h
    obtain ⟨rfl, rfl, rfl, rfl⟩ := zz rfl h
    exact push_zero1 k a0_0 A0_1 c0_1 l0_1 a1 w hr0_1 hc0_1 hm
  rw [if_neg hm] at h
  obtain ⟨a, h1, h⟩ := Option.bind_eq_some_iff.mp h
  cases a with
  | false =>
    rw [if_neg (by simp)] at h
    obtain ⟨rfl, rfl, rfl, rfl⟩ := zz rfl h
    exact push_zero2 k a0_0 A0_1 c0_1 l0_1 a1 w hr0_1 hc0_1 hm h1
  | true =>
    rw [if_pos rfl] at h
    obtain ⟨b, h2, h⟩ := Option.bind_eq_some_iff.mp h
    cases b with
    | true =>
      rw [if_pos rfl] at h
      obtain ⟨rfl, rfl, rfl, rfl⟩ := zz rfl h
      exact push_zero3 k a0_0 A0_1 c0_1 l0_1 a1 w hr0_1 hc0_1 hm h1 h2
    | false =>
      rw [if_neg (by simp)] at h
      obtain ⟨c, h3, h⟩ := Option.bind_eq_some_iff.mp h
      cases c with
      | false =>
        rw [if_neg (by simp)] at h
        obtain ⟨rfl, rfl, rfl, rfl⟩ := zz rfl h
        exact push_zero4 k a0_0 A0_1 c0_1 l0_1 a1 w hr0_1 hc0_1 hm h1 h2 h3
      | true =>
        rw [if_pos rfl] at h
        obtain ⟨⟨tn, tl⟩, h4, h⟩ := Option.bind_eq_some_iff.mp h
        by_cases hx : tl.length ≤ 1048575
        case neg => rw [if_neg hx] at h; cases h
        rw [if_pos hx] at h
        obtain ⟨⟨un, ul⟩, h5, h⟩ := Option.bind_eq_some_iff.mp h
        have e := Option.some.inj h
        simp only [Prod.mk.injEq] at e
        obtain ⟨rfl, rfl, e3, rfl⟩ := e
        exact push_main k a0_0 A0_1 c0_1 l0_1 a1 w hr0_1 hc0_1 hm h1 h2 h3 tn tl h4 hx r3 _ e3.symm rfl _ _ h5

/-! ### laws_big: function 24 -/
def laws_big.f (l0 : List Int) : Option (Bool) := some (decide ((l0.length : Int) > 1048576))
set_option maxHeartbeats 8000000 in
set_option maxRecDepth 100000 in
theorem laws_big.calls (A0 : Option Addr) (c0 : Nat) (l0 : List Int) (r : Bool) (w : World) (hr0 : Kd.C (Kd.int .u8) w A0 l0.length l0) (hc0 : l0.length ≤ c0) (h : laws_big.f l0 = some r) :
    Calls Try.prog 24 #[.slice A0 l0.length c0] w fun e w' => e = .returned (.bool r) ∧ Drawn0 w w' := by
  have HR0 := Aside0.mk hr0
  have HC0 := Aside0.mk hc0
  clear hr0 hc0
  have H : (some (decide ((l0.length : Int) > 1048576))) = some r := h
  clear h
  obtain rfl := Option.some.inj H
  go_enter Try.func24, Try.ntmps24
  go_wp2
  go_ret
  exact ⟨by first | rfl | (simp; done) | (simp [*]; done), by repeat (first | exact Drawn0.refl _ | apply Drawn0.step)⟩

/-! ### spec_l01In: function 68 -/
def spec_l01In.f (a0 : Int) (a1 : Int) (a2 : Int) : Option (Bool) := if a0 ≥ a1 then (some (decide (a0 ≤ a2))) else (some false)
set_option maxHeartbeats 8000000 in
set_option maxRecDepth 100000 in
theorem spec_l01In.calls (a0 : Int) (a1 : Int) (a2 : Int) (r : Bool) (w : World) (h : spec_l01In.f a0 a1 a2 = some r) :
    Calls Try.prog 68 #[.int .i64 a0, .int .i64 a1, .int .i64 a2] w fun e w' => e = .returned (.bool r) ∧ Drawn0 w w' := by
  have H : (if a0 ≥ a1 then (some (decide (a0 ≤ a2))) else (some false)) = some r := h
  clear h
  by_cases c4 : a0 ≥ a1
  · rw [if_pos c4] at H
    have c4b0 : decide (a1 ≤ a0) = true := decide_eq_true c4
    clear c4
    obtain rfl := Option.some.inj H
    go_enter Try.func68, Try.ntmps68
    go_wp2
    go_ret
    exact ⟨by first | rfl | (simp; done) | (simp [*]; done), by repeat (first | exact Drawn0.refl _ | apply Drawn0.step)⟩
  · rw [if_neg c4] at H
    have c4b0 : decide (a1 ≤ a0) = false := decide_eq_false c4
    clear c4
    obtain rfl := Option.some.inj H
    go_enter Try.func68, Try.ntmps68
    go_wp2
    go_ret
    exact ⟨by first | rfl | (simp; done) | (simp [*]; done), by repeat (first | exact Drawn0.refl _ | apply Drawn0.step)⟩

/-! ### spec_QueueOk: function 58 -/
mutual
def spec_QueueOk.j0 : Nat → Bool → Int → List ByteArray → Option (Bool)
  | 0, _, _, _ => none
  | k + 1, x16, x135000, x135001 => if x16 = true then (some false) else (spec_QueueOk.l0 k 0 x135000 x135001)
def spec_QueueOk.l0 : Nat → Int → Int → List ByteArray → Option (Bool)
  | 0, _, _, _ => none
  | k + 1, x3, x135000, x135001 => if x3 < (x135001.length : Int) then (if 0 ≤ x3 then ((spec_l01In.f ((rdOf ByteArray.empty x135001 x3).size : Int) 1 12).bind fun t137 => (if t137 = true then (spec_QueueOk.l1 k x3 0 x135000 x135001) else (some false))) else (none)) else (some true)
def spec_QueueOk.l1 : Nat → Int → Int → Int → List ByteArray → Option (Bool)
  | 0, _, _, _, _ => none
  | k + 1, x3, x4, x135000, x135001 => if x4 < x3 then (if 0 ≤ x4 then (if x4 < (x135001.length : Int) then (if 0 ≤ x3 then (if x3 < (x135001.length : Int) then (if (rdOf ByteArray.empty x135001 x4).toList = (rdOf ByteArray.empty x135001 x3).toList then (some false) else (spec_QueueOk.l1 k x3 (wrap64 (x4 + 1)) x135000 x135001)) else (none)) else (none)) else (none)) else (none)) else (spec_QueueOk.l0 k (wrap64 (x3 + 1)) x135000 x135001)
end
def spec_QueueOk.f (k : Nat) (a0_0 : Int) (l0_1 : List ByteArray) : Option (Bool) := (spec_l01In.f a0_0 0 24).bind fun t135 => (if t135 = true then (spec_QueueOk.j0 k (decide ((l0_1.length : Int) > a0_0)) a0_0 l0_1) else (spec_QueueOk.j0 k true a0_0 l0_1))
theorem spec_QueueOk.mono_l : ∀ k, (∀ y0 y1 y2, LeO (spec_QueueOk.j0 k y0 y1 y2) (spec_QueueOk.j0 (k + 1) y0 y1 y2)) ∧ (∀ y0 y1 y2, LeO (spec_QueueOk.l0 k y0 y1 y2) (spec_QueueOk.l0 (k + 1) y0 y1 y2)) ∧ (∀ y0 y1 y2 y3, LeO (spec_QueueOk.l1 k y0 y1 y2 y3) (spec_QueueOk.l1 (k + 1) y0 y1 y2 y3))
  | 0 => ⟨fun _ _ _ r h => by simp [spec_QueueOk.j0] at h, fun _ _ _ r h => by simp [spec_QueueOk.l0] at h, fun _ _ _ _ r h => by simp [spec_QueueOk.l1] at h⟩
  | k + 1 => by
    obtain ⟨ih0, ih1, ih2⟩ := spec_QueueOk.mono_l k
    refine ⟨?_, ?_, ?_⟩
    · intro y0 y1 y2
      unfold spec_QueueOk.j0
      repeat' first
      | (with_reducible exact ih0 _ _ _)
      | (with_reducible exact ih1 _ _ _)
      | (with_reducible exact ih2 _ _ _ _)
      | (with_reducible exact LeO.refl _)
      | (with_reducible exact LeO.none _)
      | (with_reducible refine LeO.ite ?_ ?_)
      | (with_reducible refine LeO.bind ?_ (fun _ => ?_))
      | exact ih0 _ _ _
      | exact ih1 _ _ _
      | exact ih2 _ _ _ _
      | exact LeO.none _
      | refine LeO.ite ?_ ?_
      | refine LeO.bind ?_ (fun _ => ?_)
    · intro y0 y1 y2
      unfold spec_QueueOk.l0
      repeat' first
      | (with_reducible exact ih0 _ _ _)
      | (with_reducible exact ih1 _ _ _)
      | (with_reducible exact ih2 _ _ _ _)
      | (with_reducible exact LeO.refl _)
      | (with_reducible exact LeO.none _)
      | (with_reducible refine LeO.ite ?_ ?_)
      | (with_reducible refine LeO.bind ?_ (fun _ => ?_))
      | exact ih0 _ _ _
      | exact ih1 _ _ _
      | exact ih2 _ _ _ _
      | exact LeO.none _
      | refine LeO.ite ?_ ?_
      | refine LeO.bind ?_ (fun _ => ?_)
    · intro y0 y1 y2 y3
      unfold spec_QueueOk.l1
      repeat' first
      | (with_reducible exact ih0 _ _ _)
      | (with_reducible exact ih1 _ _ _)
      | (with_reducible exact ih2 _ _ _ _)
      | (with_reducible exact LeO.refl _)
      | (with_reducible exact LeO.none _)
      | (with_reducible refine LeO.ite ?_ ?_)
      | (with_reducible refine LeO.bind ?_ (fun _ => ?_))
      | exact ih0 _ _ _
      | exact ih1 _ _ _
      | exact ih2 _ _ _ _
      | exact LeO.none _
      | refine LeO.ite ?_ ?_
      | refine LeO.bind ?_ (fun _ => ?_)
theorem spec_QueueOk.mono : ∀ a0 a1 k, LeO (spec_QueueOk.f k a0 a1) (spec_QueueOk.f (k + 1) a0 a1) := by
  intro a0 a1 k
  obtain ⟨ih0, ih1, ih2⟩ := spec_QueueOk.mono_l k
  unfold spec_QueueOk.f
  repeat' first
      | (with_reducible exact ih0 _ _ _)
      | (with_reducible exact ih1 _ _ _)
      | (with_reducible exact ih2 _ _ _ _)
      | (with_reducible exact LeO.refl _)
      | (with_reducible exact LeO.none _)
      | (with_reducible refine LeO.ite ?_ ?_)
      | (with_reducible refine LeO.bind ?_ (fun _ => ?_))
      | exact ih0 _ _ _
      | exact ih1 _ _ _
      | exact ih2 _ _ _ _
      | exact LeO.none _
      | refine LeO.ite ?_ ?_
      | refine LeO.bind ?_ (fun _ => ?_)
set_option maxHeartbeats 8000000 in
set_option maxRecDepth 100000 in
theorem spec_QueueOk.calls (k : Nat) (a0_0 : Int) (A0_1 : Option Addr) (c0_1 : Nat) (l0_1 : List ByteArray) (r : Bool) (w : World) (hr0_1 : Kd.C Kd.string w A0_1 l0_1.length l0_1) (hc0_1 : l0_1.length ≤ c0_1) (h : spec_QueueOk.f k a0_0 l0_1 = some r) :
    Calls Try.prog 58 #[.agg #[.int .i64 a0_0, .slice A0_1 l0_1.length c0_1]] w fun e w' => e = .returned (.bool r) ∧ Below w.heap.size w w' := by
  have hu26 := Try.underlying26
  have HR0_1 := Aside0.mk hr0_1
  have HC0_1 := Aside0.mk hc0_1
  clear hr0_1 hc0_1
  have HB := Aside0.mk (Below.refl w.heap.size w)
  have H : ((spec_l01In.f a0_0 0 24).bind fun t135 => (if t135 = true then (spec_QueueOk.j0 k (decide ((l0_1.length : Int) > a0_0)) a0_0 l0_1) else (spec_QueueOk.j0 k true a0_0 l0_1))) = some r := h
  clear h
  have HC2 := Aside0.mk H
  clear H
  go_enter Try.func58, Try.ntmps58
  go_upto_region 1 with (first | ((with_reducible refine gate_dst (N := 1) rfl ?_); (try (refine gate_guard (by rfl) ?_; dsimp only)); refine box_event ?hg (N := 1) ?hd (cs := #[.int .i64 a0_0, .slice A0_1 l0_1.length c0_1]) (t := 26) ?hr ?_; (case hd => rfl); (case hg => rfl); (case hr => first | (go_simp; done) | (go_simp; rfl)); intro gb134 hg w3 hbox hb; have n0_ := Aside0.mk (below_step (by repeat (first | (with_reducible first | exact HB.out | apply below_alloc | apply pw_below_drewN | apply below_drew1) | exact HB.out)) hb); have n1_ := Aside0.mk (hbox); have n2_ := Aside0.mk ((by rw [hg]; exact (below_size (by repeat (first | (with_reducible first | exact HB.out | apply below_alloc | apply pw_below_drewN | apply below_drew1) | exact HB.out))) : w.heap.size ≤ gb134)); have n3_ := Aside0.mk ((by rw [hg]; exact (below_size (by repeat (first | (with_reducible first | exact HB.out | apply below_alloc | apply pw_below_drewN | apply below_drew1) | exact HB.out))) : w.heap.size ≤ gb134)); clear HB; have HB := n0_; have BK134 := n1_; have GW134 := n2_; have GE134 := n3_; clear n0_ n1_ n2_ n3_; clear hb hbox hg))
  repeat (go_quiet (first | ((with_reducible refine gate_dst (N := 1) rfl ?_); (try (refine gate_guard (by rfl) ?_; dsimp only)); refine box_event ?hg (N := 1) ?hd (cs := #[.int .i64 a0_0, .slice A0_1 l0_1.length c0_1]) (t := 26) ?hr ?_; (case hd => rfl); (case hg => rfl); (case hr => first | (go_simp; done) | (go_simp; rfl)); intro gb134 hg w3 hbox hb; have n0_ := Aside0.mk (below_step (by repeat (first | (with_reducible first | exact HB.out | apply below_alloc | apply pw_below_drewN | apply below_drew1) | exact HB.out)) hb); have n1_ := Aside0.mk (hbox); have n2_ := Aside0.mk ((by rw [hg]; exact (below_size (by repeat (first | (with_reducible first | exact HB.out | apply below_alloc | apply pw_below_drewN | apply below_drew1) | exact HB.out))) : w.heap.size ≤ gb134)); have n3_ := Aside0.mk ((by rw [hg]; exact (below_size (by repeat (first | (with_reducible first | exact HB.out | apply below_alloc | apply pw_below_drewN | apply below_drew1) | exact HB.out))) : w.heap.size ≤ gb134)); clear HB; have HB := n0_; have BK134 := n1_; have GW134 := n2_; have GE134 := n3_; clear n0_ n1_ n2_ n3_; clear hb hbox hg)); go_upto_region 1 with (first | ((with_reducible refine gate_dst (N := 1) rfl ?_); (try (refine gate_guard (by rfl) ?_; dsimp only)); refine box_event ?hg (N := 1) ?hd (cs := #[.int .i64 a0_0, .slice A0_1 l0_1.length c0_1]) (t := 26) ?hr ?_; (case hd => rfl); (case hg => rfl); (case hr => first | (go_simp; done) | (go_simp; rfl)); intro gb134 hg w3 hbox hb; have n0_ := Aside0.mk (below_step (by repeat (first | (with_reducible first | exact HB.out | apply below_alloc | apply pw_below_drewN | apply below_drew1) | exact HB.out)) hb); have n1_ := Aside0.mk (hbox); have n2_ := Aside0.mk ((by rw [hg]; exact (below_size (by repeat (first | (with_reducible first | exact HB.out | apply below_alloc | apply pw_below_drewN | apply below_drew1) | exact HB.out))) : w.heap.size ≤ gb134)); have n3_ := Aside0.mk ((by rw [hg]; exact (below_size (by repeat (first | (with_reducible first | exact HB.out | apply below_alloc | apply pw_below_drewN | apply below_drew1) | exact HB.out))) : w.heap.size ≤ gb134)); clear HB; have HB := n0_; have BK134 := n1_; have GW134 := n2_; have GE134 := n3_; clear n0_ n1_ n2_ n3_; clear hb hbox hg)))
  (try simp only [Act.put, List.setIfInBounds_toArray, List.set_cons_zero, List.set_cons_succ])
  go_cut [16] (fun v16 wc => ∃ (kq : Nat) (x16_1 : Bool), v16 = .bool x16_1 ∧ Aside0 (spec_QueueOk.j0 kq x16_1 a0_0 l0_1 = some r) ∧ Aside0 (kq ≤ k) ∧ Aside0 (wc.heap[gb134]? = some (.cells #[.int .i64 a0_0, (.slice A0_1 l0_1.length c0_1)] 26 (0, 0))) ∧ Aside0 (Below w.heap.size w wc))
  case first =>
    have H := HC2.out
    clear HC2
    replace H := Option.bind_eq_some_iff.mp H
    obtain ⟨t135, A40, H⟩ := H
    replace H : (if t135 = true then (spec_QueueOk.j0 k (decide ((l0_1.length : Int) > a0_0)) a0_0 l0_1) else (spec_QueueOk.j0 k true a0_0 l0_1)) = some r := H
    have A4 := Aside0.mk A40
    clear A40
    by_cases c5 : t135 = true
    · subst c5
      have H1 : (spec_QueueOk.j0 k (decide ((l0_1.length : Int) > a0_0)) a0_0 l0_1) = some r := by rw [if_pos rfl] at H; exact H
      clear H
      have H := H1
      clear H1
      have H' := Aside0.mk H
      clear H
      have hcz6_0 : w3.cell? ⟨gb134, 0, none⟩ = some (.int .i64 a0_0) := (blk_cell BK134.out 0).trans rfl
      have hcz6_1 : w3.cell? ⟨gb134, 1, none⟩ = some (.slice A0_1 l0_1.length c0_1) := (blk_cell BK134.out 1).trans rfl
      have hfz6_0 := blk_frozen BK134.out 0
      have hfz6_1 := blk_frozen BK134.out 1
      go_wp2_with (first | (go_at_call 68; (with_reducible refine (spec_l01In.calls a0_0 0 24 true _ A4.out).mono ?_); rintro e w' ⟨rfl, ⟨nd, rfl⟩⟩; (try first | exact ⟨rfl, _, World.drewN_drewN _ _ _⟩ | exact ⟨rfl, _, Eq.trans (World.drewN_drewN _ _ _) (congrArg (World.drewN _) (Nat.add_assoc _ _ _))⟩)))
      repeat (go_quiet (first | (go_at_call 68; (with_reducible refine (spec_l01In.calls a0_0 0 24 true _ A4.out).mono ?_); rintro e w' ⟨rfl, ⟨nd, rfl⟩⟩; (try first | exact ⟨rfl, _, World.drewN_drewN _ _ _⟩ | exact ⟨rfl, _, Eq.trans (World.drewN_drewN _ _ _) (congrArg (World.drewN _) (Nat.add_assoc _ _ _))⟩))); try go_wp2_with (first | (go_at_call 68; (with_reducible refine (spec_l01In.calls a0_0 0 24 true _ A4.out).mono ?_); rintro e w' ⟨rfl, ⟨nd, rfl⟩⟩; (try first | exact ⟨rfl, _, World.drewN_drewN _ _ _⟩ | exact ⟨rfl, _, Eq.trans (World.drewN_drewN _ _ _) (congrArg (World.drewN _) (Nat.add_assoc _ _ _))⟩))))
      go_meet
      case rel => exact ⟨_, (decide ((l0_1.length : Int) > a0_0)), (by first | rfl | (simp; done) | (simp [*]; done)), H', ⟨by first | omega | exact Nat.le_refl _⟩, ⟨by (with_reducible repeat (first | refine blk_drewN ?_ _ | refine blk_drew ?_ | refine blk_alloc ?_ _)); exact BK134.out⟩, ⟨by repeat (first | (with_reducible first | exact HB.out | apply below_alloc | apply pw_below_drewN | apply below_drew1 | refine below_set ?_ GE134.out) | exact HB.out)⟩⟩
    · replace c5 := Bool.eq_false_iff.mpr c5
      subst c5
      have H1 : (spec_QueueOk.j0 k true a0_0 l0_1) = some r := by rw [if_neg (show ¬ (false = true) by decide)] at H; exact H
      clear H
      have H := H1
      clear H1
      have H' := Aside0.mk H
      clear H
      have hcz7_0 : w3.cell? ⟨gb134, 0, none⟩ = some (.int .i64 a0_0) := (blk_cell BK134.out 0).trans rfl
      have hcz7_1 : w3.cell? ⟨gb134, 1, none⟩ = some (.slice A0_1 l0_1.length c0_1) := (blk_cell BK134.out 1).trans rfl
      have hfz7_0 := blk_frozen BK134.out 0
      have hfz7_1 := blk_frozen BK134.out 1
      go_wp2_with (first | (go_at_call 68; (with_reducible refine (spec_l01In.calls a0_0 0 24 false _ A4.out).mono ?_); rintro e w' ⟨rfl, ⟨nd, rfl⟩⟩; (try first | exact ⟨rfl, _, World.drewN_drewN _ _ _⟩ | exact ⟨rfl, _, Eq.trans (World.drewN_drewN _ _ _) (congrArg (World.drewN _) (Nat.add_assoc _ _ _))⟩)))
      repeat (go_quiet (first | (go_at_call 68; (with_reducible refine (spec_l01In.calls a0_0 0 24 false _ A4.out).mono ?_); rintro e w' ⟨rfl, ⟨nd, rfl⟩⟩; (try first | exact ⟨rfl, _, World.drewN_drewN _ _ _⟩ | exact ⟨rfl, _, Eq.trans (World.drewN_drewN _ _ _) (congrArg (World.drewN _) (Nat.add_assoc _ _ _))⟩))); try go_wp2_with (first | (go_at_call 68; (with_reducible refine (spec_l01In.calls a0_0 0 24 false _ A4.out).mono ?_); rintro e w' ⟨rfl, ⟨nd, rfl⟩⟩; (try first | exact ⟨rfl, _, World.drewN_drewN _ _ _⟩ | exact ⟨rfl, _, Eq.trans (World.drewN_drewN _ _ _) (congrArg (World.drewN _) (Nat.add_assoc _ _ _))⟩))))
      go_meet
      case rel => exact ⟨_, (true), (by first | rfl | (simp; done) | (simp [*]; done)), H', ⟨by first | omega | exact Nat.le_refl _⟩, ⟨by (with_reducible repeat (first | refine blk_drewN ?_ _ | refine blk_drew ?_ | refine blk_alloc ?_ _)); exact BK134.out⟩, ⟨by repeat (first | (with_reducible first | exact HB.out | apply below_alloc | apply pw_below_drewN | apply below_drew1 | refine below_set ?_ GE134.out) | exact HB.out)⟩⟩
  case rest =>
    clear HC2
    try clear p2
    try clear c5
    try clear hcz6_0
    try clear hcz6_1
    try clear hcz7_0
    try clear hcz7_1
    try clear hfz6_0
    try clear hfz6_1
    try clear hfz7_0
    try clear hfz7_1
    obtain ⟨kq, x16_1, rfl, HA, HJ1, BK134, HB⟩ := hcut
    cases kq with
    | zero => exact absurd HA.out (by simp [spec_QueueOk.j0])
    | succ kj1 =>
      have H := HA.out
      clear HA
      simp only [spec_QueueOk.j0] at H
      by_cases c8 : x16_1 = true
      · subst c8
        have H1 : (some false) = some r := by rw [if_pos rfl] at H; exact H
        clear H
        have H := H1
        clear H1
        obtain rfl := Option.some.inj H
        go_wp2
        repeat (go_quiet (fail); try go_wp2)
        go_ret
        exact ⟨by first | rfl | (simp [errW_none, errW_some] <;> rfl) | (simp [*, errW_none, errW_some] <;> rfl), by repeat (first | (with_reducible first | exact HB.out | apply below_alloc | apply pw_below_drewN | apply below_drew1 | refine below_set ?_ GE134.out) | exact HB.out)⟩
      · replace c8 := Bool.eq_false_iff.mpr c8
        subst c8
        have H1 : (spec_QueueOk.l0 kj1 0 a0_0 l0_1) = some r := by rw [if_neg (show ¬ (false = true) by decide)] at H; exact H
        clear H
        have H := H1
        clear H1
        have H' := Aside0.mk H
        clear H
        go_wp2
        repeat (go_quiet (fail); try go_wp2)
        go_loopg [3] kj1 (fun kq v3 w' => ∃ (x3_2 : Int), v3 = .int .i64 x3_2 ∧ Aside0 (spec_QueueOk.l0 kq x3_2 a0_0 l0_1 = some r) ∧ Aside0 (kq ≤ kj1) ∧ Aside0 (w'.heap[gb134]? = some (.cells #[.int .i64 a0_0, (.slice A0_1 l0_1.length c0_1)] 26 (0, 0))) ∧ Aside0 (Below w.heap.size w w'))
        case atStart => exact ⟨(0), (by first | rfl | (simp; done) | (simp [*]; done)), H', ⟨Nat.le_refl _⟩, ⟨by (with_reducible repeat (first | refine blk_drewN ?_ _ | refine blk_drew ?_ | refine blk_alloc ?_ _)); exact BK134.out⟩, ⟨by repeat (first | (with_reducible first | exact HB.out | apply below_alloc | apply pw_below_drewN | apply below_drew1 | refine below_set ?_ GE134.out) | exact HB.out)⟩⟩
        case round =>
          clear H'
          try clear p2
          try clear c5
          try clear c8
          try clear hcz6_0
          try clear hcz6_1
          try clear hcz7_0
          try clear hcz7_1
          try clear hfz6_0
          try clear hfz6_1
          try clear hfz7_0
          try clear hfz7_1
          try clear p2
          obtain ⟨x3_2, rfl, HA, HK2, BK134, HB⟩ := hrel
          cases gk with
          | zero => exact absurd HA.out (by simp [spec_QueueOk.l0])
          | succ k2 =>
            have H := HA.out
            clear HA
            simp only [spec_QueueOk.l0] at H
            by_cases c9 : x3_2 < (l0_1.length : Int)
            · rw [if_pos c9] at H
              have c9b0 : decide (x3_2 < (l0_1.length : Int)) = true := decide_eq_true c9
              clear c9
              by_cases c10 : 0 ≤ x3_2
              · rw [if_pos c10] at H
                have c10b0 : decide (0 ≤ x3_2) = true := decide_eq_true c10
                clear c10
                replace H := Option.bind_eq_some_iff.mp H
                obtain ⟨t137, A110, H⟩ := H
                replace H : (if t137 = true then (spec_QueueOk.l1 k2 x3_2 0 a0_0 l0_1) else (some false)) = some r := H
                have A11 := Aside0.mk A110
                clear A110
                by_cases c12 : t137 = true
                · subst c12
                  have H1 : (spec_QueueOk.l1 k2 x3_2 0 a0_0 l0_1) = some r := by rw [if_pos rfl] at H; exact H
                  clear H
                  have H := H1
                  clear H1
                  have H' := Aside0.mk H
                  clear H
                  have hcz13_0 : wr.cell? ⟨gb134, 0, none⟩ = some (.int .i64 a0_0) := (blk_cell BK134.out 0).trans rfl
                  have hcz13_1 : wr.cell? ⟨gb134, 1, none⟩ = some (.slice A0_1 l0_1.length c0_1) := (blk_cell BK134.out 1).trans rfl
                  have hfz13_0 := blk_frozen BK134.out 0
                  have hfz13_1 := blk_frozen BK134.out 1
                  have p136 : 0 ≤ (x3_2 : Int) := of_decide_eq_true (by first | (with_reducible assumption) | assumption)
                  have q136 : x3_2 < (l0_1.length : Int) := of_decide_eq_true (by first | (with_reducible assumption) | assumption)
                  obtain ⟨ad136, e136, hx136_0⟩ := Kd.at_string HR0_1.out x3_2 p136 q136
                  cases e136
                  replace hx136_0 := (HB.out.cell (World.block_lt_of_cell? w _ hx136_0)).trans hx136_0
                  replace p136 := eq_true p136
                  replace q136 := eq_true q136
                  go_wp2_with (first | (go_at_call 68; (with_reducible refine (spec_l01In.calls ((rdOf ByteArray.empty l0_1 x3_2).size : Int) 1 12 true _ A11.out).mono ?_); rintro e w' ⟨rfl, ⟨nd, rfl⟩⟩; (try first | exact ⟨rfl, _, World.drewN_drewN _ _ _⟩ | exact ⟨rfl, _, Eq.trans (World.drewN_drewN _ _ _) (congrArg (World.drewN _) (Nat.add_assoc _ _ _))⟩)))
                  repeat (go_quiet (first | (go_at_call 68; (with_reducible refine (spec_l01In.calls ((rdOf ByteArray.empty l0_1 x3_2).size : Int) 1 12 true _ A11.out).mono ?_); rintro e w' ⟨rfl, ⟨nd, rfl⟩⟩; (try first | exact ⟨rfl, _, World.drewN_drewN _ _ _⟩ | exact ⟨rfl, _, Eq.trans (World.drewN_drewN _ _ _) (congrArg (World.drewN _) (Nat.add_assoc _ _ _))⟩))); try go_wp2_with (first | (go_at_call 68; (with_reducible refine (spec_l01In.calls ((rdOf ByteArray.empty l0_1 x3_2).size : Int) 1 12 true _ A11.out).mono ?_); rintro e w' ⟨rfl, ⟨nd, rfl⟩⟩; (try first | exact ⟨rfl, _, World.drewN_drewN _ _ _⟩ | exact ⟨rfl, _, Eq.trans (World.drewN_drewN _ _ _) (congrArg (World.drewN _) (Nat.add_assoc _ _ _))⟩))))
                  go_loopg [4] k2 (fun kq v4 w' => ∃ (x4_3 : Int), v4 = .int .i64 x4_3 ∧ Aside0 (spec_QueueOk.l1 kq x3_2 x4_3 a0_0 l0_1 = some r) ∧ Aside0 (kq ≤ k2) ∧ Aside0 (w'.heap[gb134]? = some (.cells #[.int .i64 a0_0, (.slice (some ad136) l0_1.length c0_1)] 26 (0, 0))) ∧ Aside0 (Below w.heap.size w w'))
                  case atStart => exact ⟨(0), (by first | rfl | (simp; done) | (simp [*]; done)), H', ⟨Nat.le_refl _⟩, ⟨by (with_reducible repeat (first | refine blk_drewN ?_ _ | refine blk_drew ?_ | refine blk_alloc ?_ _)); exact BK134.out⟩, ⟨by repeat (first | (with_reducible first | exact HB.out | apply below_alloc | apply pw_below_drewN | apply below_drew1 | refine below_set ?_ GE134.out) | exact HB.out)⟩⟩
                  case round =>
                    clear H'
                    try clear c1
                    try clear p1
                    try clear q1
                    try clear hx1
                    try clear p2
                    try clear c5
                    try clear c8
                    try clear c9
                    try clear c9b0
                    try clear c10
                    try clear c10b0
                    try clear c12
                    try clear p13
                    try clear q13
                    try clear hx13
                    try clear hcz13_0
                    try clear hcz13_1
                    try clear hcz6_0
                    try clear hcz6_1
                    try clear hcz7_0
                    try clear hcz7_1
                    try clear hfz13_0
                    try clear hfz13_1
                    try clear hfz6_0
                    try clear hfz6_1
                    try clear hfz7_0
                    try clear hfz7_1
                    try clear hx136_0
                    try clear p136
                    try clear p2
                    try clear q136
                    obtain ⟨x4_3, rfl, HA, HK3, BK134, HB⟩ := hrel
                    cases gk with
                    | zero => exact absurd HA.out (by simp [spec_QueueOk.l1])
                    | succ k3 =>
                      have H := HA.out
                      clear HA
                      simp only [spec_QueueOk.l1] at H
                      by_cases c14 : x4_3 < x3_2
                      · rw [if_pos c14] at H
                        have c14b0 : decide (x4_3 < x3_2) = true := decide_eq_true c14
                        clear c14
                        by_cases c15 : 0 ≤ x4_3
                        · rw [if_pos c15] at H
                          have c15b0 : decide (0 ≤ x4_3) = true := decide_eq_true c15
                          clear c15
                          by_cases c16 : x4_3 < (l0_1.length : Int)
                          · rw [if_pos c16] at H
                            have c16b0 : decide (x4_3 < (l0_1.length : Int)) = true := decide_eq_true c16
                            clear c16
                            by_cases c17 : 0 ≤ x3_2
                            · rw [if_pos c17] at H
                              have c17b0 : decide (0 ≤ x3_2) = true := decide_eq_true c17
                              clear c17
                              by_cases c18 : x3_2 < (l0_1.length : Int)
                              · rw [if_pos c18] at H
                                have c18b0 : decide (x3_2 < (l0_1.length : Int)) = true := decide_eq_true c18
                                clear c18
                                by_cases c19 : (rdOf ByteArray.empty l0_1 x4_3).toList = (rdOf ByteArray.empty l0_1 x3_2).toList
                                · rw [if_pos c19] at H
                                  have c19b0 : ((rdOf ByteArray.empty l0_1 x4_3).toList == (rdOf ByteArray.empty l0_1 x3_2).toList) = true := beq_iff_eq.mpr c19
                                  have c19b1 : ((rdOf ByteArray.empty l0_1 x4_3).toList != (rdOf ByteArray.empty l0_1 x3_2).toList) = false := bne_eq_false_iff_eq.mpr c19
                                  clear c19
                                  obtain rfl := Option.some.inj H
                                  have hcz20_0 : wr.cell? ⟨gb134, 0, none⟩ = some (.int .i64 a0_0) := (blk_cell BK134.out 0).trans rfl
                                  have hcz20_1 : wr.cell? ⟨gb134, 1, none⟩ = some (.slice (some ad136) l0_1.length c0_1) := (blk_cell BK134.out 1).trans rfl
                                  have hfz20_0 := blk_frozen BK134.out 0
                                  have hfz20_1 := blk_frozen BK134.out 1
                                  have p138 : 0 ≤ (x4_3 : Int) := of_decide_eq_true (by first | (with_reducible assumption) | assumption)
                                  have q138 : x4_3 < (l0_1.length : Int) := of_decide_eq_true (by first | (with_reducible assumption) | assumption)
                                  obtain ⟨ad138, e138, hx138_0⟩ := Kd.at_string HR0_1.out x4_3 p138 q138
                                  obtain rfl : ad136 = ad138 := (by injection e138)
                                  replace hx138_0 := (HB.out.cell (World.block_lt_of_cell? w _ hx138_0)).trans hx138_0
                                  replace p138 := eq_true p138
                                  replace q138 := eq_true q138
                                  have p139 : 0 ≤ (x3_2 : Int) := of_decide_eq_true (by first | (with_reducible assumption) | assumption)
                                  have q139 : x3_2 < (l0_1.length : Int) := of_decide_eq_true (by first | (with_reducible assumption) | assumption)
                                  obtain ⟨ad139, e139, hx139_0⟩ := Kd.at_string HR0_1.out x3_2 p139 q139
                                  obtain rfl : ad136 = ad139 := (by injection e139)
                                  replace hx139_0 := (HB.out.cell (World.block_lt_of_cell? w _ hx139_0)).trans hx139_0
                                  replace p139 := eq_true p139
                                  replace q139 := eq_true q139
                                  go_wp2
                                  repeat (go_quiet (fail); try go_wp2)
                                  go_ret
                                  exact ⟨by first | rfl | (simp [errW_none, errW_some] <;> rfl) | (simp [*, errW_none, errW_some] <;> rfl), by repeat (first | (with_reducible first | exact HB.out | apply below_alloc | apply pw_below_drewN | apply below_drew1 | refine below_set ?_ GE134.out) | exact HB.out)⟩
                                · rw [if_neg c19] at H
                                  have c19b0 : ((rdOf ByteArray.empty l0_1 x4_3).toList == (rdOf ByteArray.empty l0_1 x3_2).toList) = false := beq_eq_false_iff_ne.mpr c19
                                  have c19b1 : ((rdOf ByteArray.empty l0_1 x4_3).toList != (rdOf ByteArray.empty l0_1 x3_2).toList) = true := bne_iff_ne.mpr c19
                                  have H' := Aside0.mk H
                                  clear H
                                  have hcz21_0 : wr.cell? ⟨gb134, 0, none⟩ = some (.int .i64 a0_0) := (blk_cell BK134.out 0).trans rfl
                                  have hcz21_1 : wr.cell? ⟨gb134, 1, none⟩ = some (.slice (some ad136) l0_1.length c0_1) := (blk_cell BK134.out 1).trans rfl
                                  have hfz21_0 := blk_frozen BK134.out 0
                                  have hfz21_1 := blk_frozen BK134.out 1
                                  have p138 : 0 ≤ (x4_3 : Int) := of_decide_eq_true (by first | (with_reducible assumption) | assumption)
                                  have q138 : x4_3 < (l0_1.length : Int) := of_decide_eq_true (by first | (with_reducible assumption) | assumption)
                                  obtain ⟨ad138, e138, hx138_0⟩ := Kd.at_string HR0_1.out x4_3 p138 q138
                                  obtain rfl : ad136 = ad138 := (by injection e138)
                                  replace hx138_0 := (HB.out.cell (World.block_lt_of_cell? w _ hx138_0)).trans hx138_0
                                  replace p138 := eq_true p138
                                  replace q138 := eq_true q138
                                  have p139 : 0 ≤ (x3_2 : Int) := of_decide_eq_true (by first | (with_reducible assumption) | assumption)
                                  have q139 : x3_2 < (l0_1.length : Int) := of_decide_eq_true (by first | (with_reducible assumption) | assumption)
                                  obtain ⟨ad139, e139, hx139_0⟩ := Kd.at_string HR0_1.out x3_2 p139 q139
                                  obtain rfl : ad136 = ad139 := (by injection e139)
                                  replace hx139_0 := (HB.out.cell (World.block_lt_of_cell? w _ hx139_0)).trans hx139_0
                                  replace p139 := eq_true p139
                                  replace q139 := eq_true q139
                                  go_wp2
                                  repeat (go_quiet (fail); try go_wp2)
                                  go_roundg k3
                                  case measure => have := HJ1.out; have := HK2.out; have := HK3.out; omega
                                  case rel => exact ⟨(wrap64 (x4_3 + 1)), (by first | rfl | (simp; done) | (simp [*]; done)), H', ⟨by have := HJ1.out; have := HK2.out; have := HK3.out; omega⟩, ⟨by (with_reducible repeat (first | refine blk_drewN ?_ _ | refine blk_drew ?_ | refine blk_alloc ?_ _)); exact BK134.out⟩, ⟨by repeat (first | (with_reducible first | exact HB.out | apply below_alloc | apply pw_below_drewN | apply below_drew1 | refine below_set ?_ GE134.out) | exact HB.out)⟩⟩
                              · rw [if_neg c18] at H
                                exact absurd H (by simp)
                            · rw [if_neg c17] at H
                              exact absurd H (by simp)
                          · rw [if_neg c16] at H
                            exact absurd H (by simp)
                        · rw [if_neg c15] at H
                          exact absurd H (by simp)
                      · rw [if_neg c14] at H
                        have c14b0 : decide (x4_3 < x3_2) = false := decide_eq_false c14
                        clear c14
                        have H' := Aside0.mk H
                        clear H
                        go_wp2
                        repeat (go_quiet (fail); try go_wp2)
                        go_roundg k3
                        case measure => have := HJ1.out; have := HK2.out; have := HK3.out; omega
                        case rel => exact ⟨(wrap64 (x3_2 + 1)), (by first | rfl | (simp; done) | (simp [*]; done)), H', ⟨by have := HJ1.out; have := HK2.out; have := HK3.out; omega⟩, ⟨by (with_reducible repeat (first | refine blk_drewN ?_ _ | refine blk_drew ?_ | refine blk_alloc ?_ _)); exact BK134.out⟩, ⟨by repeat (first | (with_reducible first | exact HB.out | apply below_alloc | apply pw_below_drewN | apply below_drew1 | refine below_set ?_ GE134.out) | exact HB.out)⟩⟩
                · replace c12 := Bool.eq_false_iff.mpr c12
                  subst c12
                  have H1 : (some false) = some r := by rw [if_neg (show ¬ (false = true) by decide)] at H; exact H
                  clear H
                  have H := H1
                  clear H1
                  obtain rfl := Option.some.inj H
                  have hcz22_0 : wr.cell? ⟨gb134, 0, none⟩ = some (.int .i64 a0_0) := (blk_cell BK134.out 0).trans rfl
                  have hcz22_1 : wr.cell? ⟨gb134, 1, none⟩ = some (.slice A0_1 l0_1.length c0_1) := (blk_cell BK134.out 1).trans rfl
                  have hfz22_0 := blk_frozen BK134.out 0
                  have hfz22_1 := blk_frozen BK134.out 1
                  have p136 : 0 ≤ (x3_2 : Int) := of_decide_eq_true (by first | (with_reducible assumption) | assumption)
                  have q136 : x3_2 < (l0_1.length : Int) := of_decide_eq_true (by first | (with_reducible assumption) | assumption)
                  obtain ⟨ad136, e136, hx136_0⟩ := Kd.at_string HR0_1.out x3_2 p136 q136
                  cases e136
                  replace hx136_0 := (HB.out.cell (World.block_lt_of_cell? w _ hx136_0)).trans hx136_0
                  replace p136 := eq_true p136
                  replace q136 := eq_true q136
                  go_wp2_with (first | (go_at_call 68; (with_reducible refine (spec_l01In.calls ((rdOf ByteArray.empty l0_1 x3_2).size : Int) 1 12 false _ A11.out).mono ?_); rintro e w' ⟨rfl, ⟨nd, rfl⟩⟩; (try first | exact ⟨rfl, _, World.drewN_drewN _ _ _⟩ | exact ⟨rfl, _, Eq.trans (World.drewN_drewN _ _ _) (congrArg (World.drewN _) (Nat.add_assoc _ _ _))⟩)))
                  repeat (go_quiet (first | (go_at_call 68; (with_reducible refine (spec_l01In.calls ((rdOf ByteArray.empty l0_1 x3_2).size : Int) 1 12 false _ A11.out).mono ?_); rintro e w' ⟨rfl, ⟨nd, rfl⟩⟩; (try first | exact ⟨rfl, _, World.drewN_drewN _ _ _⟩ | exact ⟨rfl, _, Eq.trans (World.drewN_drewN _ _ _) (congrArg (World.drewN _) (Nat.add_assoc _ _ _))⟩))); try go_wp2_with (first | (go_at_call 68; (with_reducible refine (spec_l01In.calls ((rdOf ByteArray.empty l0_1 x3_2).size : Int) 1 12 false _ A11.out).mono ?_); rintro e w' ⟨rfl, ⟨nd, rfl⟩⟩; (try first | exact ⟨rfl, _, World.drewN_drewN _ _ _⟩ | exact ⟨rfl, _, Eq.trans (World.drewN_drewN _ _ _) (congrArg (World.drewN _) (Nat.add_assoc _ _ _))⟩))))
                  go_ret
                  exact ⟨by first | rfl | (simp [errW_none, errW_some] <;> rfl) | (simp [*, errW_none, errW_some] <;> rfl), by repeat (first | (with_reducible first | exact HB.out | apply below_alloc | apply pw_below_drewN | apply below_drew1 | refine below_set ?_ GE134.out) | exact HB.out)⟩
              · rw [if_neg c10] at H
                exact absurd H (by simp)
            · rw [if_neg c9] at H
              have c9b0 : decide (x3_2 < (l0_1.length : Int)) = false := decide_eq_false c9
              clear c9
              obtain rfl := Option.some.inj H
              have hcz23_0 : wr.cell? ⟨gb134, 0, none⟩ = some (.int .i64 a0_0) := (blk_cell BK134.out 0).trans rfl
              have hcz23_1 : wr.cell? ⟨gb134, 1, none⟩ = some (.slice A0_1 l0_1.length c0_1) := (blk_cell BK134.out 1).trans rfl
              have hfz23_0 := blk_frozen BK134.out 0
              have hfz23_1 := blk_frozen BK134.out 1
              go_wp2
              repeat (go_quiet (fail); try go_wp2)
              go_ret
              exact ⟨by first | rfl | (simp [errW_none, errW_some] <;> rfl) | (simp [*, errW_none, errW_some] <;> rfl), by repeat (first | (with_reducible first | exact HB.out | apply below_alloc | apply pw_below_drewN | apply below_drew1 | refine below_set ?_ GE134.out) | exact HB.out)⟩

end Go.Proofs.Ytjiekmbonmbhlaa.GFnPushes
