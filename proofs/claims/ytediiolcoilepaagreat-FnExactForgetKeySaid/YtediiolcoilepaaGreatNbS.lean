/- Parts of the proof: walks of callees, plain laws about what they compute. -/
import Derived.Test.YtediiolcoilepaaGreatNbR
import Derived.BigRegion
import Derived.BigQuiet
namespace Go.Proofs.YtediiolcoilepaaGreat.Nb
open Go.RowKit Go.Proofs.YtediiolcoilepaaGreat.GNear Go.Proofs.YtediiolcoilepaaGreatW.PrintWords Go.Proofs.YtediiolcoilepaaGreatW.PrintLast Go.Proofs.YtediiolcoilepaaGreatW.PrintMore
attribute [local go_sem] max2_int min2_int max_two min_two max_three min_three max_four min_four
set_option linter.unusedVariables false
set_option linter.unusedSimpArgs false
set_option maxHeartbeats 4000000 in
set_option maxRecDepth 100000 in
theorem cloneSlotL {A0:Option Addr} {c0:Nat} (l0:List S94) (s0:l0.length≤1048576) (w:World) (hA:Kd.C k94 w A0 l0.length l0):Calls Tryz.prog 209 #[.slice A0 l0.length c0] w fun e w'=>∃ v,e=.returned (v)∧Kd.R k94 94 w' w.heap.size (fun _=>True) v l0∧Below w.heap.size w w':=by
 have HA:=Aside0.mk hA
 have HL:=Aside0.mk s0
 have HS:=Aside0.mk (St.start w)
 clear hA s0;cases A0 with
 |none =>
  have hn:l0 = []:=by
   rcases Nat.eq_zero_or_pos l0.length with h|h
   ·exact List.eq_nil_of_length_eq_zero h
   ·obtain⟨ad,h1,_⟩:=HA.out.2.2 h
    cases h1
  subst hn;have heq:=fun (W:World)=>Lib.run_eql_slice_nil (P:=Tryz.prog) W 40 94 none 0 c0 0 0 Tryz.underlying40
  go_enter Tryz.func209,Tryz.ntmps209
  go_wp2
  go_ret
  exact⟨_,rfl,Kd.R_nil _ _ _ _ _,Below.refl _ _⟩
 |some ad =>
  have heq:=fun (W:World)=>Lib.run_eql_slice_nil (P:=Tryz.prog) W 40 94 (some ad) l0.length c0 0 0 Tryz.underlying40
  go_enter Tryz.func209,Tryz.ntmps209
  go_wp2_with (first|((with_reducible refine gate_dst (N:=5) rfl ?_);refine Kd.R_lit k94 _ 94 ?hg (N:=5) ?hd (xs:=([]:List S94)) (inner:=[]) (ok:=fun _=>True) (okp:=fun _=>True) ?hr ?hp (fun _ hk=>hk) trivial (Below.refl _ _) (Nat.le_refl _) (by simp) ?_;(case hd=>rfl);(case hg=>rfl);(case hr=>first|(go_simp;done)|(go_simp;rfl));(case hp=>exact(Reps.none _ _));intro v5 w3 ho hb _ _;have HS1:=Aside0.mk (HS.out.new_row rfl hb ho);clear HS ho hb;have HS:=HS1;clear HS1)|((with_reducible refine gate_builtin (b:=.append) (xs:=#[.tmp 5,.tmp 6]) rfl ?_);at_builtin;refine Kd.R_append_rows k94 (w0:=w) w.heap.size rfl (.tmp 5) (.tmp 6) 40 94 (.agg #[(.int .i64 0),(.bool false),(.string ⟨#[]⟩),(.string ⟨#[]⟩),(.int .i64 0)]) 56 rfl Tryz.underlying40 info94 rfl (by decide) (by omega) v5 [] l0 (some ad) l0.length c0 (fun _=>True) (fun _=>False) rfl rfl ?aO ?aR (fun _ _ h=>h) (fun _ h=>h.elim) ?aF ?aB ?aS ?aL ?_;(case aO=>exact Kd.R_mono (HS.out.at_R 0 rfl) (fun _ _=>trivial));(case aR=>exact Kd.C_below HA.out HS.out.below);(case aF=>exact fun _ _=>trivial);(case aB=>exact HS.out.below);(case aS=>exact below_size HS.out.below);(case aL=>have:=HL.out;simp only [List.length_nil];omega);intro v1 w9 ho hb hg hat;rw[List.nil_append] at ho;have HO:=Aside0.mk ho;have HB:=Aside0.mk hb;clear ho hb hg hat))
  go_ret
  exact⟨_,rfl,HO.out,HB.out⟩
set_option maxHeartbeats 4000000 in
set_option maxRecDepth 100000 in
theorem cloneCellL {A0:Option Addr} {c0:Nat} (l0:List S151) (s0:l0.length≤1048576) (w:World) (hA:Kd.C k151 w A0 l0.length l0):Calls Tryz.prog 210 #[.slice A0 l0.length c0] w fun e w'=>∃ v,e=.returned (v)∧Kd.R k151 151 w' w.heap.size (fun _=>True) v l0∧Below w.heap.size w w':=by
 have HA:=Aside0.mk hA
 have HL:=Aside0.mk s0
 have HS:=Aside0.mk (St.start w)
 clear hA s0;cases A0 with
 |none =>
  have hn:l0 = []:=by
   rcases Nat.eq_zero_or_pos l0.length with h|h
   ·exact List.eq_nil_of_length_eq_zero h
   ·obtain⟨ad,h1,_⟩:=HA.out.2.2 h
    cases h1
  subst hn;have heq:=fun (W:World)=>Lib.run_eql_slice_nil (P:=Tryz.prog) W 43 151 none 0 c0 0 0 Tryz.underlying43
  go_enter Tryz.func210,Tryz.ntmps210
  go_wp2
  go_ret
  exact⟨_,rfl,Kd.R_nil _ _ _ _ _,Below.refl _ _⟩
 |some ad =>
  have heq:=fun (W:World)=>Lib.run_eql_slice_nil (P:=Tryz.prog) W 43 151 (some ad) l0.length c0 0 0 Tryz.underlying43
  go_enter Tryz.func210,Tryz.ntmps210
  go_wp2_with (first|((with_reducible refine gate_dst (N:=5) rfl ?_);refine Kd.R_lit k151 _ 151 ?hg (N:=5) ?hd (xs:=([]:List S151)) (inner:=[]) (ok:=fun _=>True) (okp:=fun _=>True) ?hr ?hp (fun _ hk=>hk) trivial (Below.refl _ _) (Nat.le_refl _) (by simp) ?_;(case hd=>rfl);(case hg=>rfl);(case hr=>first|(go_simp;done)|(go_simp;rfl));(case hp=>exact(Reps.none _ _));intro v5 w3 ho hb _ _;have HS1:=Aside0.mk (HS.out.new_row rfl hb ho);clear HS ho hb;have HS:=HS1;clear HS1)|((with_reducible refine gate_builtin (b:=.append) (xs:=#[.tmp 5,.tmp 6]) rfl ?_);at_builtin;refine Kd.R_append_rows k151 (w0:=w) w.heap.size rfl (.tmp 5) (.tmp 6) 43 151 (.agg #[(.string ⟨#[]⟩),(.int .i64 0)]) 24 rfl Tryz.underlying43 info151 rfl (by decide) (by omega) v5 [] l0 (some ad) l0.length c0 (fun _=>True) (fun _=>False) rfl rfl ?aO ?aR (fun _ _ h=>h) (fun _ h=>h.elim) ?aF ?aB ?aS ?aL ?_;(case aO=>exact Kd.R_mono (HS.out.at_R 0 rfl) (fun _ _=>trivial));(case aR=>exact Kd.C_below HA.out HS.out.below);(case aF=>exact fun _ _=>trivial);(case aB=>exact HS.out.below);(case aS=>exact below_size HS.out.below);(case aL=>have:=HL.out;simp only [List.length_nil];omega);intro v1 w9 ho hb hg hat;rw[List.nil_append] at ho;have HO:=Aside0.mk ho;have HB:=Aside0.mk hb;clear ho hb hg hat))
  go_ret
  exact⟨_,rfl,HO.out,HB.out⟩
set_option maxHeartbeats 4000000 in
set_option maxRecDepth 100000 in
theorem cloneStringL {A0:Option Addr} {c0:Nat} (l0:List ByteArray) (s0:l0.length≤1048576) (w:World) (hA:Kd.C Kd.string w A0 l0.length l0):Calls Tryz.prog 211 #[.slice A0 l0.length c0] w fun e w'=>∃ v,e=.returned (v)∧Kd.R Kd.string 9 w' w.heap.size (fun _=>True) v l0∧Below w.heap.size w w':=by
 have HA:=Aside0.mk hA
 have HL:=Aside0.mk s0
 have HS:=Aside0.mk (St.start w)
 clear hA s0;cases A0 with
 |none =>
  have hn:l0 = []:=by
   rcases Nat.eq_zero_or_pos l0.length with h|h
   ·exact List.eq_nil_of_length_eq_zero h
   ·obtain⟨ad,h1,_⟩:=HA.out.2.2 h
    cases h1
  subst hn;have heq:=fun (W:World)=>Lib.run_eql_slice_nil (P:=Tryz.prog) W 28 9 none 0 c0 0 0 Tryz.underlying28
  go_enter Tryz.func211,Tryz.ntmps211
  go_wp2
  go_ret
  exact⟨_,rfl,Kd.R_nil _ _ _ _ _,Below.refl _ _⟩
 |some ad =>
  have heq:=fun (W:World)=>Lib.run_eql_slice_nil (P:=Tryz.prog) W 28 9 (some ad) l0.length c0 0 0 Tryz.underlying28
  go_enter Tryz.func211,Tryz.ntmps211
  go_wp2_with (first|((with_reducible refine gate_dst (N:=5) rfl ?_);refine Kd.R_lit Kd.string _ 9 ?hg (N:=5) ?hd (xs:=([]:List ByteArray)) (inner:=[]) (ok:=fun _=>True) (okp:=fun _=>True) ?hr ?hp (fun _ hk=>hk) trivial (Below.refl _ _) (Nat.le_refl _) (by simp) ?_;(case hd=>rfl);(case hg=>rfl);(case hr=>first|(go_simp;done)|(go_simp;rfl));(case hp=>exact(Reps.none _ _));intro v5 w3 ho hb _ _;have HS1:=Aside0.mk (HS.out.new_row rfl hb ho);clear HS ho hb;have HS:=HS1;clear HS1)|((with_reducible refine gate_builtin (b:=.append) (xs:=#[.tmp 5,.tmp 6]) rfl ?_);at_builtin;refine Kd.R_append_rows Kd.string (w0:=w) w.heap.size rfl (.tmp 5) (.tmp 6) 28 9 (.string ⟨#[]⟩) 16 rfl Tryz.underlying28 info9 rfl (by decide) (by omega) v5 [] l0 (some ad) l0.length c0 (fun _=>True) (fun _=>False) rfl rfl ?aO ?aR (fun _ _ h=>h) (fun _ h=>h.elim) ?aF ?aB ?aS ?aL ?_;(case aO=>exact Kd.R_mono (HS.out.at_R 0 rfl) (fun _ _=>trivial));(case aR=>exact Kd.C_below HA.out HS.out.below);(case aF=>exact fun _ _=>trivial);(case aB=>exact HS.out.below);(case aS=>exact below_size HS.out.below);(case aL=>have:=HL.out;simp only [List.length_nil];omega);intro v1 w9 ho hb hg hat;rw[List.nil_append] at ho;have HO:=Aside0.mk ho;have HB:=Aside0.mk hb;clear ho hb hg hat))
  go_ret
  exact⟨_,rfl,HO.out,HB.out⟩
set_option maxHeartbeats 4000000 in
set_option maxRecDepth 100000 in
theorem cloneIntL {A0:Option Addr} {c0:Nat} (l0:List Int) (s0:l0.length≤1048576) (w:World) (hA:Kd.C (Kd.int .i64) w A0 l0.length l0):Calls Tryz.prog 212 #[.slice A0 l0.length c0] w fun e w'=>∃ v,e=.returned (v)∧Kd.R (Kd.int .i64) 3 w' w.heap.size (fun _=>True) v l0∧Below w.heap.size w w':=by
 have HA:=Aside0.mk hA
 have HL:=Aside0.mk s0
 have HS:=Aside0.mk (St.start w)
 clear hA s0;cases A0 with
 |none =>
  have hn:l0 = []:=by
   rcases Nat.eq_zero_or_pos l0.length with h|h
   ·exact List.eq_nil_of_length_eq_zero h
   ·obtain⟨ad,h1,_⟩:=HA.out.2.2 h
    cases h1
  subst hn;have heq:=fun (W:World)=>Lib.run_eql_slice_nil (P:=Tryz.prog) W 31 3 none 0 c0 0 0 Tryz.underlying31
  go_enter Tryz.func212,Tryz.ntmps212
  go_wp2
  go_ret
  exact⟨_,rfl,Kd.R_nil _ _ _ _ _,Below.refl _ _⟩
 |some ad =>
  have heq:=fun (W:World)=>Lib.run_eql_slice_nil (P:=Tryz.prog) W 31 3 (some ad) l0.length c0 0 0 Tryz.underlying31
  go_enter Tryz.func212,Tryz.ntmps212
  go_wp2_with (first|((with_reducible refine gate_dst (N:=5) rfl ?_);refine Kd.R_lit (Kd.int .i64) _ 3 ?hg (N:=5) ?hd (xs:=([]:List Int)) (inner:=[]) (ok:=fun _=>True) (okp:=fun _=>True) ?hr ?hp (fun _ hk=>hk) trivial (Below.refl _ _) (Nat.le_refl _) (by simp) ?_;(case hd=>rfl);(case hg=>rfl);(case hr=>first|(go_simp;done)|(go_simp;rfl));(case hp=>exact(Reps.none _ _));intro v5 w3 ho hb _ _;have HS1:=Aside0.mk (HS.out.new_row rfl hb ho);clear HS ho hb;have HS:=HS1;clear HS1)|((with_reducible refine gate_builtin (b:=.append) (xs:=#[.tmp 5,.tmp 6]) rfl ?_);at_builtin;refine Kd.R_append_rows (Kd.int .i64) (w0:=w) w.heap.size rfl (.tmp 5) (.tmp 6) 31 3 (.int .i64 0) 8 rfl Tryz.underlying31 info3 rfl (by decide) (by omega) v5 [] l0 (some ad) l0.length c0 (fun _=>True) (fun _=>False) rfl rfl ?aO ?aR (fun _ _ h=>h) (fun _ h=>h.elim) ?aF ?aB ?aS ?aL ?_;(case aO=>exact Kd.R_mono (HS.out.at_R 0 rfl) (fun _ _=>trivial));(case aR=>exact Kd.C_below HA.out HS.out.below);(case aF=>exact fun _ _=>trivial);(case aB=>exact HS.out.below);(case aS=>exact below_size HS.out.below);(case aL=>have:=HL.out;simp only [List.length_nil];omega);intro v1 w9 ho hb hg hat;rw[List.nil_append] at ho;have HO:=Aside0.mk ho;have HB:=Aside0.mk hb;clear ho hb hg hat))
  go_ret
  exact⟨_,rfl,HO.out,HB.out⟩
set_option maxHeartbeats 4000000 in
set_option maxRecDepth 100000 in
theorem l03CopyL {A0:Option Addr} {c0:Nat} (l0:List S94) (s0:l0.length≤1048576) (a1:Int) (w:World) (hA:Kd.C k94 w A0 l0.length l0):Calls Tryz.prog 150 #[.agg #[.slice A0 l0.length c0,.int .i64 a1]] w fun e w'=>∃ v,e=.returned (.agg #[v,.int .i64 a1])∧Kd.R k94 94 w' w.heap.size (fun _=>True) v l0∧Below w.heap.size w w':=by
 have HA:=Aside0.mk hA
 clear hA;have HS:=Aside0.mk (St.start w)
 go_enter Tryz.func150,Tryz.ntmps150
 go_wp2_with (first|((with_reducible refine gate_dst (N:=1) rfl ?_);refine boxS HS (N:=1) (cs:=#[.slice A0 l0.length c0,.int .i64 a1]) (t:=42) fun g1 w1 S=>?_;clear HS;have HS:=Aside0.mk S;obtain⟨ha0,ha1⟩:=S.cells2 0 rfl;clear S)|((with_reducible refine gate_dst (N:=2) rfl ?_);refine boxS HS (N:=2) (cs:=#[.slice none 0 0,.int .i64 0]) (t:=42) fun g2 w2 S=>?_;clear HS ha0 ha1;have HS:=Aside0.mk S;obtain⟨hb0,hb1⟩:=S.cells2 0 rfl;obtain⟨fb0,fb1⟩:=S.frozen2 0 rfl;obtain⟨ha0,ha1⟩:=S.cells2 1 rfl;clear S))
 clear ha0 ha1 hb0 hb1 fb0 fb1;refine start_ (n:=8) (S:=fun w'=>w'.cell? ⟨g1,0,none⟩=some (.slice A0 l0.length c0)∧w'.cell? ⟨g1,1,none⟩=some (.int .i64 a1)) (ds:=[]) #[false,false,false,false,false,false,false,false] (by kernel_rfl) rfl rfl ⟨HS.out.at_cell 1 rfl 0 rfl,HS.out.at_cell 1 rfl 1 rfl⟩ (fun hHeld=>?_)
 have HS:=Aside0.mk HS.out.drew
 generalize w2.drew=w3 at HS hHeld ⊢
 refine puA (i:=1) (N:=some 4) ?_
 refine puA (i:=4) (N:=some 7) ?_
 refine taA (i:=2) (N:=some 5) hHeld ?_
 refine taA (i:=5) (N:=some 8) hHeld ?_
 refine one_ (i:=0) (N:=some 3) #[true,true,true,false,true,true,false,false] rfl rfl (by kernel_rfl) (by decide) (fun K hK=>?_)
 refine Kd.R_lit_step k94 _ 94 ?hg (N:=3) ?hd (xs:=([]:List S94)) (inner:=[]) (ok:=fun _=>True) (okp:=fun _=>True) ?hr ?hp (fun _ hk=>hk) trivial (Below.refl _ _) (Nat.le_refl _) (by simp) ?_;(case hd=>rfl);(case hg=>rfl);(case hr=>first|(go_simp;done)|(go_simp;rfl));(case hp=>exact(Reps.none _ _))
 intro v3 w4 ho hb _ _
 have HS:=Aside0.mk (HS.out.new_row rfl hb ho)
 clear ho hb;refine hK.out _ _ ⟨HS.out.at_cell 2 rfl 0 rfl,HS.out.at_cell 2 rfl 1 rfl⟩ (fun hHeld=>?_)
 clear hK K;refine norm_ (a':=?_) ?_ ?_
 rotate_left
 ·show Act.put _ (some 3) _=_;simp only [Act.put,List.setIfInBounds_toArray,List.set_cons_zero,List.set_cons_succ,i64_w,i32_w];rfl
 refine one_ (i:=3) (N:=some 6) #[true,true,true,true,true,true,false,false] rfl rfl (by kernel_rfl) (by decide) (fun K hK=>?_)
 refine Kd.R_append_rows_step k94 (w0:=w) w.heap.size (by rfl) (.tmp 3) (.tmp 5) 40 94 (.agg #[(.int .i64 0),(.bool false),(.string ⟨#[]⟩),(.string ⟨#[]⟩),(.int .i64 0)]) 56 rfl Tryz.underlying40 info94 rfl (by decide) (by omega) v3 [] l0 _ _ _ (fun _=>True) (fun _=>False) rfl rfl ?aO ?aR (fun _ _ h=>h) (fun _ h=>h.elim) ?aF ?aB ?aS ?aL ?_;(case aR=>exact Kd.C_below HA.out HS.out.below);(case aB=>exact HS.out.below);(case aF=>exact fun _ _=>trivial);(case aO=>exact Kd.R_mono (HS.out.at_R 0 rfl) (fun _ _=>trivial));(case aS=>exact below_size HS.out.below);(case aL=>simp only [List.length_nil];omega)
 intro v6 w5 ho hb hg hat
 rw[List.nil_append] at ho;have S:=HS.out.appended rfl hb hg ho hat
 obtain⟨B0,d0,rfl⟩:=Kd.R_slice ho;clear ho hb hg hat HS;have HS:=Aside0.mk S
 clear S;refine hK.out _ _ ⟨HS.out.at_cell 2 rfl 0 rfl,HS.out.at_cell 2 rfl 1 rfl⟩ (fun hHeld=>?_)
 clear hK K;refine norm_ (a':=?_) ?_ ?_
 rotate_left
 ·show Act.put _ (some 6) _=_;simp only [Act.put,List.setIfInBounds_toArray,List.set_cons_zero,List.set_cons_succ,i64_w,i32_w];rfl
 refine puA (i:=6) (N:=some 9) ?_
 refine one_ (i:=7) (N:=none) #[true,true,true,true,true,true,true,true] rfl rfl (by kernel_rfl) (by decide) (fun K hK=>?_)
 have S:=HS.out;obtain⟨hb0,hb1⟩:=S.cells2 1 rfl
 obtain⟨fb0,fb1⟩:=S.frozen2 1 rfl
 obtain⟨ha0,ha1⟩:=S.cells2 2 rfl
 have nba:=S.at_ne 1 2 rfl rfl (by decide)
 have nab:=S.at_ne 2 1 rfl rfl (by decide)
 refine skip_ (w1:=?_) (by rfl) rfl ?_ ?_
 rotate_left
 ·go_simp;rfl
 have S:=S.front 1 rfl rfl
 have S:=S.put2 (Value.slice B0 l0.length d0) (Value.int .i64 a1)
 clear HS ha0 ha1 hb0 hb1 fb0 fb1;have HS:=Aside0.mk S
 clear S;refine hK.out _ _ ⟨HS.out.at_cell 2 rfl 0 rfl,HS.out.at_cell 2 rfl 1 rfl⟩ (fun hHeld=>?_)
 clear hK K;refine done_ (by kernel_rfl) ?_
 try go_wp2
 refine bodyPost_ret (results_cell_row rfl _ _ g2 42 #[Value.slice B0 l0.length d0,Value.int .i64 a1] (0,0) _ rfl HS.out.head.2 Tryz.underlying42 rfl (by kernel_rfl)) rfl ?_
 exact⟨_,rfl,Kd.R_mono (HS.out.at_R 1 rfl) (fun _ _=>trivial),HS.out.below⟩
set_option maxHeartbeats 4000000 in
set_option maxRecDepth 100000 in
theorem l05CopyL {A0:Option Addr} {c0:Nat} (l0:List Int) (s0:l0.length≤1048576) (a1:Int) (w:World) (hA:Kd.C (Kd.int .i64) w A0 l0.length l0):Calls Tryz.prog 152 #[.agg #[.slice A0 l0.length c0,.int .i64 a1]] w fun e w'=>∃ v,e=.returned (.agg #[v,.int .i64 a1])∧Kd.R (Kd.int .i64) 3 w' w.heap.size (fun _=>True) v l0∧Below w.heap.size w w':=by
 have HA:=Aside0.mk hA
 clear hA;have HS:=Aside0.mk (St.start w)
 go_enter Tryz.func152,Tryz.ntmps152
 go_wp2_with (first|((with_reducible refine gate_dst (N:=1) rfl ?_);refine boxS HS (N:=1) (cs:=#[.slice A0 l0.length c0,.int .i64 a1]) (t:=47) fun g1 w1 S=>?_;clear HS;have HS:=Aside0.mk S;obtain⟨ha0,ha1⟩:=S.cells2 0 rfl;clear S)|((with_reducible refine gate_dst (N:=2) rfl ?_);refine boxS HS (N:=2) (cs:=#[.slice none 0 0,.int .i64 0]) (t:=47) fun g2 w2 S=>?_;clear HS ha0 ha1;have HS:=Aside0.mk S;obtain⟨hb0,hb1⟩:=S.cells2 0 rfl;obtain⟨fb0,fb1⟩:=S.frozen2 0 rfl;obtain⟨ha0,ha1⟩:=S.cells2 1 rfl;clear S))
 clear ha0 ha1 hb0 hb1 fb0 fb1;refine start_ (n:=8) (S:=fun w'=>w'.cell? ⟨g1,0,none⟩=some (.slice A0 l0.length c0)∧w'.cell? ⟨g1,1,none⟩=some (.int .i64 a1)) (ds:=[]) #[false,false,false,false,false,false,false,false] (by kernel_rfl) rfl rfl ⟨HS.out.at_cell 1 rfl 0 rfl,HS.out.at_cell 1 rfl 1 rfl⟩ (fun hHeld=>?_)
 have HS:=Aside0.mk HS.out.drew
 generalize w2.drew=w3 at HS hHeld ⊢
 refine puA (i:=1) (N:=some 4) ?_
 refine puA (i:=4) (N:=some 7) ?_
 refine taA (i:=2) (N:=some 5) hHeld ?_
 refine taA (i:=5) (N:=some 8) hHeld ?_
 refine one_ (i:=0) (N:=some 3) #[true,true,true,false,true,true,false,false] rfl rfl (by kernel_rfl) (by decide) (fun K hK=>?_)
 refine Kd.R_lit_step (Kd.int .i64) _ 3 ?hg (N:=3) ?hd (xs:=([]:List Int)) (inner:=[]) (ok:=fun _=>True) (okp:=fun _=>True) ?hr ?hp (fun _ hk=>hk) trivial (Below.refl _ _) (Nat.le_refl _) (by simp) ?_;(case hd=>rfl);(case hg=>rfl);(case hr=>first|(go_simp;done)|(go_simp;rfl));(case hp=>exact(Reps.none _ _))
 intro v3 w4 ho hb _ _
 have HS:=Aside0.mk (HS.out.new_row rfl hb ho)
 clear ho hb;refine hK.out _ _ ⟨HS.out.at_cell 2 rfl 0 rfl,HS.out.at_cell 2 rfl 1 rfl⟩ (fun hHeld=>?_)
 clear hK K;refine norm_ (a':=?_) ?_ ?_
 rotate_left
 ·show Act.put _ (some 3) _=_;simp only [Act.put,List.setIfInBounds_toArray,List.set_cons_zero,List.set_cons_succ,i64_w,i32_w];rfl
 refine one_ (i:=3) (N:=some 6) #[true,true,true,true,true,true,false,false] rfl rfl (by kernel_rfl) (by decide) (fun K hK=>?_)
 refine Kd.R_append_rows_step (Kd.int .i64) (w0:=w) w.heap.size (by rfl) (.tmp 3) (.tmp 5) 31 3 (.int .i64 0) 8 rfl Tryz.underlying31 info3 rfl (by decide) (by omega) v3 [] l0 _ _ _ (fun _=>True) (fun _=>False) rfl rfl ?aO ?aR (fun _ _ h=>h) (fun _ h=>h.elim) ?aF ?aB ?aS ?aL ?_;(case aR=>exact Kd.C_below HA.out HS.out.below);(case aB=>exact HS.out.below);(case aF=>exact fun _ _=>trivial);(case aO=>exact Kd.R_mono (HS.out.at_R 0 rfl) (fun _ _=>trivial));(case aS=>exact below_size HS.out.below);(case aL=>simp only [List.length_nil];omega)
 intro v6 w5 ho hb hg hat
 rw[List.nil_append] at ho;have S:=HS.out.appended rfl hb hg ho hat
 obtain⟨B0,d0,rfl⟩:=Kd.R_slice ho;clear ho hb hg hat HS;have HS:=Aside0.mk S
 clear S;refine hK.out _ _ ⟨HS.out.at_cell 2 rfl 0 rfl,HS.out.at_cell 2 rfl 1 rfl⟩ (fun hHeld=>?_)
 clear hK K;refine norm_ (a':=?_) ?_ ?_
 rotate_left
 ·show Act.put _ (some 6) _=_;simp only [Act.put,List.setIfInBounds_toArray,List.set_cons_zero,List.set_cons_succ,i64_w,i32_w];rfl
 refine puA (i:=6) (N:=some 9) ?_
 refine one_ (i:=7) (N:=none) #[true,true,true,true,true,true,true,true] rfl rfl (by kernel_rfl) (by decide) (fun K hK=>?_)
 have S:=HS.out;obtain⟨hb0,hb1⟩:=S.cells2 1 rfl
 obtain⟨fb0,fb1⟩:=S.frozen2 1 rfl
 obtain⟨ha0,ha1⟩:=S.cells2 2 rfl
 have nba:=S.at_ne 1 2 rfl rfl (by decide)
 have nab:=S.at_ne 2 1 rfl rfl (by decide)
 refine skip_ (w1:=?_) (by rfl) rfl ?_ ?_
 rotate_left
 ·go_simp;rfl
 have S:=S.front 1 rfl rfl
 have S:=S.put2 (Value.slice B0 l0.length d0) (Value.int .i64 a1)
 clear HS ha0 ha1 hb0 hb1 fb0 fb1;have HS:=Aside0.mk S
 clear S;refine hK.out _ _ ⟨HS.out.at_cell 2 rfl 0 rfl,HS.out.at_cell 2 rfl 1 rfl⟩ (fun hHeld=>?_)
 clear hK K;refine done_ (by kernel_rfl) ?_
 try go_wp2
 refine bodyPost_ret (results_cell_row rfl _ _ g2 47 #[Value.slice B0 l0.length d0,Value.int .i64 a1] (0,0) _ rfl HS.out.head.2 Tryz.underlying47 rfl (by kernel_rfl)) rfl ?_
 exact⟨_,rfl,Kd.R_mono (HS.out.at_R 1 rfl) (fun _ _=>trivial),HS.out.below⟩
set_option maxHeartbeats 4000000 in
set_option maxRecDepth 100000 in
theorem copyArenaL {A0:Option Addr} {c0:Nat} (l0:List S94) (s0:l0.length≤1048576) (a1:Int) (w:World) (hA:Kd.C k94 w A0 l0.length l0):Calls Tryz.prog 142 #[.agg #[.slice A0 l0.length c0,.int .i64 a1]] w fun e w'=>∃ v,e=.returned (.agg #[v,.int .i64 a1])∧Kd.R k94 94 w' w.heap.size (fun _=>True) v l0∧Below w.heap.size w w':=by
 have HA:=Aside0.mk hA
 clear hA;have HS:=Aside0.mk (St.start w)
 go_enter Tryz.func142,Tryz.ntmps142
 go_wp2_with (first|((with_reducible refine gate_dst (N:=1) rfl ?_);refine boxS HS (N:=1) (cs:=#[.slice A0 l0.length c0,.int .i64 a1]) (t:=42) fun g1 w1 S=>?_;clear HS;have HS:=Aside0.mk S;obtain⟨ha0,ha1⟩:=S.cells2 0 rfl;clear S)|((with_reducible refine gate_dst (N:=2) rfl ?_);refine boxS HS (N:=2) (cs:=#[.slice none 0 0,.int .i64 0]) (t:=42) fun g2 w2 S=>?_;clear HS ha0 ha1;have HS:=Aside0.mk S;obtain⟨hb0,hb1⟩:=S.cells2 0 rfl;obtain⟨fb0,fb1⟩:=S.frozen2 0 rfl;obtain⟨ha0,ha1⟩:=S.cells2 1 rfl;obtain⟨fa0,fa1⟩:=S.frozen2 1 rfl;have nba:=S.at_ne 0 1 rfl rfl (by decide);have nab:=S.at_ne 1 0 rfl rfl (by decide);clear S))
 refine(cloneSlotL l0 s0 _ (Kd.C_below HA.out HS.out.below)).mono ?_
 rintro e w3 ⟨v,rfl,hr,hb⟩
 have S:=HS.out.new_row rfl hb hr
 obtain⟨B0,d0,rfl⟩:=Kd.R_slice hr;clear hr hb HS ha0 ha1 hb0 hb1 fa0 fa1 fb0 fb1;have HS:=Aside0.mk S
 obtain⟨hb0,hb1⟩:=S.cells2 1 rfl
 obtain⟨fb0,fb1⟩:=S.frozen2 1 rfl
 obtain⟨ha0,ha1⟩:=S.cells2 2 rfl
 obtain⟨fa0,fa1⟩:=S.frozen2 2 rfl
 clear S;go_wp2_with fail
 have S:=(HS.out.front 2 rfl rfl).put (cs':=#[Value.slice B0 l0.length d0,Value.int .i64 a1]) 0 (Value.slice B0 l0.length d0) rfl
 have S:=S.front 2 rfl rfl
 have S:=S.put2 (Value.slice B0 l0.length d0) (Value.int .i64 a1)
 refine bodyPost_ret (results_cell_row rfl _ _ g2 42 #[Value.slice B0 l0.length d0,Value.int .i64 a1] (0,0) _ rfl S.head.2 Tryz.underlying42 rfl (by kernel_rfl)) rfl ?_
 exact⟨_,rfl,Kd.R_mono (S.at_R 2 rfl) (fun _ _=>trivial),S.below⟩
set_option maxHeartbeats 4000000 in
set_option maxRecDepth 100000 in
theorem copyQueueL {A0:Option Addr} {c0:Nat} (l0:List ByteArray) (s0:l0.length≤1048576) (a1:Int) (w:World) (hA:Kd.C Kd.string w A0 l0.length l0):Calls Tryz.prog 144 #[.agg #[.int .i64 a1,.slice A0 l0.length c0]] w fun e w'=>∃ v,e=.returned (.agg #[.int .i64 a1,v])∧Kd.R Kd.string 9 w' w.heap.size (fun _=>True) v l0∧Below w.heap.size w w':=by
 have HA:=Aside0.mk hA
 clear hA;have HS:=Aside0.mk (St.start w)
 go_enter Tryz.func144,Tryz.ntmps144
 go_wp2_with (first|((with_reducible refine gate_dst (N:=1) rfl ?_);refine boxS HS (N:=1) (cs:=#[.int .i64 a1,.slice A0 l0.length c0]) (t:=46) fun g1 w1 S=>?_;clear HS;have HS:=Aside0.mk S;obtain⟨ha0,ha1⟩:=S.cells2 0 rfl;clear S)|((with_reducible refine gate_dst (N:=2) rfl ?_);refine boxS HS (N:=2) (cs:=#[.int .i64 0,.slice none 0 0]) (t:=46) fun g2 w2 S=>?_;clear HS ha0 ha1;have HS:=Aside0.mk S;obtain⟨hb0,hb1⟩:=S.cells2 0 rfl;obtain⟨fb0,fb1⟩:=S.frozen2 0 rfl;obtain⟨ha0,ha1⟩:=S.cells2 1 rfl;obtain⟨fa0,fa1⟩:=S.frozen2 1 rfl;have nba:=S.at_ne 0 1 rfl rfl (by decide);have nab:=S.at_ne 1 0 rfl rfl (by decide);clear S))
 refine(cloneStringL l0 s0 _ (Kd.C_below HA.out HS.out.below)).mono ?_
 rintro e w3 ⟨v,rfl,hr,hb⟩
 have S:=HS.out.new_row rfl hb hr
 obtain⟨B0,d0,rfl⟩:=Kd.R_slice hr;clear hr hb HS ha0 ha1 hb0 hb1 fa0 fa1 fb0 fb1;have HS:=Aside0.mk S
 obtain⟨hb0,hb1⟩:=S.cells2 1 rfl
 obtain⟨fb0,fb1⟩:=S.frozen2 1 rfl
 obtain⟨ha0,ha1⟩:=S.cells2 2 rfl
 obtain⟨fa0,fa1⟩:=S.frozen2 2 rfl
 clear S;go_wp2_with fail
 have S:=(HS.out.front 2 rfl rfl).put (cs':=#[Value.int .i64 a1,Value.slice B0 l0.length d0]) 1 (Value.slice B0 l0.length d0) rfl
 have S:=S.front 2 rfl rfl
 have S:=S.put2 (Value.int .i64 a1) (Value.slice B0 l0.length d0)
 refine bodyPost_ret (results_cell_row rfl _ _ g2 46 #[Value.int .i64 a1,Value.slice B0 l0.length d0] (0,0) _ rfl S.head.2 Tryz.underlying46 rfl (by kernel_rfl)) rfl ?_
 exact⟨_,rfl,Kd.R_mono (S.at_R 2 rfl) (fun _ _=>trivial),S.below⟩
set_option maxHeartbeats 4000000 in
set_option maxRecDepth 100000 in
theorem copySketchL {A0:Option Addr} {c0:Nat} (l0:List Int) (s0:l0.length≤1048576) (a1:Int) (w:World) (hA:Kd.C (Kd.int .i64) w A0 l0.length l0):Calls Tryz.prog 145 #[.agg #[.slice A0 l0.length c0,.int .i64 a1]] w fun e w'=>∃ v,e=.returned (.agg #[v,.int .i64 a1])∧Kd.R (Kd.int .i64) 3 w' w.heap.size (fun _=>True) v l0∧Below w.heap.size w w':=by
 have HA:=Aside0.mk hA
 clear hA;have HS:=Aside0.mk (St.start w)
 go_enter Tryz.func145,Tryz.ntmps145
 go_wp2_with (first|((with_reducible refine gate_dst (N:=1) rfl ?_);refine boxS HS (N:=1) (cs:=#[.slice A0 l0.length c0,.int .i64 a1]) (t:=47) fun g1 w1 S=>?_;clear HS;have HS:=Aside0.mk S;obtain⟨ha0,ha1⟩:=S.cells2 0 rfl;clear S)|((with_reducible refine gate_dst (N:=2) rfl ?_);refine boxS HS (N:=2) (cs:=#[.slice none 0 0,.int .i64 0]) (t:=47) fun g2 w2 S=>?_;clear HS ha0 ha1;have HS:=Aside0.mk S;obtain⟨hb0,hb1⟩:=S.cells2 0 rfl;obtain⟨fb0,fb1⟩:=S.frozen2 0 rfl;obtain⟨ha0,ha1⟩:=S.cells2 1 rfl;obtain⟨fa0,fa1⟩:=S.frozen2 1 rfl;have nba:=S.at_ne 0 1 rfl rfl (by decide);have nab:=S.at_ne 1 0 rfl rfl (by decide);clear S))
 refine(cloneIntL l0 s0 _ (Kd.C_below HA.out HS.out.below)).mono ?_
 rintro e w3 ⟨v,rfl,hr,hb⟩
 have S:=HS.out.new_row rfl hb hr
 obtain⟨B0,d0,rfl⟩:=Kd.R_slice hr;clear hr hb HS ha0 ha1 hb0 hb1 fa0 fa1 fb0 fb1;have HS:=Aside0.mk S
 obtain⟨hb0,hb1⟩:=S.cells2 1 rfl
 obtain⟨fb0,fb1⟩:=S.frozen2 1 rfl
 obtain⟨ha0,ha1⟩:=S.cells2 2 rfl
 obtain⟨fa0,fa1⟩:=S.frozen2 2 rfl
 clear S;go_wp2_with fail
 have S:=(HS.out.front 2 rfl rfl).put (cs':=#[Value.slice B0 l0.length d0,Value.int .i64 a1]) 0 (Value.slice B0 l0.length d0) rfl
 have S:=S.front 2 rfl rfl
 have S:=S.put2 (Value.slice B0 l0.length d0) (Value.int .i64 a1)
 refine bodyPost_ret (results_cell_row rfl _ _ g2 47 #[Value.slice B0 l0.length d0,Value.int .i64 a1] (0,0) _ rfl S.head.2 Tryz.underlying47 rfl (by kernel_rfl)) rfl ?_
 exact⟨_,rfl,Kd.R_mono (S.at_R 2 rfl) (fun _ _=>trivial),S.below⟩
set_option maxHeartbeats 4000000 in
set_option maxRecDepth 100000 in
theorem copyTableL {A0 A1:Option Addr} {c0 c1:Nat} (l0:List S151) (s0:l0.length≤1048576) (l1:List S151) (s1:l1.length≤1048576) (a2:Int) (w:World) (hA0:Kd.C k151 w A0 l0.length l0) (hA1:Kd.C k151 w A1 l1.length l1):Calls Tryz.prog 143 #[.agg #[.slice A0 l0.length c0,.slice A1 l1.length c1,.int .i64 a2]] w fun e w'=>∃ v0 v1:Value,e=.returned (.agg #[v0,v1,.int .i64 a2])∧St w w' [Part.row k151 151 v0 l0,Part.row k151 151 v1 l1]:=by
 have HA0:=Aside0.mk hA0
 have HA1:=Aside0.mk hA1
 clear hA0 hA1;have HS:=Aside0.mk (St.start w)
 go_enter Tryz.func143,Tryz.ntmps143
 go_wp2_with (first|((with_reducible refine gate_dst (N:=1) rfl ?_);refine boxS HS (N:=1) (cs:=#[.slice A0 l0.length c0,.slice A1 l1.length c1,.int .i64 a2]) (t:=45) fun g1 w1 S=>?_;clear HS;have HS:=Aside0.mk S;obtain⟨ha0,ha1,ha2⟩:=S.cells3 0 rfl;clear S)|((with_reducible refine gate_dst (N:=2) rfl ?_);refine boxS HS (N:=2) (cs:=#[.slice none 0 0,.slice none 0 0,.int .i64 0]) (t:=45) fun g2 w2 S=>?_;clear HS ha0 ha1 ha2;have HS:=Aside0.mk S;obtain⟨hb0,hb1,hb2⟩:=S.cells3 0 rfl;obtain⟨ha0,ha1,ha2⟩:=S.cells3 1 rfl;clear S))
 clear ha0 ha1 ha2 hb0 hb1 hb2;refine start_ (n:=10) (S:=fun w'=>w'.cell? ⟨g1,0,none⟩=some (.slice A0 l0.length c0)∧w'.cell? ⟨g1,1,none⟩=some (.slice A1 l1.length c1)∧w'.cell? ⟨g1,2,none⟩=some (.int .i64 a2)) (ds:=[7,9]) #[false,false,false,false,false,false,false,false,false,false] (by kernel_rfl) rfl rfl ⟨HS.out.at_cell 1 rfl 0 rfl,HS.out.at_cell 1 rfl 1 rfl,HS.out.at_cell 1 rfl 2 rfl⟩ (fun hHeld=>?_)
 have HS:=Aside0.mk HS.out.drew
 generalize w2.drew=w3 at HS hHeld ⊢
 refine puA (i:=0) (N:=some 3) ?_
 refine puA (i:=3) (N:=some 6) ?_
 refine taA (i:=1) (N:=some 4) hHeld ?_
 refine taA (i:=4) (N:=some 7) hHeld ?_
 refine one_ (i:=2) (N:=some 5) #[true,true,true,true,true,false,false,false,false,false] rfl rfl (by kernel_rfl) (by decide) (fun K hK=>?_)
 refine goes_ Tryz.func210 (by kernel_rfl) rfl #[.slice A0 l0.length c0] (by rfl) rfl rfl (by(try simp only [List.map_toArray,List.map_cons,List.map_nil]);first|done|rfl|(simp only [List.length_drop,List.length_take];rfl)) ?_
 refine(cloneCellL l0 s0 _ (Kd.C_below HA0.out HS.out.below)).mono ?_
 rintro e w4 ⟨v0,rfl,hr,hb⟩
 refine⟨_,rfl,?_⟩
 have S:=HS.out.new_row rfl hb hr
 obtain⟨B0,d0,rfl⟩:=Kd.R_slice hr;clear HS hr hb;have HS:=Aside0.mk S
 clear S;refine hK.out _ _ ⟨HS.out.at_cell 2 rfl 0 rfl,HS.out.at_cell 2 rfl 1 rfl,HS.out.at_cell 2 rfl 2 rfl⟩ (fun hHeld=>?_)
 clear hK K;refine norm_ (a':=?_) ?_ ?_
 rotate_left
 ·show Act.put _ (some 5) _=_;simp only [Act.put,List.setIfInBounds_toArray,List.set_cons_zero,List.set_cons_succ,i64_w,i32_w];rfl
 refine puA (i:=6) (N:=some 9) ?_
 refine one_ (i:=5) (N:=some 8) #[true,true,true,true,true,true,true,false,false,false] rfl rfl (by kernel_rfl) (by decide) (fun K hK=>?_)
 refine goes_ Tryz.func210 (by kernel_rfl) rfl #[.slice A1 l1.length c1] (by rfl) rfl rfl (by(try simp only [List.map_toArray,List.map_cons,List.map_nil]);first|done|rfl|(simp only [List.length_drop,List.length_take];rfl)) ?_
 refine(cloneCellL l1 s1 _ (Kd.C_below HA1.out HS.out.below)).mono ?_
 rintro e w5 ⟨v1,rfl,hr,hb⟩
 refine⟨_,rfl,?_⟩
 have S:=HS.out.new_row rfl hb hr
 obtain⟨B1,d1,rfl⟩:=Kd.R_slice hr;clear HS hr hb;have HS:=Aside0.mk S
 clear S;refine hK.out _ _ ⟨HS.out.at_cell 3 rfl 0 rfl,HS.out.at_cell 3 rfl 1 rfl,HS.out.at_cell 3 rfl 2 rfl⟩ (fun hHeld=>?_)
 clear hK K;refine norm_ (a':=?_) ?_ ?_
 rotate_left
 ·show Act.put _ (some 8) _=_;simp only [Act.put,List.setIfInBounds_toArray,List.set_cons_zero,List.set_cons_succ,i64_w,i32_w];rfl
 refine last_ (i:=7) (N:=none) #[true,true,true,true,true,true,true,true,false,false] rfl rfl (by kernel_rfl) (by decide) (fun K hK=>?_)
 obtain⟨hb0,hb1,hb2⟩:=HS.out.cells3 2 rfl
 obtain⟨ha0,ha1,ha2⟩:=HS.out.cells3 3 rfl
 obtain⟨fa0,fa1,fa2⟩:=HS.out.frozen3 3 rfl
 refine skip_ (w1:=?_) (by rfl) rfl ?_ ?_
 rotate_left
 ·go_simp;rfl
 have HS:=Aside0.mk (HS.out.front 3 rfl rfl)
 have S:=HS.out;have S:=S.put (cs':=#[Value.slice B0 l0.length d0,Value.slice A1 l1.length c1,Value.int .i64 a2]) 0 (Value.slice B0 l0.length d0) rfl
 clear HS;have HS:=Aside0.mk S
 clear S;refine hK.out _ _ ?_
 clear hK K;clear ha0 ha1 ha2 hb0 hb1 hb2 fa0 fa1 fa2;refine puA (i:=8) (N:=some 10) ?_
 refine last_ (i:=9) (N:=none) #[true,true,true,true,true,true,true,true,true,true] rfl rfl (by kernel_rfl) (by decide) (fun K hK=>?_)
 obtain⟨ha0,ha1,ha2⟩:=HS.out.cells3 0 rfl
 obtain⟨fa0,fa1,fa2⟩:=HS.out.frozen3 0 rfl
 obtain⟨hb0,hb1,hb2⟩:=HS.out.cells3 3 rfl
 refine skip_ (w1:=?_) (by rfl) rfl ?_ ?_
 rotate_left
 ·go_simp;rfl
 have S:=HS.out;have S:=S.put (cs':=#[Value.slice B0 l0.length d0,Value.slice B1 l1.length d1,Value.int .i64 a2]) 1 (Value.slice B1 l1.length d1) rfl
 clear HS;have HS:=Aside0.mk S
 clear S;refine hK.out _ _ ?_
 clear hK K;clear ha0 ha1 ha2 hb0 hb1 hb2 fa0 fa1 fa2;refine done_ (by kernel_rfl) ?_
 obtain⟨ha0,ha1,ha2⟩:=HS.out.cells3 0 rfl
 obtain⟨fa0,fa1,fa2⟩:=HS.out.frozen3 0 rfl
 obtain⟨hb0,hb1,hb2⟩:=HS.out.cells3 3 rfl
 obtain⟨fb0,fb1,fb2⟩:=HS.out.frozen3 3 rfl
 have nba:=HS.out.at_ne 3 0 rfl rfl (by decide)
 have nab:=HS.out.at_ne 0 3 rfl rfl (by decide)
 go_wp2_with fail
 have HS:=Aside0.mk (HS.out.front 3 rfl rfl)
 have S:=HS.out;have S:=S.put3 (Value.slice B0 l0.length d0) (Value.slice B1 l1.length d1) (Value.int .i64 a2)
 refine bodyPost_ret (results_cell_row rfl _ _ g2 45 #[Value.slice B0 l0.length d0,Value.slice B1 l1.length d1,Value.int .i64 a2] (0,0) _ rfl S.head.2 Tryz.underlying45 rfl (by kernel_rfl)) rfl ?_
 have S:=S.front 1 rfl rfl
 have S:=S.tail;have S:=S.front 1 rfl rfl
 have S:=S.front 2 rfl rfl
 exact⟨_,_,rfl,(S.front 2 rfl rfl).tail⟩
set_option maxHeartbeats 4000000 in
set_option maxRecDepth 100000 in
theorem copyNearL (w:World) (v:NV) (n:Nr) (hn:n.short) (hC:NearC w v n):Calls Tryz.prog 71 #[.agg (v.cells n)] w fun e w'=>∃ u:NV,e=.returned (.agg (u.cells n))∧St w w' (u.rows n):=by
 obtain⟨A0,c0,A2,c2,A3,c3,A6,c6,A8,c8,A10,c10,A11,c11,rfl,hF⟩:=hC.open_;have HF:=Aside0.mk hF
 have HN:=Aside0.mk hn
 have HS:=Aside0.mk (St.start w)
 clear hC hF hn;dsimp only [NV.cells]
 go_enter Tryz.func71,Tryz.ntmps71
 go_wp2_with (first|((with_reducible refine gate_dst (N:=1) rfl ?_);refine boxS HS (N:=1) (cs:=#[.slice A0 n.sl.length c0,.int .i64 n.fr,.slice A2 n.ce.length c2,.slice A3 n.old.length c3,.int .i64 n.mv,.int .i64 n.wm,.slice A6 n.wk.length c6,.int .i64 n.tm,.slice A8 n.tk.length c8,.int .i64 n.sm,.slice A10 n.sk.length c10,.slice A11 n.ct.length c11,.int .i64 n.ad,.int .i64 n.db]) (t:=50) fun g1 w1 S=>?_;clear HS;have HS:=Aside0.mk S;obtain⟨ha0,ha1,ha2,ha3,ha4,ha5,ha6,ha7,ha8,ha9,ha10,ha11,ha12,ha13⟩:=S.cells14 0 rfl;clear S)|((with_reducible refine gate_dst (N:=2) rfl ?_);refine boxS HS (N:=2) (cs:=#[.slice none 0 0,.int .i64 0,.slice none 0 0,.slice none 0 0,.int .i64 0,.int .i64 0,.slice none 0 0,.int .i64 0,.slice none 0 0,.int .i64 0,.slice none 0 0,.slice none 0 0,.int .i64 0,.int .i64 0]) (t:=50) fun g2 w2 S=>?_;clear HS ha0 ha1 ha2 ha3 ha4 ha5 ha6 ha7 ha8 ha9 ha10 ha11 ha12 ha13;have HS:=Aside0.mk S;obtain⟨hb0,hb1,hb2,hb3,hb4,hb5,hb6,hb7,hb8,hb9,hb10,hb11,hb12,hb13⟩:=S.cells14 0 rfl;obtain⟨ha0,ha1,ha2,ha3,ha4,ha5,ha6,ha7,ha8,ha9,ha10,ha11,ha12,ha13⟩:=S.cells14 1 rfl;clear S))
 clear ha0 ha1 ha2 ha3 ha4 ha5 ha6 ha7 ha8 ha9 ha10 ha11 ha12 ha13 hb0 hb1 hb2 hb3 hb4 hb5 hb6 hb7 hb8 hb9 hb10 hb11 hb12 hb13;refine start_ (n:=22) (S:=fun w'=>w'.cell? ⟨g1,0,none⟩=some (.slice A0 n.sl.length c0)∧w'.cell? ⟨g1,1,none⟩=some (.int .i64 n.fr)∧w'.cell? ⟨g1,2,none⟩=some (.slice A2 n.ce.length c2)∧w'.cell? ⟨g1,3,none⟩=some (.slice A3 n.old.length c3)∧w'.cell? ⟨g1,4,none⟩=some (.int .i64 n.mv)∧w'.cell? ⟨g1,5,none⟩=some (.int .i64 n.wm)∧w'.cell? ⟨g1,6,none⟩=some (.slice A6 n.wk.length c6)∧w'.cell? ⟨g1,7,none⟩=some (.int .i64 n.tm)∧w'.cell? ⟨g1,8,none⟩=some (.slice A8 n.tk.length c8)∧w'.cell? ⟨g1,9,none⟩=some (.int .i64 n.sm)∧w'.cell? ⟨g1,10,none⟩=some (.slice A10 n.sk.length c10)∧w'.cell? ⟨g1,11,none⟩=some (.slice A11 n.ct.length c11)∧w'.cell? ⟨g1,12,none⟩=some (.int .i64 n.ad)∧w'.cell? ⟨g1,13,none⟩=some (.int .i64 n.db)) (ds:=[]) #[false,false,false,false,false,false,false,false,false,false,false,false,false,false,false,false,false,false,false,false,false,false] (by kernel_rfl) rfl rfl ⟨HS.out.at_cell 1 rfl 0 rfl,HS.out.at_cell 1 rfl 1 rfl,HS.out.at_cell 1 rfl 2 rfl,HS.out.at_cell 1 rfl 3 rfl,HS.out.at_cell 1 rfl 4 rfl,HS.out.at_cell 1 rfl 5 rfl,HS.out.at_cell 1 rfl 6 rfl,HS.out.at_cell 1 rfl 7 rfl,HS.out.at_cell 1 rfl 8 rfl,HS.out.at_cell 1 rfl 9 rfl,HS.out.at_cell 1 rfl 10 rfl,HS.out.at_cell 1 rfl 11 rfl,HS.out.at_cell 1 rfl 12 rfl,HS.out.at_cell 1 rfl 13 rfl⟩ (fun hHeld=>?_)
 have HS:=Aside0.mk HS.out.drew
 generalize w2.drew=w3 at HS hHeld ⊢
 refine puA (i:=0) (N:=some 3) ?_
 refine puA (i:=3) (N:=some 6) ?_
 refine puA (i:=6) (N:=some 9) ?_
 refine puA (i:=9) (N:=some 12) ?_
 refine puA (i:=12) (N:=some 15) ?_
 refine puA (i:=15) (N:=some 18) ?_
 refine puA (i:=18) (N:=some 21) ?_
 refine taA (i:=1) (N:=some 4) hHeld ?_
 refine taA (i:=4) (N:=some 7) hHeld ?_
 refine taA (i:=7) (N:=some 10) hHeld ?_
 refine taA (i:=10) (N:=some 13) hHeld ?_
 refine taA (i:=13) (N:=some 16) hHeld ?_
 refine taA (i:=16) (N:=some 19) hHeld ?_
 refine taA (i:=19) (N:=some 22) hHeld ?_
 refine one_ (i:=2) (N:=some 5) #[true,true,true,true,true,false,true,true,false,true,true,false,true,true,false,true,true,false,true,true,false,false] rfl rfl (by kernel_rfl) (by decide) (fun K hK=>?_)
 refine goes_ Tryz.func142 (by kernel_rfl) rfl #[.agg #[.slice A0 n.sl.length c0,.int .i64 n.fr]] (by rfl) rfl rfl (by(try simp only [List.map_toArray,List.map_cons,List.map_nil]);first|done|rfl|(simp only [List.length_drop,List.length_take];rfl)) ?_
 refine(copyArenaL n.sl HN.out.s0 n.fr _ (HF.out.below HS.out.below).h0).mono ?_
 rintro e x2 ⟨v0,rfl,hr,hb⟩
 refine⟨_,rfl,?_⟩
 have S:=HS.out.new_row rfl hb hr
 obtain⟨B0,d0,rfl⟩:=Kd.R_slice hr;clear HS hr hb;have HS:=Aside0.mk S
 clear S;refine hK.out _ _ ⟨HS.out.at_cell 2 rfl 0 rfl,HS.out.at_cell 2 rfl 1 rfl,HS.out.at_cell 2 rfl 2 rfl,HS.out.at_cell 2 rfl 3 rfl,HS.out.at_cell 2 rfl 4 rfl,HS.out.at_cell 2 rfl 5 rfl,HS.out.at_cell 2 rfl 6 rfl,HS.out.at_cell 2 rfl 7 rfl,HS.out.at_cell 2 rfl 8 rfl,HS.out.at_cell 2 rfl 9 rfl,HS.out.at_cell 2 rfl 10 rfl,HS.out.at_cell 2 rfl 11 rfl,HS.out.at_cell 2 rfl 12 rfl,HS.out.at_cell 2 rfl 13 rfl⟩ (fun hHeld=>?_)
 clear hK K;refine norm_ (a':=?_) ?_ ?_
 rotate_left
 ·show Act.put _ (some 5) _=_;simp only [Act.put,List.setIfInBounds_toArray,List.set_cons_zero,List.set_cons_succ,i64_w,i32_w];rfl
 refine one_ (i:=5) (N:=some 8) #[true,true,true,true,true,true,true,true,false,true,true,false,true,true,false,true,true,false,true,true,false,false] rfl rfl (by kernel_rfl) (by decide) (fun K hK=>?_)
 refine goes_ Tryz.func143 (by kernel_rfl) rfl #[.agg #[.slice A2 n.ce.length c2,.slice A3 n.old.length c3,.int .i64 n.mv]] (by rfl) rfl rfl (by(try simp only [List.map_toArray,List.map_cons,List.map_nil]);first|done|rfl|(simp only [List.length_drop,List.length_take];rfl)) ?_
 refine(copyTableL n.ce HN.out.s2 n.old HN.out.s3 n.mv _ (HF.out.below HS.out.below).h2 (HF.out.below HS.out.below).h3).mono ?_
 rintro e x5 ⟨v2,v3,rfl,st⟩
 refine⟨_,rfl,?_⟩
 have S:=HS.out.join st
 obtain⟨B2,d2,rfl⟩:=Kd.R_slice (S.at_R 0 rfl)
 obtain⟨B3,d3,rfl⟩:=Kd.R_slice (S.at_R 1 rfl)
 clear HS st;have HS:=Aside0.mk S
 clear S;refine hK.out _ _ ⟨HS.out.at_cell 4 rfl 0 rfl,HS.out.at_cell 4 rfl 1 rfl,HS.out.at_cell 4 rfl 2 rfl,HS.out.at_cell 4 rfl 3 rfl,HS.out.at_cell 4 rfl 4 rfl,HS.out.at_cell 4 rfl 5 rfl,HS.out.at_cell 4 rfl 6 rfl,HS.out.at_cell 4 rfl 7 rfl,HS.out.at_cell 4 rfl 8 rfl,HS.out.at_cell 4 rfl 9 rfl,HS.out.at_cell 4 rfl 10 rfl,HS.out.at_cell 4 rfl 11 rfl,HS.out.at_cell 4 rfl 12 rfl,HS.out.at_cell 4 rfl 13 rfl⟩ (fun hHeld=>?_)
 clear hK K;refine norm_ (a':=?_) ?_ ?_
 rotate_left
 ·show Act.put _ (some 8) _=_;simp only [Act.put,List.setIfInBounds_toArray,List.set_cons_zero,List.set_cons_succ,i64_w,i32_w];rfl
 refine one_ (i:=8) (N:=some 11) #[true,true,true,true,true,true,true,true,true,true,true,false,true,true,false,true,true,false,true,true,false,false] rfl rfl (by kernel_rfl) (by decide) (fun K hK=>?_)
 refine goes_ Tryz.func144 (by kernel_rfl) rfl #[.agg #[.int .i64 n.wm,.slice A6 n.wk.length c6]] (by rfl) rfl rfl (by(try simp only [List.map_toArray,List.map_cons,List.map_nil]);first|done|rfl|(simp only [List.length_drop,List.length_take];rfl)) ?_
 refine(copyQueueL n.wk HN.out.s6 n.wm _ (HF.out.below HS.out.below).h6).mono ?_
 rintro e x8 ⟨v6,rfl,hr,hb⟩
 refine⟨_,rfl,?_⟩
 have S:=HS.out.new_row rfl hb hr
 obtain⟨B6,d6,rfl⟩:=Kd.R_slice hr;clear HS hr hb;have HS:=Aside0.mk S
 clear S;refine hK.out _ _ ⟨HS.out.at_cell 5 rfl 0 rfl,HS.out.at_cell 5 rfl 1 rfl,HS.out.at_cell 5 rfl 2 rfl,HS.out.at_cell 5 rfl 3 rfl,HS.out.at_cell 5 rfl 4 rfl,HS.out.at_cell 5 rfl 5 rfl,HS.out.at_cell 5 rfl 6 rfl,HS.out.at_cell 5 rfl 7 rfl,HS.out.at_cell 5 rfl 8 rfl,HS.out.at_cell 5 rfl 9 rfl,HS.out.at_cell 5 rfl 10 rfl,HS.out.at_cell 5 rfl 11 rfl,HS.out.at_cell 5 rfl 12 rfl,HS.out.at_cell 5 rfl 13 rfl⟩ (fun hHeld=>?_)
 clear hK K;refine norm_ (a':=?_) ?_ ?_
 rotate_left
 ·show Act.put _ (some 11) _=_;simp only [Act.put,List.setIfInBounds_toArray,List.set_cons_zero,List.set_cons_succ,i64_w,i32_w];rfl
 refine one_ (i:=11) (N:=some 14) #[true,true,true,true,true,true,true,true,true,true,true,true,true,true,false,true,true,false,true,true,false,false] rfl rfl (by kernel_rfl) (by decide) (fun K hK=>?_)
 refine goes_ Tryz.func144 (by kernel_rfl) rfl #[.agg #[.int .i64 n.tm,.slice A8 n.tk.length c8]] (by rfl) rfl rfl (by(try simp only [List.map_toArray,List.map_cons,List.map_nil]);first|done|rfl|(simp only [List.length_drop,List.length_take];rfl)) ?_
 refine(copyQueueL n.tk HN.out.s8 n.tm _ (HF.out.below HS.out.below).h8).mono ?_
 rintro e x11 ⟨v8,rfl,hr,hb⟩
 refine⟨_,rfl,?_⟩
 have S:=HS.out.new_row rfl hb hr
 obtain⟨B8,d8,rfl⟩:=Kd.R_slice hr;clear HS hr hb;have HS:=Aside0.mk S
 clear S;refine hK.out _ _ ⟨HS.out.at_cell 6 rfl 0 rfl,HS.out.at_cell 6 rfl 1 rfl,HS.out.at_cell 6 rfl 2 rfl,HS.out.at_cell 6 rfl 3 rfl,HS.out.at_cell 6 rfl 4 rfl,HS.out.at_cell 6 rfl 5 rfl,HS.out.at_cell 6 rfl 6 rfl,HS.out.at_cell 6 rfl 7 rfl,HS.out.at_cell 6 rfl 8 rfl,HS.out.at_cell 6 rfl 9 rfl,HS.out.at_cell 6 rfl 10 rfl,HS.out.at_cell 6 rfl 11 rfl,HS.out.at_cell 6 rfl 12 rfl,HS.out.at_cell 6 rfl 13 rfl⟩ (fun hHeld=>?_)
 clear hK K;refine norm_ (a':=?_) ?_ ?_
 rotate_left
 ·show Act.put _ (some 14) _=_;simp only [Act.put,List.setIfInBounds_toArray,List.set_cons_zero,List.set_cons_succ,i64_w,i32_w];rfl
 refine one_ (i:=14) (N:=some 17) #[true,true,true,true,true,true,true,true,true,true,true,true,true,true,true,true,true,false,true,true,false,false] rfl rfl (by kernel_rfl) (by decide) (fun K hK=>?_)
 refine goes_ Tryz.func144 (by kernel_rfl) rfl #[.agg #[.int .i64 n.sm,.slice A10 n.sk.length c10]] (by rfl) rfl rfl (by(try simp only [List.map_toArray,List.map_cons,List.map_nil]);first|done|rfl|(simp only [List.length_drop,List.length_take];rfl)) ?_
 refine(copyQueueL n.sk HN.out.s10 n.sm _ (HF.out.below HS.out.below).h10).mono ?_
 rintro e x14 ⟨v10,rfl,hr,hb⟩
 refine⟨_,rfl,?_⟩
 have S:=HS.out.new_row rfl hb hr
 obtain⟨B10,d10,rfl⟩:=Kd.R_slice hr;clear HS hr hb;have HS:=Aside0.mk S
 clear S;refine hK.out _ _ ⟨HS.out.at_cell 7 rfl 0 rfl,HS.out.at_cell 7 rfl 1 rfl,HS.out.at_cell 7 rfl 2 rfl,HS.out.at_cell 7 rfl 3 rfl,HS.out.at_cell 7 rfl 4 rfl,HS.out.at_cell 7 rfl 5 rfl,HS.out.at_cell 7 rfl 6 rfl,HS.out.at_cell 7 rfl 7 rfl,HS.out.at_cell 7 rfl 8 rfl,HS.out.at_cell 7 rfl 9 rfl,HS.out.at_cell 7 rfl 10 rfl,HS.out.at_cell 7 rfl 11 rfl,HS.out.at_cell 7 rfl 12 rfl,HS.out.at_cell 7 rfl 13 rfl⟩ (fun hHeld=>?_)
 clear hK K;refine norm_ (a':=?_) ?_ ?_
 rotate_left
 ·show Act.put _ (some 17) _=_;simp only [Act.put,List.setIfInBounds_toArray,List.set_cons_zero,List.set_cons_succ,i64_w,i32_w];rfl
 refine one_ (i:=17) (N:=some 20) #[true,true,true,true,true,true,true,true,true,true,true,true,true,true,true,true,true,true,true,true,false,false] rfl rfl (by kernel_rfl) (by decide) (fun K hK=>?_)
 refine goes_ Tryz.func145 (by kernel_rfl) rfl #[.agg #[.slice A11 n.ct.length c11,.int .i64 n.ad]] (by rfl) rfl rfl (by(try simp only [List.map_toArray,List.map_cons,List.map_nil]);first|done|rfl|(simp only [List.length_drop,List.length_take];rfl)) ?_
 refine(copySketchL n.ct HN.out.s11 n.ad _ (HF.out.below HS.out.below).h11).mono ?_
 rintro e x17 ⟨v11,rfl,hr,hb⟩
 refine⟨_,rfl,?_⟩
 have S:=HS.out.new_row rfl hb hr
 obtain⟨B11,d11,rfl⟩:=Kd.R_slice hr;clear HS hr hb;have HS:=Aside0.mk S
 clear S;refine hK.out _ _ ⟨HS.out.at_cell 8 rfl 0 rfl,HS.out.at_cell 8 rfl 1 rfl,HS.out.at_cell 8 rfl 2 rfl,HS.out.at_cell 8 rfl 3 rfl,HS.out.at_cell 8 rfl 4 rfl,HS.out.at_cell 8 rfl 5 rfl,HS.out.at_cell 8 rfl 6 rfl,HS.out.at_cell 8 rfl 7 rfl,HS.out.at_cell 8 rfl 8 rfl,HS.out.at_cell 8 rfl 9 rfl,HS.out.at_cell 8 rfl 10 rfl,HS.out.at_cell 8 rfl 11 rfl,HS.out.at_cell 8 rfl 12 rfl,HS.out.at_cell 8 rfl 13 rfl⟩ (fun hHeld=>?_)
 clear hK K;refine norm_ (a':=?_) ?_ ?_
 rotate_left
 ·show Act.put _ (some 20) _=_;simp only [Act.put,List.setIfInBounds_toArray,List.set_cons_zero,List.set_cons_succ,i64_w,i32_w];rfl
 refine puA (i:=20) (N:=some 23) ?_
 refine one_ (i:=21) (N:=none) #[true,true,true,true,true,true,true,true,true,true,true,true,true,true,true,true,true,true,true,true,true,true] rfl rfl (by kernel_rfl) (by decide) (fun K hK=>?_)
 obtain⟨hb0,hb1,hb2,hb3,hb4,hb5,hb6,hb7,hb8,hb9,hb10,hb11,hb12,hb13⟩:=HS.out.cells14 7 rfl
 obtain⟨fb0,fb1,fb2,fb3,fb4,fb5,fb6,fb7,fb8,fb9,fb10,fb11,fb12,fb13⟩:=HS.out.frozen14 7 rfl
 obtain⟨ha0,ha1,ha2,ha3,ha4,ha5,ha6,ha7,ha8,ha9,ha10,ha11,ha12,ha13⟩:=HS.out.cells14 8 rfl
 have nba:=HS.out.at_ne 7 8 rfl rfl (by decide)
 have nab:=HS.out.at_ne 8 7 rfl rfl (by decide)
 refine skip_ (w1:=?_) (by rfl) rfl ?_ ?_
 rotate_left
 ·go_simp;rfl
 have HS:=Aside0.mk (HS.out.front 7 rfl rfl)
 have S:=HS.out;have S:=S.put14 (Value.slice B0 n.sl.length d0) (Value.int .i64 n.fr) (Value.slice B2 n.ce.length d2) (Value.slice B3 n.old.length d3) (Value.int .i64 n.mv) (Value.int .i64 n.wm) (Value.slice B6 n.wk.length d6) (Value.int .i64 n.tm) (Value.slice B8 n.tk.length d8) (Value.int .i64 n.sm) (Value.slice B10 n.sk.length d10) (Value.slice B11 n.ct.length d11) (Value.int .i64 n.ad) (Value.int .i64 n.db)
 clear HS;have HS:=Aside0.mk S
 clear S;refine hK.out _ _ ⟨HS.out.at_cell 8 rfl 0 rfl,HS.out.at_cell 8 rfl 1 rfl,HS.out.at_cell 8 rfl 2 rfl,HS.out.at_cell 8 rfl 3 rfl,HS.out.at_cell 8 rfl 4 rfl,HS.out.at_cell 8 rfl 5 rfl,HS.out.at_cell 8 rfl 6 rfl,HS.out.at_cell 8 rfl 7 rfl,HS.out.at_cell 8 rfl 8 rfl,HS.out.at_cell 8 rfl 9 rfl,HS.out.at_cell 8 rfl 10 rfl,HS.out.at_cell 8 rfl 11 rfl,HS.out.at_cell 8 rfl 12 rfl,HS.out.at_cell 8 rfl 13 rfl⟩ (fun hHeld=>?_)
 clear hK K;refine done_ (by kernel_rfl) ?_
 clear ha0 ha1 ha2 ha3 ha4 ha5 ha6 ha7 ha8 ha9 ha10 ha11 ha12 ha13 hb0 hb1 hb2 hb3 hb4 hb5 hb6 hb7 hb8 hb9 hb10 hb11 hb12 hb13 fb0 fb1 fb2 fb3 fb4 fb5 fb6 fb7 fb8 fb9 fb10 fb11 fb12 fb13;try go_wp2_with fail
 refine bodyPost_ret (results_cell_row rfl _ _ g2 50 #[Value.slice B0 n.sl.length d0,Value.int .i64 n.fr,Value.slice B2 n.ce.length d2,Value.slice B3 n.old.length d3,Value.int .i64 n.mv,Value.int .i64 n.wm,Value.slice B6 n.wk.length d6,Value.int .i64 n.tm,Value.slice B8 n.tk.length d8,Value.int .i64 n.sm,Value.slice B10 n.sk.length d10,Value.slice B11 n.ct.length d11,Value.int .i64 n.ad,Value.int .i64 n.db] (0,0) _ rfl HS.out.head.2 Tryz.underlying50 rfl (by kernel_rfl)) rfl ?_
 have S:=HS.out;have S:=S.tail;have S:=(S.front 7 rfl rfl).tail
 have S:=S.front 1 rfl rfl
 have S:=S.front 2 rfl rfl
 have S:=S.front 3 rfl rfl
 have S:=S.front 5 rfl rfl
 have S:=S.front 5 rfl rfl
 have S:=S.front 6 rfl rfl
 exact⟨⟨.slice B0 n.sl.length d0,.slice B2 n.ce.length d2,.slice B3 n.old.length d3,.slice B6 n.wk.length d6,.slice B8 n.tk.length d8,.slice B10 n.sk.length d10,.slice B11 n.ct.length d11⟩,rfl,S⟩
set_option maxHeartbeats 4000000 in
set_option maxRecDepth 100000 in
theorem l04CopyL {A0 A1:Option Addr} {c0 c1:Nat} (l0:List S151) (s0:l0.length≤1048576) (l1:List S151) (s1:l1.length≤1048576) (a2:Int) (w:World) (hA0:Kd.C k151 w A0 l0.length l0) (hA1:Kd.C k151 w A1 l1.length l1):Calls Tryz.prog 151 #[.agg #[.slice A0 l0.length c0,.slice A1 l1.length c1,.int .i64 a2]] w fun e w'=>∃ v0 v1:Value,e=.returned (.agg #[v0,v1,.int .i64 a2])∧St w w' [Part.row k151 151 v0 l0,Part.row k151 151 v1 l1]:=by
 have HA0:=Aside0.mk hA0
 have HA1:=Aside0.mk hA1
 clear hA0 hA1;have HS:=Aside0.mk (St.start w)
 go_enter Tryz.func151,Tryz.ntmps151
 go_wp2_with (first|((with_reducible refine gate_dst (N:=1) rfl ?_);refine boxS HS (N:=1) (cs:=#[.slice A0 l0.length c0,.slice A1 l1.length c1,.int .i64 a2]) (t:=45) fun g1 w1 S=>?_;clear HS;have HS:=Aside0.mk S;obtain⟨ha0,ha1,ha2⟩:=S.cells3 0 rfl;clear S)|((with_reducible refine gate_dst (N:=2) rfl ?_);refine boxS HS (N:=2) (cs:=#[.slice none 0 0,.slice none 0 0,.int .i64 0]) (t:=45) fun g2 w2 S=>?_;clear HS ha0 ha1 ha2;have HS:=Aside0.mk S;obtain⟨hb0,hb1,hb2⟩:=S.cells3 0 rfl;obtain⟨ha0,ha1,ha2⟩:=S.cells3 1 rfl;clear S))
 clear ha0 ha1 ha2 hb0 hb1 hb2;refine start_ (n:=12) (S:=fun w'=>w'.cell? ⟨g1,0,none⟩=some (.slice A0 l0.length c0)∧w'.cell? ⟨g1,1,none⟩=some (.slice A1 l1.length c1)∧w'.cell? ⟨g1,2,none⟩=some (.int .i64 a2)) (ds:=[]) #[false,false,false,false,false,false,false,false,false,false,false,false] (by kernel_rfl) rfl rfl ⟨HS.out.at_cell 1 rfl 0 rfl,HS.out.at_cell 1 rfl 1 rfl,HS.out.at_cell 1 rfl 2 rfl⟩ (fun hHeld=>?_)
 have HS:=Aside0.mk HS.out.drew
 generalize w2.drew=w3 at HS hHeld ⊢
 refine puA (i:=1) (N:=some 4) ?_
 refine puA (i:=5) (N:=some 8) ?_
 refine puA (i:=8) (N:=some 11) ?_
 refine taA (i:=2) (N:=some 5) hHeld ?_
 refine taA (i:=6) (N:=some 9) hHeld ?_
 refine taA (i:=9) (N:=some 12) hHeld ?_
 refine join_ (σ:=Value × Value × Value) 3 #[true,true,true,true,true,true,true,false,true,true,false,false] (fun s_=>[(3,s_.1),(6,s_.2.1),(7,s_.2.2)]) (fun s_ w'=>St w w' [Part.row k151 151 s_.2.2 [],Part.row k151 151 s_.2.1 l0,Part.blk g2 45 #[Value.slice none 0 0,Value.slice none 0 0,Value.int .i64 0],Part.blk g1 45 #[Value.slice A0 l0.length c0,Value.slice A1 l1.length c1,Value.int .i64 a2]]) ?cont (fun hj=>?_)
 case cont =>
  clear HS hHeld;rintro ⟨v3,v6,v7⟩ w6 hs
  dsimp only at hs
  have HS:=Aside0.mk hs
  clear hs;obtain⟨B0,d0,rfl⟩:=Kd.R_slice (HS.out.at_R 1 rfl)
  have hHeld:w6.cell? ⟨g1,0,none⟩=some (.slice A0 l0.length c0)∧w6.cell? ⟨g1,1,none⟩=some (.slice A1 l1.length c1)∧w6.cell? ⟨g1,2,none⟩=some (.int .i64 a2):=⟨HS.out.at_cell 3 rfl 0 rfl,HS.out.at_cell 3 rfl 1 rfl,HS.out.at_cell 3 rfl 2 rfl⟩
  refine norm_ (a':=?_) ?_ ?_
  rotate_left
  ·simp only [putAll,Act.put,List.setIfInBounds_toArray,List.set_cons_zero,List.set_cons_succ,i64_w,i32_w];rfl
  refine one_ (i:=7) (N:=some 10) #[true,true,true,true,true,true,true,true,true,true,false,false] rfl rfl (by kernel_rfl) (by decide) (fun K hK=>?_)
  refine Kd.R_append_rows_step k151 (w0:=w) w.heap.size (by rfl) (.tmp 7) (.tmp 9) 43 151 (.agg #[(.string ⟨#[]⟩),(.int .i64 0)]) 24 rfl Tryz.underlying43 info151 rfl (by decide) (by omega) v7 [] l1 _ _ _ (fun _=>True) (fun _=>False) rfl rfl ?aO ?aR (fun _ _ h=>h) (fun _ h=>h.elim) ?aF ?aB ?aS ?aL ?_;(case aR=>exact Kd.C_below HA1.out HS.out.below);(case aB=>exact HS.out.below);(case aF=>exact fun _ _=>trivial);(case aO=>exact Kd.R_mono (HS.out.at_R 0 rfl) (fun _ _=>trivial));(case aS=>exact below_size HS.out.below);(case aL=>simp only [List.length_nil];omega)
  intro v10 w8 ho hb hg hat
  rw[List.nil_append] at ho;have S:=HS.out.appended rfl hb hg ho hat
  obtain⟨B1,d1,rfl⟩:=Kd.R_slice ho;clear ho hb hg hat HS;have HS:=Aside0.mk S
  clear S;refine hK.out _ _ ⟨HS.out.at_cell 3 rfl 0 rfl,HS.out.at_cell 3 rfl 1 rfl,HS.out.at_cell 3 rfl 2 rfl⟩ (fun hHeld=>?_)
  clear hK K;refine norm_ (a':=?_) ?_ ?_
  rotate_left
  ·show Act.put _ (some 10) _=_;simp only [Act.put,List.setIfInBounds_toArray,List.set_cons_zero,List.set_cons_succ,i64_w,i32_w];rfl
  refine puA (i:=10) (N:=some 13) ?_
  refine one_ (i:=11) (N:=none) #[true,true,true,true,true,true,true,true,true,true,true,true] rfl rfl (by kernel_rfl) (by decide) (fun K hK=>?_)
  obtain⟨hb0,hb1,hb2⟩:=HS.out.cells3 2 rfl
  obtain⟨fb0,fb1,fb2⟩:=HS.out.frozen3 2 rfl
  obtain⟨ha0,ha1,ha2⟩:=HS.out.cells3 3 rfl
  have nba:=HS.out.at_ne 2 3 rfl rfl (by decide)
  have nab:=HS.out.at_ne 3 2 rfl rfl (by decide)
  refine skip_ (w1:=?_) (by rfl) rfl ?_ ?_
  rotate_left
  ·go_simp;rfl
  have HS:=Aside0.mk (HS.out.front 2 rfl rfl)
  have S:=HS.out;have S:=S.put3 (Value.slice B0 l0.length d0) (Value.slice B1 l1.length d1) (Value.int .i64 a2)
  clear HS;have HS:=Aside0.mk S
  clear S;refine hK.out _ _ ⟨HS.out.at_cell 3 rfl 0 rfl,HS.out.at_cell 3 rfl 1 rfl,HS.out.at_cell 3 rfl 2 rfl⟩ (fun hHeld=>?_)
  clear hK K;refine done_ (by kernel_rfl) ?_
  clear hb0 hb1 hb2 ha0 ha1 ha2 fb0 fb1 fb2;try go_wp2_with fail
  refine bodyPost_ret (results_cell_row rfl _ _ g2 45 #[Value.slice B0 l0.length d0,Value.slice B1 l1.length d1,Value.int .i64 a2] (0,0) _ rfl HS.out.head.2 Tryz.underlying45 rfl (by kernel_rfl)) rfl ?_
  have S:=HS.out.tail;have S:=(S.front 2 rfl rfl).tail
  have S:=S.front 1 rfl rfl
  exact⟨_,_,rfl,S⟩
 refine two_ (i:=0) (j:=4) (Ni:=some 3) (Nj:=some 7) #[true,true,true,false,false,true,true,false,true,true,false,false] #[false,true,true,false,true,true,true,false,true,true,false,false] rfl rfl rfl rfl (by kernel_rfl) (by decide) (by decide) (fun K hK=>?_) (fun K hK=>?_)
 ·refine Kd.R_lit_step k151 _ 151 ?hg (N:=3) ?hd (xs:=([]:List S151)) (inner:=[]) (ok:=fun _=>True) (okp:=fun _=>True) ?hr ?hp (fun _ hk=>hk) trivial (Below.refl _ _) (Nat.le_refl _) (by simp) ?_;(case hd=>rfl);(case hg=>rfl);(case hr=>first|(go_simp;done)|(go_simp;rfl));(case hp=>exact(Reps.none _ _))
  intro v3 w4 ho hb _ _
  have HS:=Aside0.mk (HS.out.new_row rfl hb ho)
  clear ho hb;refine hK.out _ _ ⟨HS.out.at_cell 2 rfl 0 rfl,HS.out.at_cell 2 rfl 1 rfl,HS.out.at_cell 2 rfl 2 rfl⟩ (fun hHeld=>?_)
  clear hK K;refine norm_ (a':=?_) ?_ ?_
  rotate_left
  ·show Act.put _ (some 3) _=_;simp only [Act.put,List.setIfInBounds_toArray,List.set_cons_zero,List.set_cons_succ,i64_w,i32_w];rfl
  refine two_ (i:=3) (j:=4) (Ni:=some 6) (Nj:=some 7) #[true,true,true,true,false,true,true,false,true,true,false,false] #[true,true,true,false,true,true,true,false,true,true,false,false] rfl rfl rfl rfl (by kernel_rfl) (by decide) (by decide) (fun K hK=>?_) (fun K hK=>?_)
  ·refine Kd.R_append_rows_step k151 (w0:=w) w.heap.size (by rfl) (.tmp 3) (.tmp 5) 43 151 (.agg #[(.string ⟨#[]⟩),(.int .i64 0)]) 24 rfl Tryz.underlying43 info151 rfl (by decide) (by omega) v3 [] l0 _ _ _ (fun _=>True) (fun _=>False) rfl rfl ?aO ?aR (fun _ _ h=>h) (fun _ h=>h.elim) ?aF ?aB ?aS ?aL ?_;(case aR=>exact Kd.C_below HA0.out HS.out.below);(case aB=>exact HS.out.below);(case aF=>exact fun _ _=>trivial);(case aO=>exact Kd.R_mono (HS.out.at_R 0 rfl) (fun _ _=>trivial));(case aS=>exact below_size HS.out.below);(case aL=>simp only [List.length_nil];omega)
   intro v6 w5 ho hb hg hat
   rw[List.nil_append] at ho;have HS:=Aside0.mk (HS.out.appended rfl hb hg ho hat)
   clear ho hb hg hat;refine hK.out _ _ ⟨HS.out.at_cell 2 rfl 0 rfl,HS.out.at_cell 2 rfl 1 rfl,HS.out.at_cell 2 rfl 2 rfl⟩ (fun hHeld=>?_)
   clear hK K;refine norm_ (a':=?_) ?_ ?_
   rotate_left
   ·show Act.put _ (some 6) _=_;simp only [Act.put,List.setIfInBounds_toArray,List.set_cons_zero,List.set_cons_succ,i64_w,i32_w];rfl
   refine one_ (i:=4) (N:=some 7) #[true,true,true,true,true,true,true,false,true,true,false,false] rfl rfl (by kernel_rfl) (by decide) (fun K hK=>?_)
   refine Kd.R_lit_step k151 _ 151 ?hg (N:=7) ?hd (xs:=([]:List S151)) (inner:=[]) (ok:=fun _=>True) (okp:=fun _=>True) ?hr ?hp (fun _ hk=>hk) trivial (Below.refl _ _) (Nat.le_refl _) (by simp) ?_;(case hd=>rfl);(case hg=>rfl);(case hr=>first|(go_simp;done)|(go_simp;rfl));(case hp=>exact(Reps.none _ _))
   intro v7 w6 ho hb _ _
   have HS:=Aside0.mk (HS.out.new_row rfl hb ho)
   clear ho hb;refine hK.out _ _ ⟨HS.out.at_cell 3 rfl 0 rfl,HS.out.at_cell 3 rfl 1 rfl,HS.out.at_cell 3 rfl 2 rfl⟩ (fun hHeld=>?_)
   clear hK K;refine norm_ (a':=?_) ?_ ?_
   rotate_left
   ·show Act.put _ (some 7) _=_;simp only [Act.put,List.setIfInBounds_toArray,List.set_cons_zero,List.set_cons_succ,i64_w,i32_w];rfl
   have S:=HS.out;have S:=S.front 3 rfl rfl
   have S:=S.front 3 rfl rfl
   have S:=S.front 3 rfl rfl
   have S:=S.front 3 rfl rfl
   exact hj (v3,v6,v7) _ S
  ·refine Kd.R_lit_step k151 _ 151 ?hg (N:=7) ?hd (xs:=([]:List S151)) (inner:=[]) (ok:=fun _=>True) (okp:=fun _=>True) ?hr ?hp (fun _ hk=>hk) trivial (Below.refl _ _) (Nat.le_refl _) (by simp) ?_;(case hd=>rfl);(case hg=>rfl);(case hr=>first|(go_simp;done)|(go_simp;rfl));(case hp=>exact(Reps.none _ _))
   intro v7 w5 ho hb _ _
   have HS:=Aside0.mk (HS.out.new_row rfl hb ho)
   clear ho hb;refine hK.out _ _ ⟨HS.out.at_cell 3 rfl 0 rfl,HS.out.at_cell 3 rfl 1 rfl,HS.out.at_cell 3 rfl 2 rfl⟩ (fun hHeld=>?_)
   clear hK K;refine norm_ (a':=?_) ?_ ?_
   rotate_left
   ·show Act.put _ (some 7) _=_;simp only [Act.put,List.setIfInBounds_toArray,List.set_cons_zero,List.set_cons_succ,i64_w,i32_w];rfl
   refine one_ (i:=3) (N:=some 6) #[true,true,true,true,true,true,true,false,true,true,false,false] rfl rfl (by kernel_rfl) (by decide) (fun K hK=>?_)
   have HS:=Aside0.mk (HS.out.front 1 rfl rfl)
   refine Kd.R_append_rows_step k151 (w0:=w) w.heap.size (by rfl) (.tmp 3) (.tmp 5) 43 151 (.agg #[(.string ⟨#[]⟩),(.int .i64 0)]) 24 rfl Tryz.underlying43 info151 rfl (by decide) (by omega) v3 [] l0 _ _ _ (fun _=>True) (fun _=>False) rfl rfl ?aO ?aR (fun _ _ h=>h) (fun _ h=>h.elim) ?aF ?aB ?aS ?aL ?_;(case aR=>exact Kd.C_below HA0.out HS.out.below);(case aB=>exact HS.out.below);(case aF=>exact fun _ _=>trivial);(case aO=>exact Kd.R_mono (HS.out.at_R 0 rfl) (fun _ _=>trivial));(case aS=>exact below_size HS.out.below);(case aL=>simp only [List.length_nil];omega)
   intro v6 w6 ho hb hg hat
   rw[List.nil_append] at ho;have HS:=Aside0.mk (HS.out.appended rfl hb hg ho hat)
   clear ho hb hg hat;refine hK.out _ _ ⟨HS.out.at_cell 3 rfl 0 rfl,HS.out.at_cell 3 rfl 1 rfl,HS.out.at_cell 3 rfl 2 rfl⟩ (fun hHeld=>?_)
   clear hK K;refine norm_ (a':=?_) ?_ ?_
   rotate_left
   ·show Act.put _ (some 6) _=_;simp only [Act.put,List.setIfInBounds_toArray,List.set_cons_zero,List.set_cons_succ,i64_w,i32_w];rfl
   have S:=HS.out;have S:=S.front 3 rfl rfl
   have S:=S.front 3 rfl rfl
   have S:=S.front 2 rfl rfl
   have S:=S.front 3 rfl rfl
   exact hj (v3,v6,v7) _ S
 ·refine Kd.R_lit_step k151 _ 151 ?hg (N:=7) ?hd (xs:=([]:List S151)) (inner:=[]) (ok:=fun _=>True) (okp:=fun _=>True) ?hr ?hp (fun _ hk=>hk) trivial (Below.refl _ _) (Nat.le_refl _) (by simp) ?_;(case hd=>rfl);(case hg=>rfl);(case hr=>first|(go_simp;done)|(go_simp;rfl));(case hp=>exact(Reps.none _ _))
  intro v7 w4 ho hb _ _
  have HS:=Aside0.mk (HS.out.new_row rfl hb ho)
  clear ho hb;refine hK.out _ _ ⟨HS.out.at_cell 2 rfl 0 rfl,HS.out.at_cell 2 rfl 1 rfl,HS.out.at_cell 2 rfl 2 rfl⟩ (fun hHeld=>?_)
  clear hK K;refine norm_ (a':=?_) ?_ ?_
  rotate_left
  ·show Act.put _ (some 7) _=_;simp only [Act.put,List.setIfInBounds_toArray,List.set_cons_zero,List.set_cons_succ,i64_w,i32_w];rfl
  refine one_ (i:=0) (N:=some 3) #[true,true,true,false,true,true,true,false,true,true,false,false] rfl rfl (by kernel_rfl) (by decide) (fun K hK=>?_)
  refine Kd.R_lit_step k151 _ 151 ?hg (N:=3) ?hd (xs:=([]:List S151)) (inner:=[]) (ok:=fun _=>True) (okp:=fun _=>True) ?hr ?hp (fun _ hk=>hk) trivial (Below.refl _ _) (Nat.le_refl _) (by simp) ?_;(case hd=>rfl);(case hg=>rfl);(case hr=>first|(go_simp;done)|(go_simp;rfl));(case hp=>exact(Reps.none _ _))
  intro v3 w5 ho hb _ _
  have HS:=Aside0.mk (HS.out.new_row rfl hb ho)
  clear ho hb;refine hK.out _ _ ⟨HS.out.at_cell 3 rfl 0 rfl,HS.out.at_cell 3 rfl 1 rfl,HS.out.at_cell 3 rfl 2 rfl⟩ (fun hHeld=>?_)
  clear hK K;refine norm_ (a':=?_) ?_ ?_
  rotate_left
  ·show Act.put _ (some 3) _=_;simp only [Act.put,List.setIfInBounds_toArray,List.set_cons_zero,List.set_cons_succ,i64_w,i32_w];rfl
  refine one_ (i:=3) (N:=some 6) #[true,true,true,true,true,true,true,false,true,true,false,false] rfl rfl (by kernel_rfl) (by decide) (fun K hK=>?_)
  refine Kd.R_append_rows_step k151 (w0:=w) w.heap.size (by rfl) (.tmp 3) (.tmp 5) 43 151 (.agg #[(.string ⟨#[]⟩),(.int .i64 0)]) 24 rfl Tryz.underlying43 info151 rfl (by decide) (by omega) v3 [] l0 _ _ _ (fun _=>True) (fun _=>False) rfl rfl ?aO ?aR (fun _ _ h=>h) (fun _ h=>h.elim) ?aF ?aB ?aS ?aL ?_;(case aR=>exact Kd.C_below HA0.out HS.out.below);(case aB=>exact HS.out.below);(case aF=>exact fun _ _=>trivial);(case aO=>exact Kd.R_mono (HS.out.at_R 0 rfl) (fun _ _=>trivial));(case aS=>exact below_size HS.out.below);(case aL=>simp only [List.length_nil];omega)
  intro v6 w6 ho hb hg hat
  rw[List.nil_append] at ho;have HS:=Aside0.mk (HS.out.appended rfl hb hg ho hat)
  clear ho hb hg hat;refine hK.out _ _ ⟨HS.out.at_cell 3 rfl 0 rfl,HS.out.at_cell 3 rfl 1 rfl,HS.out.at_cell 3 rfl 2 rfl⟩ (fun hHeld=>?_)
  clear hK K;refine norm_ (a':=?_) ?_ ?_
  rotate_left
  ·show Act.put _ (some 6) _=_;simp only [Act.put,List.setIfInBounds_toArray,List.set_cons_zero,List.set_cons_succ,i64_w,i32_w];rfl
  have S:=HS.out;have S:=S.front 3 rfl rfl
  have S:=S.front 3 rfl rfl
  have S:=S.front 2 rfl rfl
  have S:=S.front 3 rfl rfl
  exact hj (v3,v6,v7) _ S
set_option maxHeartbeats 4000000 in
set_option maxRecDepth 100000 in
theorem l08CopyL (w:World) (v:NV) (n:Nr) (hn:n.short) (hC:NearC w v n):Calls Tryz.prog 74 #[.agg (v.cells n)] w fun e w'=>∃ u:NV,e=.returned (.agg (u.cells n))∧St w w' (u.rows n):=by
 obtain⟨A0,c0,A2,c2,A3,c3,A6,c6,A8,c8,A10,c10,A11,c11,rfl,hF⟩:=hC.open_;have HF:=Aside0.mk hF
 have HN:=Aside0.mk hn
 have HS:=Aside0.mk (St.start w)
 clear hC hF hn;dsimp only [NV.cells]
 go_enter Tryz.func74,Tryz.ntmps74
 go_wp2_with (first|((with_reducible refine gate_dst (N:=1) rfl ?_);refine boxS HS (N:=1) (cs:=#[.slice A0 n.sl.length c0,.int .i64 n.fr,.slice A2 n.ce.length c2,.slice A3 n.old.length c3,.int .i64 n.mv,.int .i64 n.wm,.slice A6 n.wk.length c6,.int .i64 n.tm,.slice A8 n.tk.length c8,.int .i64 n.sm,.slice A10 n.sk.length c10,.slice A11 n.ct.length c11,.int .i64 n.ad,.int .i64 n.db]) (t:=50) fun g1 w1 S=>?_;clear HS;have HS:=Aside0.mk S;clear S)|((with_reducible refine gate_dst (N:=2) rfl ?_);refine boxS HS (N:=2) (cs:=#[.slice none 0 0,.int .i64 0,.slice none 0 0,.slice none 0 0,.int .i64 0,.int .i64 0,.slice none 0 0,.int .i64 0,.slice none 0 0,.int .i64 0,.slice none 0 0,.slice none 0 0,.int .i64 0,.int .i64 0]) (t:=50) fun g2 w2 S=>?_;clear HS;have HS:=Aside0.mk S;obtain⟨ha0,ha1⟩:=S.cells2 1 rfl;obtain⟨fa0,fa1⟩:=S.frozen2 1 rfl;have nba:=S.at_ne 0 1 rfl rfl (by decide);have nab:=S.at_ne 1 0 rfl rfl (by decide);clear S))
 have S:=HS.out;clear HS ha0 fa0 ha1 fa1;refine(l03CopyL n.sl HN.out.s0 n.fr _ (HF.out.below S.below).h0).mono ?_
 rintro e y0 ⟨v0,rfl,hr,hb⟩
 have S:=S.new_row rfl hb hr
 obtain⟨B0,d0,rfl⟩:=Kd.R_slice hr;clear hr hb;have HS:=Aside0.mk S
 obtain⟨ha0,ha1,ha2,ha3,ha4⟩:=S.cells5 2 rfl
 obtain⟨fa0,fa1,fa2,fa3,fa4⟩:=S.frozen5 2 rfl
 clear S;go_wp2_with fail
 have S:=HS.out;have S:=S.front 2 rfl rfl
 have S:=S.put (cs':=#[Value.slice B0 n.sl.length d0,Value.int .i64 n.fr,Value.slice A2 n.ce.length c2,Value.slice A3 n.old.length c3,Value.int .i64 n.mv,Value.int .i64 n.wm,Value.slice A6 n.wk.length c6,Value.int .i64 n.tm,Value.slice A8 n.tk.length c8,Value.int .i64 n.sm,Value.slice A10 n.sk.length c10,Value.slice A11 n.ct.length c11,Value.int .i64 n.ad,Value.int .i64 n.db]) 0 (Value.slice B0 n.sl.length d0) rfl
 have S:=S.put (cs':=#[Value.slice B0 n.sl.length d0,Value.int .i64 n.fr,Value.slice A2 n.ce.length c2,Value.slice A3 n.old.length c3,Value.int .i64 n.mv,Value.int .i64 n.wm,Value.slice A6 n.wk.length c6,Value.int .i64 n.tm,Value.slice A8 n.tk.length c8,Value.int .i64 n.sm,Value.slice A10 n.sk.length c10,Value.slice A11 n.ct.length c11,Value.int .i64 n.ad,Value.int .i64 n.db]) 1 (Value.int .i64 n.fr) rfl
 clear HS ha0 fa0 ha1 fa1 ha2 fa2 ha3 fa3 ha4 fa4;refine(l04CopyL n.ce HN.out.s2 n.old HN.out.s3 n.mv _ (HF.out.below S.below).h2 (HF.out.below S.below).h3).mono ?_
 rintro e y2 ⟨v2,v3,rfl,st⟩
 have S:=S.join st
 obtain⟨B2,d2,rfl⟩:=Kd.R_slice (S.at_R 0 rfl)
 obtain⟨B3,d3,rfl⟩:=Kd.R_slice (S.at_R 1 rfl)
 clear st;have HS:=Aside0.mk S
 have ha2:=S.at_cell 2 rfl 2 rfl
 have ha3:=S.at_cell 2 rfl 3 rfl
 have ha4:=S.at_cell 2 rfl 4 rfl
 have fa2:=S.at_frozen 2 rfl 2
 have fa3:=S.at_frozen 2 rfl 3
 have fa4:=S.at_frozen 2 rfl 4
 clear S;have s6:=HN.out.s6;have s8:=HN.out.s8;have s10:=HN.out.s10;go_wp2_with (first|((with_reducible refine gate_dst (N:=11) rfl ?_);refine Kd.R_lit Kd.string _ 9 ?hg (N:=11) ?hd (xs:=([]:List ByteArray)) (inner:=[]) (ok:=fun _=>True) (okp:=fun _=>True) ?hr ?hp (fun _ hk=>hk) trivial (Below.refl _ _) (Nat.le_refl _) (by simp) ?_;(case hd=>rfl);(case hg=>rfl);(case hr=>first|(go_simp;done)|(go_simp;rfl));(case hp=>exact(Reps.none _ _));intro v11 x11 ho hb _ _;have S:=HS.out;have S:=S.front 2 rfl rfl;have S:=S.put (cs':=#[Value.slice B0 n.sl.length d0,Value.int .i64 n.fr,Value.slice B2 n.ce.length d2,Value.slice A3 n.old.length c3,Value.int .i64 n.mv,Value.int .i64 n.wm,Value.slice A6 n.wk.length c6,Value.int .i64 n.tm,Value.slice A8 n.tk.length c8,Value.int .i64 n.sm,Value.slice A10 n.sk.length c10,Value.slice A11 n.ct.length c11,Value.int .i64 n.ad,Value.int .i64 n.db]) 2 (Value.slice B2 n.ce.length d2) rfl;have S:=S.put (cs':=#[Value.slice B0 n.sl.length d0,Value.int .i64 n.fr,Value.slice B2 n.ce.length d2,Value.slice B3 n.old.length d3,Value.int .i64 n.mv,Value.int .i64 n.wm,Value.slice A6 n.wk.length c6,Value.int .i64 n.tm,Value.slice A8 n.tk.length c8,Value.int .i64 n.sm,Value.slice A10 n.sk.length c10,Value.slice A11 n.ct.length c11,Value.int .i64 n.ad,Value.int .i64 n.db]) 3 (Value.slice B3 n.old.length d3) rfl;have S:=S.put (cs':=#[Value.slice B0 n.sl.length d0,Value.int .i64 n.fr,Value.slice B2 n.ce.length d2,Value.slice B3 n.old.length d3,Value.int .i64 n.mv,Value.int .i64 n.wm,Value.slice A6 n.wk.length c6,Value.int .i64 n.tm,Value.slice A8 n.tk.length c8,Value.int .i64 n.sm,Value.slice A10 n.sk.length c10,Value.slice A11 n.ct.length c11,Value.int .i64 n.ad,Value.int .i64 n.db]) 4 (Value.int .i64 n.mv) rfl;have S:=S.new_row rfl hb ho;clear HS ha2 fa2 ha3 fa3 ha4 fa4 ho hb;have HS:=Aside0.mk S;have ha6:=S.at_cell 1 rfl 6 rfl;have fa6:=S.at_frozen 1 rfl 6;clear S)|((with_reducible refine gate_builtin (b:=.append) (xs:=#[.tmp 11,.tmp 14]) rfl ?_);at_builtin;refine Kd.R_append_rows Kd.string (w0:=w) w.heap.size rfl (.tmp 11) (.tmp 14) 28 9 (.string ⟨#[]⟩) 16 rfl Tryz.underlying28 info9 rfl (by decide) (by omega) v11 [] n.wk _ _ _ (fun _=>True) (fun _=>False) rfl rfl ?aO ?aR (fun _ _ h=>h) (fun _ h=>h.elim) ?aF ?aB ?aS ?aL ?_;(case aO=>exact Kd.R_mono (HS.out.at_R 0 rfl) (fun _ _=>trivial));(case aR=>exact(HF.out.below HS.out.below).h6);(case aF=>exact fun _ _=>trivial);(case aB=>exact HS.out.below);(case aS=>exact below_size HS.out.below);(case aL=>simp only [List.length_nil];omega);intro v15 x15 ho hb hg hat;rw[List.nil_append] at ho;have S:=HS.out.appended rfl hb hg ho hat;obtain⟨B6,d6,rfl⟩:=Kd.R_slice ho;clear ho hb hg hat;clear HS ha6 fa6;have HS:=Aside0.mk S;have ha6:=S.at_cell 1 rfl 6 rfl;have fa6:=S.at_frozen 1 rfl 6;clear S)|((with_reducible refine gate_dst (N:=18) rfl ?_);refine Kd.R_lit Kd.string _ 9 ?hg (N:=18) ?hd (xs:=([]:List ByteArray)) (inner:=[]) (ok:=fun _=>True) (okp:=fun _=>True) ?hr ?hp (fun _ hk=>hk) trivial (Below.refl _ _) (Nat.le_refl _) (by simp) ?_;(case hd=>rfl);(case hg=>rfl);(case hr=>first|(go_simp;done)|(go_simp;rfl));(case hp=>exact(Reps.none _ _));intro v18 x18 ho hb _ _;have S:=HS.out;have S:=S.front 1 rfl rfl;have S:=S.put (cs':=#[Value.slice B0 n.sl.length d0,Value.int .i64 n.fr,Value.slice B2 n.ce.length d2,Value.slice B3 n.old.length d3,Value.int .i64 n.mv,Value.int .i64 n.wm,Value.slice B6 n.wk.length d6,Value.int .i64 n.tm,Value.slice A8 n.tk.length c8,Value.int .i64 n.sm,Value.slice A10 n.sk.length c10,Value.slice A11 n.ct.length c11,Value.int .i64 n.ad,Value.int .i64 n.db]) 6 (Value.slice B6 n.wk.length d6) rfl;have S:=S.new_row rfl hb ho;clear HS ha6 fa6 ho hb;have HS:=Aside0.mk S;have ha8:=S.at_cell 1 rfl 8 rfl;have fa8:=S.at_frozen 1 rfl 8;clear S)|((with_reducible refine gate_builtin (b:=.append) (xs:=#[.tmp 18,.tmp 21]) rfl ?_);at_builtin;refine Kd.R_append_rows Kd.string (w0:=w) w.heap.size rfl (.tmp 18) (.tmp 21) 28 9 (.string ⟨#[]⟩) 16 rfl Tryz.underlying28 info9 rfl (by decide) (by omega) v18 [] n.tk _ _ _ (fun _=>True) (fun _=>False) rfl rfl ?aO ?aR (fun _ _ h=>h) (fun _ h=>h.elim) ?aF ?aB ?aS ?aL ?_;(case aO=>exact Kd.R_mono (HS.out.at_R 0 rfl) (fun _ _=>trivial));(case aR=>exact(HF.out.below HS.out.below).h8);(case aF=>exact fun _ _=>trivial);(case aB=>exact HS.out.below);(case aS=>exact below_size HS.out.below);(case aL=>simp only [List.length_nil];omega);intro v22 x22 ho hb hg hat;rw[List.nil_append] at ho;have S:=HS.out.appended rfl hb hg ho hat;obtain⟨B8,d8,rfl⟩:=Kd.R_slice ho;clear ho hb hg hat;clear HS ha8 fa8;have HS:=Aside0.mk S;have ha8:=S.at_cell 1 rfl 8 rfl;have fa8:=S.at_frozen 1 rfl 8;clear S)|((with_reducible refine gate_dst (N:=25) rfl ?_);refine Kd.R_lit Kd.string _ 9 ?hg (N:=25) ?hd (xs:=([]:List ByteArray)) (inner:=[]) (ok:=fun _=>True) (okp:=fun _=>True) ?hr ?hp (fun _ hk=>hk) trivial (Below.refl _ _) (Nat.le_refl _) (by simp) ?_;(case hd=>rfl);(case hg=>rfl);(case hr=>first|(go_simp;done)|(go_simp;rfl));(case hp=>exact(Reps.none _ _));intro v25 x25 ho hb _ _;have S:=HS.out;have S:=S.front 1 rfl rfl;have S:=S.put (cs':=#[Value.slice B0 n.sl.length d0,Value.int .i64 n.fr,Value.slice B2 n.ce.length d2,Value.slice B3 n.old.length d3,Value.int .i64 n.mv,Value.int .i64 n.wm,Value.slice B6 n.wk.length d6,Value.int .i64 n.tm,Value.slice B8 n.tk.length d8,Value.int .i64 n.sm,Value.slice A10 n.sk.length c10,Value.slice A11 n.ct.length c11,Value.int .i64 n.ad,Value.int .i64 n.db]) 8 (Value.slice B8 n.tk.length d8) rfl;have S:=S.new_row rfl hb ho;clear HS ha8 fa8 ho hb;have HS:=Aside0.mk S;have ha10:=S.at_cell 1 rfl 10 rfl;have fa10:=S.at_frozen 1 rfl 10;clear S)|((with_reducible refine gate_builtin (b:=.append) (xs:=#[.tmp 25,.tmp 28]) rfl ?_);at_builtin;refine Kd.R_append_rows Kd.string (w0:=w) w.heap.size rfl (.tmp 25) (.tmp 28) 28 9 (.string ⟨#[]⟩) 16 rfl Tryz.underlying28 info9 rfl (by decide) (by omega) v25 [] n.sk _ _ _ (fun _=>True) (fun _=>False) rfl rfl ?aO ?aR (fun _ _ h=>h) (fun _ h=>h.elim) ?aF ?aB ?aS ?aL ?_;(case aO=>exact Kd.R_mono (HS.out.at_R 0 rfl) (fun _ _=>trivial));(case aR=>exact(HF.out.below HS.out.below).h10);(case aF=>exact fun _ _=>trivial);(case aB=>exact HS.out.below);(case aS=>exact below_size HS.out.below);(case aL=>simp only [List.length_nil];omega);intro v29 x29 ho hb hg hat;rw[List.nil_append] at ho;have S:=HS.out.appended rfl hb hg ho hat;obtain⟨B10,d10,rfl⟩:=Kd.R_slice ho;clear ho hb hg hat;clear HS ha10 fa10;have HS:=Aside0.mk S;have ha10:=S.at_cell 1 rfl 10 rfl;have ha11:=S.at_cell 1 rfl 11 rfl;have ha12:=S.at_cell 1 rfl 12 rfl;have fa10:=S.at_frozen 1 rfl 10;have fa11:=S.at_frozen 1 rfl 11;have fa12:=S.at_frozen 1 rfl 12;clear S))
 clear s6 s8 s10;have S:=HS.out;have S:=S.front 1 rfl rfl
 have S:=S.put (cs':=#[Value.slice B0 n.sl.length d0,Value.int .i64 n.fr,Value.slice B2 n.ce.length d2,Value.slice B3 n.old.length d3,Value.int .i64 n.mv,Value.int .i64 n.wm,Value.slice B6 n.wk.length d6,Value.int .i64 n.tm,Value.slice B8 n.tk.length d8,Value.int .i64 n.sm,Value.slice B10 n.sk.length d10,Value.slice A11 n.ct.length c11,Value.int .i64 n.ad,Value.int .i64 n.db]) 10 (Value.slice B10 n.sk.length d10) rfl
 clear HS ha10 fa10 ha11 fa11 ha12 fa12;refine(l05CopyL n.ct HN.out.s11 n.ad _ (HF.out.below S.below).h11).mono ?_
 rintro e y11 ⟨v11,rfl,hr,hb⟩
 have S:=S.new_row rfl hb hr
 obtain⟨B11,d11,rfl⟩:=Kd.R_slice hr;clear hr hb;have HS:=Aside0.mk S
 obtain⟨ha0,ha1,ha2,ha3,ha4,ha5,ha6,ha7,ha8,ha9,ha10,ha11,ha12,ha13⟩:=S.cells14 1 rfl
 obtain⟨fa0,fa1,fa2,fa3,fa4,fa5,fa6,fa7,fa8,fa9,fa10,fa11,fa12,fa13⟩:=S.frozen14 1 rfl
 obtain⟨hb0,hb1,hb2,hb3,hb4,hb5,hb6,hb7,hb8,hb9,hb10,hb11,hb12,hb13⟩:=S.cells14 8 rfl
 obtain⟨fb0,fb1,fb2,fb3,fb4,fb5,fb6,fb7,fb8,fb9,fb10,fb11,fb12,fb13⟩:=S.frozen14 8 rfl
 clear S;go_wp2_with fail
 have S:=HS.out;have S:=S.front 1 rfl rfl
 have S:=S.put (cs':=#[Value.slice B0 n.sl.length d0,Value.int .i64 n.fr,Value.slice B2 n.ce.length d2,Value.slice B3 n.old.length d3,Value.int .i64 n.mv,Value.int .i64 n.wm,Value.slice B6 n.wk.length d6,Value.int .i64 n.tm,Value.slice B8 n.tk.length d8,Value.int .i64 n.sm,Value.slice B10 n.sk.length d10,Value.slice B11 n.ct.length d11,Value.int .i64 n.ad,Value.int .i64 n.db]) 11 (Value.slice B11 n.ct.length d11) rfl
 have S:=S.put (cs':=#[Value.slice B0 n.sl.length d0,Value.int .i64 n.fr,Value.slice B2 n.ce.length d2,Value.slice B3 n.old.length d3,Value.int .i64 n.mv,Value.int .i64 n.wm,Value.slice B6 n.wk.length d6,Value.int .i64 n.tm,Value.slice B8 n.tk.length d8,Value.int .i64 n.sm,Value.slice B10 n.sk.length d10,Value.slice B11 n.ct.length d11,Value.int .i64 n.ad,Value.int .i64 n.db]) 12 (Value.int .i64 n.ad) rfl
 have S:=S.front 8 rfl rfl
 have S:=S.put14 (Value.slice B0 n.sl.length d0) (Value.int .i64 n.fr) (Value.slice B2 n.ce.length d2) (Value.slice B3 n.old.length d3) (Value.int .i64 n.mv) (Value.int .i64 n.wm) (Value.slice B6 n.wk.length d6) (Value.int .i64 n.tm) (Value.slice B8 n.tk.length d8) (Value.int .i64 n.sm) (Value.slice B10 n.sk.length d10) (Value.slice B11 n.ct.length d11) (Value.int .i64 n.ad) (Value.int .i64 n.db)
 refine bodyPost_ret (results_cell_row rfl _ _ g2 50 #[Value.slice B0 n.sl.length d0,Value.int .i64 n.fr,Value.slice B2 n.ce.length d2,Value.slice B3 n.old.length d3,Value.int .i64 n.mv,Value.int .i64 n.wm,Value.slice B6 n.wk.length d6,Value.int .i64 n.tm,Value.slice B8 n.tk.length d8,Value.int .i64 n.sm,Value.slice B10 n.sk.length d10,Value.slice B11 n.ct.length d11,Value.int .i64 n.ad,Value.int .i64 n.db] (0,0) _ rfl S.head.2 Tryz.underlying50 rfl (by kernel_rfl)) rfl ?_
 have S:=S.tail;have S:=S.tail;have S:=S.front 1 rfl rfl
 have S:=S.front 2 rfl rfl
 have S:=S.front 3 rfl rfl
 have S:=S.front 5 rfl rfl
 have S:=S.front 5 rfl rfl
 have S:=S.front 6 rfl rfl
 exact⟨⟨.slice B0 n.sl.length d0,.slice B2 n.ce.length d2,.slice B3 n.old.length d3,.slice B6 n.wk.length d6,.slice B8 n.tk.length d8,.slice B10 n.sk.length d10,.slice B11 n.ct.length d11⟩,rfl,S⟩
end Go.Proofs.YtediiolcoilepaaGreat.Nb
