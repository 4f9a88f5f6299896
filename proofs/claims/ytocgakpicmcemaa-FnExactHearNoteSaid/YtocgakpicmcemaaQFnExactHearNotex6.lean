/- The walk of the law FnExactHearNote, its latter half: from the program's own call on; given that what its callees say agrees. -/
import Derived.Test.YtocgakpicmcemaaQFnExactHearNotex1
import Derived.Test.YtocgakpicmcemaaQFnExactHearNotex2
import Derived.Test.YtocgakpicmcemaaQFnExactHearNotex3
import Derived.Test.YtocgakpicmcemaaQFnExactHearNotex4
import Derived.Test.YtocgakpicmcemaaQFnExactHearNotex5

import Derived.Deep.DeepMust
namespace Go.Proofs.Ytocgakpicmcemaa.PFnExactHearNote
open Go.RowKit Go.Proofs.YtocgakpicmcemaaW.PrintWords Go.Proofs.YtocgakpicmcemaaW.PrintLast Go.Proofs.YtocgakpicmcemaaW.PrintMore
attribute [local go_sem] max2_int min2_int max_two min_two max_three min_three max_four min_four
set_option linter.unusedVariables false
set_option linter.unusedSimpArgs false
set_option linter.defProp false
def zA := @blk_drewN
def zB := @blk_alloc
def zC := @blk_drew
def zD := @Kd.R_drewN
def zE := @Kd.R_alloc
def zF := @Kd.R_drew
def zG := @pw_below_drewN
def zH := @below_drew1
def zI := @below_alloc
def zJ := @below_set
def zK := @blk_below
def zL := @Kd.R_far
def zM := @Kd.R_below
def zN := @below_step
def zO := @blk_cell
def zP := @blk_frozen
def zQ := @Kd.R_types
def zR := @Kd.R_mono
def zT := @blk_far
def laws_FnExactHearNote.T8 : Bool × List (List Nat × List Nat) := (true,[([],[]),([0],[0]),([],[]),([2,1],[2]),([1,3,3],[1,3]),([4],[4]),([5],[5]),([5],[5]),([5],[5]),([],[]),([],[]),([9,6,4,0,1,2,3,4,5,6,9,10],[6,9]),([10,7,11,0,1,2,3,4,5,6,7,9,10,11],[7,10]),([8,12,0,1,2,3,4,5,6,7,8,9,10,11,12],[8])])
def laws_FnExactHearNote.B8 : List Nat := [0,1,0,7,15,31,63,63,63,0,0,1663,3839,8191]
theorem laws_FnExactHearNote.tab8 : rtab .any (opsOf Try.f12 8) = laws_FnExactHearNote.T8 := by kernel_rfl
theorem laws_FnExactHearNote.bits8 : waitsOk laws_FnExactHearNote.T8.2 laws_FnExactHearNote.B8 = true := by kernel_rfl
def laws_FnExactHearNote.T9 : Bool × List (List Nat × List Nat) := (true,[([],[]),([0],[0]),([],[]),([2,1],[2]),([1,3,3],[1,3]),([4],[4]),([5],[5]),([5],[5]),([5],[5]),([],[]),([],[]),([9,6,4,0,1,2,3,4,5,6,9,10],[6,9]),([10,7,11,0,1,2,3,4,5,6,7,9,10,11],[7,10]),([8,12,0,1,2,3,4,5,6,7,8,9,10,11,12],[8])])
def laws_FnExactHearNote.B9 : List Nat := [0,1,0,7,15,31,63,63,63,0,0,1663,3839,8191]
theorem laws_FnExactHearNote.tab9 : rtab .any (opsOf Try.f12 9) = laws_FnExactHearNote.T9 := by kernel_rfl
theorem laws_FnExactHearNote.bits9 : waitsOk laws_FnExactHearNote.T9.2 laws_FnExactHearNote.B9 = true := by kernel_rfl
set_option maxHeartbeats 1600000 in
set_option maxRecDepth 100000 in
theorem walk3b (k : Nat) (a0_0 a0_1 : Int) (a0_2 : ByteArray) (a1_0 a1_1 a1_2 a1_3 a1_4 : Int) (a1_5 : ByteArray) (t136 t137 t138 t139 : Int) (t140 : ByteArray) (t141 t142 t143 t144 t145 : Int) (t146 : ByteArray) (t147 t148 : Int) (t149 : ByteArray) (t150 t151 t152 t153 t154 : Int) (t155 : ByteArray) (t156 : Bool) (t159 t160 : Int) (t161 : ByteArray) (t162 t163 t164 t165 t166 : Int) (t167 : ByteArray) (t168 t169 : Int) (t170 : ByteArray) (t171 t172 t173 t174 t175 : Int) (t176 : ByteArray) (t177 : Bool) (w : World) (A22 : Aside0 (laws_toVoice.f a0_0 a0_1 a0_2 = some (t159,t160,t161))) (A23 : Aside0 (laws_toNote.f a1_0 a1_1 a1_2 a1_3 a1_4 a1_5 = some (t162,t163,t164,t165,t166,t167))) (A24 : Aside0 (impl_HearNote.f k t159 t160 t161 t162 t163 t164 t165 t166 t167 = some (t168,t169,t170,t171,t172,t173,t174,t175,t176,t177))) (A25 : Aside0 (laws_eqVoice.f t168 t169 t170 t147 t148 t149 = some true)) (A27 : Aside0 (laws_eqNote.f t171 t172 t173 t174 t175 t176 t150 t151 t152 t153 t154 t155 = some true)) (c29b0 : (t177 != t156) = false) (c29b1 : decide (t177 = t156) = true) (c29b2 : (t177 == t156) = true)
  (gb134 gb135 gb157 gb158 : Nat) (w113 : World) (GE134 : Aside0 (w.heap.size ≤ gb134)) (GE135 : Aside0 (w.heap.size ≤ gb135)) (GE157 : Aside0 (w.heap.size ≤ gb157)) (GE158 : Aside0 (w.heap.size ≤ gb158)) (NB134_135 : Aside0 (gb134 ≠ gb135)) (NB134_157 : Aside0 (gb134 ≠ gb157)) (NB134_158 : Aside0 (gb134 ≠ gb158)) (NB135_134 : Aside0 (gb135 ≠ gb134)) (NB135_157 : Aside0 (gb135 ≠ gb157)) (NB135_158 : Aside0 (gb135 ≠ gb158)) (NB157_134 : Aside0 (gb157 ≠ gb134)) (NB157_135 : Aside0 (gb157 ≠ gb135)) (NB157_158 : Aside0 (gb157 ≠ gb158)) (NB158_134 : Aside0 (gb158 ≠ gb134)) (NB158_135 : Aside0 (gb158 ≠ gb135)) (NB158_157 : Aside0 (gb158 ≠ gb157)) (BK134 : Aside0 (w113.heap[gb134]? = some (.cells #[.int .i64 a0_0,.int .i64 a0_1,.string a0_2] 63 (0,0)))) (BK135 : Aside0 (w113.heap[gb135]? = some (.cells #[.int .i64 a1_0,.int .i64 a1_1,.int .i64 a1_2,.int .i64 a1_3,.int .i64 a1_4,.string a1_5] 64 (0,0)))) (BK157 : Aside0 (w113.heap[gb157]? = some (.cells #[.int .i64 t147,.int .i64 t148,.string t149] 67 (0,0)))) (BK158 : Aside0 (w113.heap[gb158]? = some (.cells #[.int .i64 t150,.int .i64 t151,.int .i64 t152,.int .i64 t153,.int .i64 t154,.string t155] 61 (0,0)))) (HB : Aside0 (Below w.heap.size w w113))
   : let Q' : Exit → Act → World → Prop := (bodyPost Try.prog Try.f12 fun e w' => e = .returned (.bool true) ∧ Below w.heap.size w w');∀ (K1 : Act → World → Prop) (hK1 :
  ∀ (a : Act) (w : World),
    Code.wp Try.prog
        (((Code.region 10
                  #[{ dst := some 40, op := Op.load 67 (Operand.tmp 9), type := 67, pos := "exact.go:4255",
                      after := #[],guard := none },
                    { dst := some 41, op := Op.load 67 (Operand.tmp 6), type := 67, pos := "exact.go:4255",
                      after := #[],guard := none },
                    { dst := some 42,
                      op :=
                        Op.call
                          { callee := Callee.value (Operand.func 50),args := #[Operand.tmp 40,Operand.tmp 41],
                            argTypes := #[67,67] },
                      type := 4, pos := "exact.go:4255",
                      after := #[{ on := 0,ground := Ground.data },{ on := 1,ground := Ground.data }],
                      guard := none },
                    { dst := some 43, op := Op.unOp UnOp.not 4 (Operand.tmp 42), type := 4, pos := "exact.go:4255",
                      after := #[{ on := 2,ground := Ground.data }],guard := none },
                    { dst := some 44, op := Op.move (Operand.tmp 43), type := 4, pos := "exact.go:4255",
                      after := #[{ on := 3,ground := Ground.data },{ on := 2,ground := Ground.chain }],
                      guard := none },
                    { dst := some 45, op := Op.load 61 (Operand.tmp 10), type := 61, pos := "exact.go:4255",
                      after := #[{ on := 4,ground := Ground.guard }],guard := some (4,false) },
                    { dst := some 46, op := Op.load 61 (Operand.tmp 7), type := 61, pos := "exact.go:4255",
                      after := #[{ on := 4,ground := Ground.guard }],guard := some (4,false) },
                    { dst := some 47,
                      op :=
                        Op.call
                          { callee := Callee.value (Operand.func 51),args := #[Operand.tmp 45,Operand.tmp 46],
                            argTypes := #[61,61] },
                      type := 4, pos := "exact.go:4255",
                      after :=
                        #[{ on := 5,ground := Ground.data },{ on := 6,ground := Ground.data },
                          { on := 4,ground := Ground.chain },{ on := 4,ground := Ground.guard }],
                      guard := some (4,false) },
                    { dst := some 48, op := Op.unOp UnOp.not 4 (Operand.tmp 47), type := 4, pos := "exact.go:4255",
                      after := #[{ on := 7,ground := Ground.data },{ on := 4,ground := Ground.guard }],
                      guard := some (4,false) },
                    { dst := some 49,op := Op.pick (Operand.tmp 44) (Operand.const (Value.bool true)) (Operand.tmp 48),
                      type := 4, pos := "exact.go:4255",
                      after := #[{ on := 4,ground := Ground.data },{ on := 8,ground := Ground.data }],
                      guard := none },
                    { dst := some 50, op := Op.move (Operand.tmp 49), type := 4, pos := "exact.go:4255",
                      after := #[{ on := 9,ground := Ground.data },{ on := 7,ground := Ground.chain }],
                      guard := none },
                    { dst := some 51, op := Op.move (Operand.tmp 11), type := 4, pos := "exact.go:4255",
                      after := #[{ on := 10,ground := Ground.guard }],guard := some (10,false) },
                    { dst := some 52, op := Op.move (Operand.tmp 8), type := 4, pos := "exact.go:4255",
                      after := #[{ on := 10,ground := Ground.guard }],guard := some (10,false) },
                    { dst := some 53,op := Op.binOp BinOp.neq 4 (Operand.tmp 51) (Operand.tmp 52) 4,type := 4,
                      pos := "exact.go:4255",
                      after :=
                        #[{ on := 11,ground := Ground.data },{ on := 12,ground := Ground.data },
                          { on := 10,ground := Ground.guard }],
                      guard := some (10,false) },
                    { dst := some 54,op := Op.pick (Operand.tmp 50) (Operand.const (Value.bool true)) (Operand.tmp 53),
                      type := 4, pos := "exact.go:4255",
                      after := #[{ on := 10,ground := Ground.data },{ on := 13,ground := Ground.data }],
                      guard := none }]
                  false).seq
              (Code.cond (Operand.tmp 54)
                ((Code.region 11
                      #[{ dst := some 4,op := Op.assign (Operand.const (Value.bool false)),type := 4,
                          pos := "exact.go:4256", after := #[], guard := none }]
                      false).seq
                  Code.ret)
                Code.skip)).seq
          ((Code.region 12
                #[{ dst := some 4, op := Op.assign (Operand.const (Value.bool true)), type := 4, pos := "exact.go:4258",
                    after := #[],guard := none }]
                false).seq
            Code.ret))
        Q' a w →
      K1 a w),
  Code.wp Try.prog
    (Code.region 9
      #[{ dst := some 32, op := Op.load 63 (Operand.tmp 2), type := 63, pos := "exact.go:4254", after := #[],
          guard := none },
        { dst := some 33,
          op := Op.call { callee := Callee.value (Operand.func 47),args := #[Operand.tmp 32],argTypes := #[63] },
          type := 67, pos := "exact.go:4254", after := #[{ on := 0, ground := Ground.data }], guard := none },
        { dst := some 34, op := Op.load 64 (Operand.tmp 3), type := 64, pos := "exact.go:4254", after := #[],
          guard := none },
        { dst := some 35,
          op := Op.call { callee := Callee.value (Operand.func 48),args := #[Operand.tmp 34],argTypes := #[64] },
          type := 61, pos := "exact.go:4254",
          after := #[{ on := 2,ground := Ground.data },{ on := 1,ground := Ground.chain }],guard := none },
        { dst := some 36,
          op :=
            Op.call
              { callee := Callee.value (Operand.func 49),args := #[Operand.tmp 33,Operand.tmp 35],
                argTypes := #[67,61] },
          type := 68, pos := "exact.go:4254",
          after :=
            #[{ on := 1,ground := Ground.data },{ on := 3,ground := Ground.data },
              { on := 3,ground := Ground.chain }],
          guard := none },
        { dst := some 31, op := Op.move (Operand.tmp 36), type := 68, pos := "exact.go:4254",
          after := #[{ on := 4,ground := Ground.data }],guard := none },
        { dst := some 37, op := Op.extract (Operand.tmp 31) 0, type := 67, pos := "exact.go:4254",
          after := #[{ on := 5,ground := Ground.data }],guard := none },
        { dst := some 38, op := Op.extract (Operand.tmp 31) 1, type := 61, pos := "exact.go:4254",
          after := #[{ on := 5,ground := Ground.data },{ on := 11,ground := Ground.gcOnly Departure.lateStores }],
          guard := none },
        { dst := some 39, op := Op.extract (Operand.tmp 31) 2, type := 4, pos := "exact.go:4254",
          after := #[{ on := 5,ground := Ground.data },{ on := 12,ground := Ground.gcOnly Departure.lateStores }],
          guard := none },
        { dst := some 9, op := Op.alloc 67, type := 0, pos := "exact.go:4254", after := #[], guard := none },
        { dst := some 10, op := Op.alloc 61, type := 0, pos := "exact.go:4254", after := #[], guard := none },
        { dst := none, op := Op.store 67 (Operand.tmp 9) (Operand.tmp 37), type := 0, pos := "exact.go:4254",
          after :=
            #[{ on := 9,ground := Ground.data },{ on := 6,ground := Ground.data },
              { on := 4,ground := Ground.chain },{ on := 0,ground := Ground.phase },
              { on := 1,ground := Ground.phase },{ on := 2,ground := Ground.phase },
              { on := 3,ground := Ground.phase },{ on := 4,ground := Ground.phase },
              { on := 5,ground := Ground.phase },{ on := 6,ground := Ground.phase },
              { on := 7,ground := Ground.textOnly Departure.lateStores },
              { on := 8,ground := Ground.textOnly Departure.lateStores },{ on := 9,ground := Ground.phase },
              { on := 10,ground := Ground.phase }],
          guard := none },
        { dst := none, op := Op.store 61 (Operand.tmp 10) (Operand.tmp 38), type := 0, pos := "exact.go:4254",
          after :=
            #[{ on := 10,ground := Ground.data },{ on := 7,ground := Ground.data },
              { on := 11,ground := Ground.chain },{ on := 0,ground := Ground.phase },
              { on := 1,ground := Ground.phase },{ on := 2,ground := Ground.phase },
              { on := 3,ground := Ground.phase },{ on := 4,ground := Ground.phase },
              { on := 5,ground := Ground.phase },{ on := 6,ground := Ground.phase },
              { on := 7,ground := Ground.phase },{ on := 8,ground := Ground.textOnly Departure.lateStores },
              { on := 9,ground := Ground.phase },{ on := 10,ground := Ground.phase },
              { on := 11,ground := Ground.phase }],
          guard := none },
        { dst := some 11, op := Op.assign (Operand.tmp 39), type := 4, pos := "exact.go:4254",
          after :=
            #[{ on := 8,ground := Ground.data },{ on := 12,ground := Ground.chain },
              { on := 0,ground := Ground.phase },{ on := 1,ground := Ground.phase },
              { on := 2,ground := Ground.phase },{ on := 3,ground := Ground.phase },
              { on := 4,ground := Ground.phase },{ on := 5,ground := Ground.phase },
              { on := 6,ground := Ground.phase },{ on := 7,ground := Ground.phase },
              { on := 8,ground := Ground.phase },{ on := 9,ground := Ground.phase },
              { on := 10,ground := Ground.phase },{ on := 11,ground := Ground.phase },
              { on := 12,ground := Ground.phase }],
          guard := none }]
      true)
    (Exit.then K1 Q')
    {
      tmps :=
        #[Value.agg #[Value.int IntKind.i64 a0_0,Value.int IntKind.i64 a0_1,Value.string a0_2],
          Value.agg
            #[Value.int IntKind.i64 a1_0,Value.int IntKind.i64 a1_1,Value.int IntKind.i64 a1_2,
              Value.int IntKind.i64 a1_3,Value.int IntKind.i64 a1_4,Value.string a1_5],
          Value.pointer (some { block := gb134,off := 0 }),Value.pointer (some { block := gb135,off := 0 }),
          Value.bool false,Value.int IntKind.i64 t137,Value.pointer (some { block := gb157,off := 0 }),
          Value.pointer (some { block := gb158,off := 0 }),Value.bool t156,undef,undef,undef,
          Value.agg #[Value.int IntKind.i64 a0_0,Value.int IntKind.i64 a0_1,Value.string a0_2],
          Value.int IntKind.i64 1048576,Value.int IntKind.i64 t136,Value.int IntKind.i64 t136,Value.bool false,
          Value.agg
            #[Value.int IntKind.i64 a1_0,Value.int IntKind.i64 a1_1,Value.int IntKind.i64 a1_2,
              Value.int IntKind.i64 a1_3,Value.int IntKind.i64 a1_4,Value.string a1_5],
          Value.int IntKind.i64 t136,Value.int IntKind.i64 t137,Value.int IntKind.i64 t137,Value.bool false,
          Value.tuple
            #[Value.agg #[Value.int IntKind.i64 t147,Value.int IntKind.i64 t148,Value.string t149],
              Value.agg
                #[Value.int IntKind.i64 t150,Value.int IntKind.i64 t151,Value.int IntKind.i64 t152,
                  Value.int IntKind.i64 t153,Value.int IntKind.i64 t154,Value.string t155],
              Value.bool t156],
          Value.agg #[Value.int IntKind.i64 a0_0,Value.int IntKind.i64 a0_1,Value.string a0_2],
          Value.agg #[Value.int IntKind.i64 t138,Value.int IntKind.i64 t139,Value.string t140],
          Value.agg
            #[Value.int IntKind.i64 a1_0,Value.int IntKind.i64 a1_1,Value.int IntKind.i64 a1_2,
              Value.int IntKind.i64 a1_3,Value.int IntKind.i64 a1_4,Value.string a1_5],
          Value.agg
            #[Value.int IntKind.i64 t141,Value.int IntKind.i64 t142,Value.int IntKind.i64 t143,
              Value.int IntKind.i64 t144,Value.int IntKind.i64 t145,Value.string t146],
          Value.tuple
            #[Value.agg #[Value.int IntKind.i64 t147,Value.int IntKind.i64 t148,Value.string t149],
              Value.agg
                #[Value.int IntKind.i64 t150,Value.int IntKind.i64 t151,Value.int IntKind.i64 t152,
                  Value.int IntKind.i64 t153,Value.int IntKind.i64 t154,Value.string t155],
              Value.bool t156],
          Value.agg #[Value.int IntKind.i64 t147,Value.int IntKind.i64 t148,Value.string t149],
          Value.agg
            #[Value.int IntKind.i64 t150,Value.int IntKind.i64 t151,Value.int IntKind.i64 t152,
              Value.int IntKind.i64 t153,Value.int IntKind.i64 t154,Value.string t155],
          Value.bool t156,undef,undef,undef,undef,undef,undef,undef,undef,undef,undef,undef,undef,undef,
          undef,undef,undef,undef,undef,undef,undef,undef,undef,undef,undef],
      defers := [] }
    w113 := by
  intro Q' K1 hK1
  have hu63 := Try.underlying63
  have hu64 := Try.underlying64
  have hu67 := Try.underlying67
  have hu61 := Try.underlying61
  have hb92_ := NB134_135.out
  have hc92_ := NB135_134.out
  have n0_ := Aside0.mk (zC BK134.out)
  have n1_ := Aside0.mk (zC BK135.out)
  have n2_ := Aside0.mk (zC BK157.out)
  have n3_ := Aside0.mk (zC BK158.out)
  have n4_ := Aside0.mk (zH HB.out)
  clear BK134
  clear BK135
  clear BK157
  clear BK158
  clear HB
  have BK134 := n0_
  have BK135 := n1_
  have BK157 := n2_
  have BK158 := n3_
  have HB := n4_
  clear n0_ n1_ n2_ n3_ n4_
  refine start_ (n := 14) (S := fun w' => w'.cell? ⟨gb134,0,none⟩ = some (.int .i64 a0_0) ∧ w'.cell? ⟨gb134,1,none⟩ = some (.int .i64 a0_1) ∧ w'.cell? ⟨gb134,2,none⟩ = some (.string a0_2) ∧ w'.cell? ⟨gb135,0,none⟩ = some (.int .i64 a1_0) ∧ w'.cell? ⟨gb135,1,none⟩ = some (.int .i64 a1_1) ∧ w'.cell? ⟨gb135,2,none⟩ = some (.int .i64 a1_2) ∧ w'.cell? ⟨gb135,3,none⟩ = some (.int .i64 a1_3) ∧ w'.cell? ⟨gb135,4,none⟩ = some (.int .i64 a1_4) ∧ w'.cell? ⟨gb135,5,none⟩ = some (.string a1_5)) (ds := []) #[false,false,false,false,false,false,false,false,false,false,false,false,false,false] (by kernel_rfl) rfl rfl ⟨(zO BK134.out 0).trans rfl,(zO BK134.out 1).trans rfl,(zO BK134.out 2).trans rfl,(zO BK135.out 0).trans rfl,(zO BK135.out 1).trans rfl,(zO BK135.out 2).trans rfl,(zO BK135.out 3).trans rfl,(zO BK135.out 4).trans rfl,(zO BK135.out 5).trans rfl⟩ (fun hHeld => ?_);refine with_tabW laws_FnExactHearNote.tab9 laws_FnExactHearNote.bits9 (fun HT_ HW_ => ?_)
  generalize w113.drew = w114 at BK134 BK135 BK157 BK158 HB hHeld ⊢
  refine take_ (i := 0) (N := some 32) (v := ?_) (a' := ?_) #[true,false,false,false,false,false,false,false,false,false,false,false,false,false] rfl rfl (take_ofW HT_.out HW_.out (by kernel_rfl)) (fun _ _ _ h => h) (Or.inl ⟨by rfl,?_⟩) hHeld ?_ ?_
  rotate_left
  ·rintro w' ⟨s0,s1,s2,s3,s4,s5,s6,s7,s8⟩
   go_simp
   with_reducible rfl
  rotate_left
  ·simp only [Act.put,List.setIfInBounds_toArray,List.set_cons_zero,List.set_cons_succ,i64_w,i32_w]
   rfl
  refine take_ (i := 2) (N := some 34) (v := ?_) (a' := ?_) #[true,false,true,false,false,false,false,false,false,false,false,false,false,false] rfl rfl (take_ofW HT_.out HW_.out (by kernel_rfl)) (fun _ _ _ h => h) (Or.inl ⟨by rfl,?_⟩) hHeld ?_ ?_
  rotate_left
  ·rintro w' ⟨s0,s1,s2,s3,s4,s5,s6,s7,s8⟩
   go_simp
   with_reducible rfl
  rotate_left
  ·simp only [Act.put,List.setIfInBounds_toArray,List.set_cons_zero,List.set_cons_succ,i64_w,i32_w]
   rfl
  refine join_ (σ := Nat × Nat) 3 #[true,true,true,true,true,true,true,true,true,true,true,false,false,false] (fun s_ => [(33,.agg #[.int .i64 t159,.int .i64 t160,.string t161]),(35,.agg #[.int .i64 t162,.int .i64 t163,.int .i64 t164,.int .i64 t165,.int .i64 t166,.string t167]),(36,.tuple #[.agg #[.int .i64 t168,.int .i64 t169,.string t170],.agg #[.int .i64 t171,.int .i64 t172,.int .i64 t173,.int .i64 t174,.int .i64 t175,.string t176],.bool t177]),(9,.pointer (some ⟨s_.1,0,none⟩)),(10,.pointer (some ⟨s_.2,0,none⟩)),(31,.tuple #[.agg #[.int .i64 t168,.int .i64 t169,.string t170],.agg #[.int .i64 t171,.int .i64 t172,.int .i64 t173,.int .i64 t174,.int .i64 t175,.string t176],.bool t177]),(37,.agg #[.int .i64 t168,.int .i64 t169,.string t170]),(38,.agg #[.int .i64 t171,.int .i64 t172,.int .i64 t173,.int .i64 t174,.int .i64 t175,.string t176]),(39,.bool t177)]) (fun s_ w' => (w'.cell? ⟨gb134,0,none⟩ = some (.int .i64 a0_0) ∧ w'.cell? ⟨gb134,1,none⟩ = some (.int .i64 a0_1) ∧ w'.cell? ⟨gb134,2,none⟩ = some (.string a0_2) ∧ w'.cell? ⟨gb135,0,none⟩ = some (.int .i64 a1_0) ∧ w'.cell? ⟨gb135,1,none⟩ = some (.int .i64 a1_1) ∧ w'.cell? ⟨gb135,2,none⟩ = some (.int .i64 a1_2) ∧ w'.cell? ⟨gb135,3,none⟩ = some (.int .i64 a1_3) ∧ w'.cell? ⟨gb135,4,none⟩ = some (.int .i64 a1_4) ∧ w'.cell? ⟨gb135,5,none⟩ = some (.string a1_5)) ∧ (w'.heap[gb134]? = some (.cells #[.int .i64 a0_0,.int .i64 a0_1,.string a0_2] 63 (0,0))) ∧ (w'.heap[gb135]? = some (.cells #[.int .i64 a1_0,.int .i64 a1_1,.int .i64 a1_2,.int .i64 a1_3,.int .i64 a1_4,.string a1_5] 64 (0,0))) ∧ (w'.heap[gb157]? = some (.cells #[.int .i64 t147,.int .i64 t148,.string t149] 67 (0,0))) ∧ (w'.heap[gb158]? = some (.cells #[.int .i64 t150,.int .i64 t151,.int .i64 t152,.int .i64 t153,.int .i64 t154,.string t155] 61 (0,0))) ∧ (w'.heap[s_.1]? = some (.cells #[.int .i64 0,.int .i64 0,.string (⟨#[]⟩ : ByteArray)] 67 (0,0))) ∧ (w'.heap[s_.2]? = some (.cells #[.int .i64 0,.int .i64 0,.int .i64 0,.int .i64 0,.int .i64 0,.string (⟨#[]⟩ : ByteArray)] 61 (0,0))) ∧ (w.heap.size ≤ s_.1) ∧ (w.heap.size ≤ s_.1) ∧ (gb134 ≠ s_.1) ∧ (s_.1 ≠ gb134) ∧ (gb135 ≠ s_.1) ∧ (s_.1 ≠ gb135) ∧ (gb157 ≠ s_.1) ∧ (s_.1 ≠ gb157) ∧ (gb158 ≠ s_.1) ∧ (s_.1 ≠ gb158) ∧ (s_.2 ≠ s_.1) ∧ (s_.1 ≠ s_.2) ∧ (w.heap.size ≤ s_.2) ∧ (w.heap.size ≤ s_.2) ∧ (gb134 ≠ s_.2) ∧ (s_.2 ≠ gb134) ∧ (gb135 ≠ s_.2) ∧ (s_.2 ≠ gb135) ∧ (gb157 ≠ s_.2) ∧ (s_.2 ≠ gb157) ∧ (gb158 ≠ s_.2) ∧ (s_.2 ≠ gb158) ∧ (Below w.heap.size w w')) ?_ ?_
  rotate_left
  ·intro hJ1_3_4_9_10
   refine join_ (σ := Nat) 4 #[true,true,true,true,true,true,true,true,true,true,false,false,false,false] (fun s_ => [(33,.agg #[.int .i64 t159,.int .i64 t160,.string t161]),(35,.agg #[.int .i64 t162,.int .i64 t163,.int .i64 t164,.int .i64 t165,.int .i64 t166,.string t167]),(36,.tuple #[.agg #[.int .i64 t168,.int .i64 t169,.string t170],.agg #[.int .i64 t171,.int .i64 t172,.int .i64 t173,.int .i64 t174,.int .i64 t175,.string t176],.bool t177]),(9,.pointer (some ⟨s_,0,none⟩)),(31,.tuple #[.agg #[.int .i64 t168,.int .i64 t169,.string t170],.agg #[.int .i64 t171,.int .i64 t172,.int .i64 t173,.int .i64 t174,.int .i64 t175,.string t176],.bool t177]),(37,.agg #[.int .i64 t168,.int .i64 t169,.string t170]),(38,.agg #[.int .i64 t171,.int .i64 t172,.int .i64 t173,.int .i64 t174,.int .i64 t175,.string t176]),(39,.bool t177)]) (fun s_ w' => (w'.cell? ⟨gb134,0,none⟩ = some (.int .i64 a0_0) ∧ w'.cell? ⟨gb134,1,none⟩ = some (.int .i64 a0_1) ∧ w'.cell? ⟨gb134,2,none⟩ = some (.string a0_2) ∧ w'.cell? ⟨gb135,0,none⟩ = some (.int .i64 a1_0) ∧ w'.cell? ⟨gb135,1,none⟩ = some (.int .i64 a1_1) ∧ w'.cell? ⟨gb135,2,none⟩ = some (.int .i64 a1_2) ∧ w'.cell? ⟨gb135,3,none⟩ = some (.int .i64 a1_3) ∧ w'.cell? ⟨gb135,4,none⟩ = some (.int .i64 a1_4) ∧ w'.cell? ⟨gb135,5,none⟩ = some (.string a1_5)) ∧ (w'.heap[gb134]? = some (.cells #[.int .i64 a0_0,.int .i64 a0_1,.string a0_2] 63 (0,0))) ∧ (w'.heap[gb135]? = some (.cells #[.int .i64 a1_0,.int .i64 a1_1,.int .i64 a1_2,.int .i64 a1_3,.int .i64 a1_4,.string a1_5] 64 (0,0))) ∧ (w'.heap[gb157]? = some (.cells #[.int .i64 t147,.int .i64 t148,.string t149] 67 (0,0))) ∧ (w'.heap[gb158]? = some (.cells #[.int .i64 t150,.int .i64 t151,.int .i64 t152,.int .i64 t153,.int .i64 t154,.string t155] 61 (0,0))) ∧ (w'.heap[s_]? = some (.cells #[.int .i64 0,.int .i64 0,.string (⟨#[]⟩ : ByteArray)] 67 (0,0))) ∧ (w.heap.size ≤ s_) ∧ (w.heap.size ≤ s_) ∧ (gb134 ≠ s_) ∧ (s_ ≠ gb134) ∧ (gb135 ≠ s_) ∧ (s_ ≠ gb135) ∧ (gb157 ≠ s_) ∧ (s_ ≠ gb157) ∧ (gb158 ≠ s_) ∧ (s_ ≠ gb158) ∧ (Below w.heap.size w w')) ?_ ?_
   rotate_left
   ·intro hJ1_3_4_9
    refine join_ (σ := Nat) 4 #[true,true,true,true,true,true,true,true,true,false,true,false,false,false] (fun s_ => [(33,.agg #[.int .i64 t159,.int .i64 t160,.string t161]),(35,.agg #[.int .i64 t162,.int .i64 t163,.int .i64 t164,.int .i64 t165,.int .i64 t166,.string t167]),(36,.tuple #[.agg #[.int .i64 t168,.int .i64 t169,.string t170],.agg #[.int .i64 t171,.int .i64 t172,.int .i64 t173,.int .i64 t174,.int .i64 t175,.string t176],.bool t177]),(10,.pointer (some ⟨s_,0,none⟩)),(31,.tuple #[.agg #[.int .i64 t168,.int .i64 t169,.string t170],.agg #[.int .i64 t171,.int .i64 t172,.int .i64 t173,.int .i64 t174,.int .i64 t175,.string t176],.bool t177]),(37,.agg #[.int .i64 t168,.int .i64 t169,.string t170]),(38,.agg #[.int .i64 t171,.int .i64 t172,.int .i64 t173,.int .i64 t174,.int .i64 t175,.string t176]),(39,.bool t177)]) (fun s_ w' => (w'.cell? ⟨gb134,0,none⟩ = some (.int .i64 a0_0) ∧ w'.cell? ⟨gb134,1,none⟩ = some (.int .i64 a0_1) ∧ w'.cell? ⟨gb134,2,none⟩ = some (.string a0_2) ∧ w'.cell? ⟨gb135,0,none⟩ = some (.int .i64 a1_0) ∧ w'.cell? ⟨gb135,1,none⟩ = some (.int .i64 a1_1) ∧ w'.cell? ⟨gb135,2,none⟩ = some (.int .i64 a1_2) ∧ w'.cell? ⟨gb135,3,none⟩ = some (.int .i64 a1_3) ∧ w'.cell? ⟨gb135,4,none⟩ = some (.int .i64 a1_4) ∧ w'.cell? ⟨gb135,5,none⟩ = some (.string a1_5)) ∧ (w'.heap[gb134]? = some (.cells #[.int .i64 a0_0,.int .i64 a0_1,.string a0_2] 63 (0,0))) ∧ (w'.heap[gb135]? = some (.cells #[.int .i64 a1_0,.int .i64 a1_1,.int .i64 a1_2,.int .i64 a1_3,.int .i64 a1_4,.string a1_5] 64 (0,0))) ∧ (w'.heap[gb157]? = some (.cells #[.int .i64 t147,.int .i64 t148,.string t149] 67 (0,0))) ∧ (w'.heap[gb158]? = some (.cells #[.int .i64 t150,.int .i64 t151,.int .i64 t152,.int .i64 t153,.int .i64 t154,.string t155] 61 (0,0))) ∧ (w'.heap[s_]? = some (.cells #[.int .i64 0,.int .i64 0,.int .i64 0,.int .i64 0,.int .i64 0,.string (⟨#[]⟩ : ByteArray)] 61 (0,0))) ∧ (w.heap.size ≤ s_) ∧ (w.heap.size ≤ s_) ∧ (gb134 ≠ s_) ∧ (s_ ≠ gb134) ∧ (gb135 ≠ s_) ∧ (s_ ≠ gb135) ∧ (gb157 ≠ s_) ∧ (s_ ≠ gb157) ∧ (gb158 ≠ s_) ∧ (s_ ≠ gb158) ∧ (Below w.heap.size w w')) ?_ ?_
    rotate_left
    ·intro hJ1_3_4_10
     refine join_ (σ := Nat × Nat) 8 #[true,true,true,true,false,false,false,false,false,true,true,false,false,false] (fun s_ => [(33,.agg #[.int .i64 t159,.int .i64 t160,.string t161]),(35,.agg #[.int .i64 t162,.int .i64 t163,.int .i64 t164,.int .i64 t165,.int .i64 t166,.string t167]),(9,.pointer (some ⟨s_.1,0,none⟩)),(10,.pointer (some ⟨s_.2,0,none⟩))]) (fun s_ w' => (w'.cell? ⟨gb134,0,none⟩ = some (.int .i64 a0_0) ∧ w'.cell? ⟨gb134,1,none⟩ = some (.int .i64 a0_1) ∧ w'.cell? ⟨gb134,2,none⟩ = some (.string a0_2) ∧ w'.cell? ⟨gb135,0,none⟩ = some (.int .i64 a1_0) ∧ w'.cell? ⟨gb135,1,none⟩ = some (.int .i64 a1_1) ∧ w'.cell? ⟨gb135,2,none⟩ = some (.int .i64 a1_2) ∧ w'.cell? ⟨gb135,3,none⟩ = some (.int .i64 a1_3) ∧ w'.cell? ⟨gb135,4,none⟩ = some (.int .i64 a1_4) ∧ w'.cell? ⟨gb135,5,none⟩ = some (.string a1_5)) ∧ (w'.heap[gb134]? = some (.cells #[.int .i64 a0_0,.int .i64 a0_1,.string a0_2] 63 (0,0))) ∧ (w'.heap[gb135]? = some (.cells #[.int .i64 a1_0,.int .i64 a1_1,.int .i64 a1_2,.int .i64 a1_3,.int .i64 a1_4,.string a1_5] 64 (0,0))) ∧ (w'.heap[gb157]? = some (.cells #[.int .i64 t147,.int .i64 t148,.string t149] 67 (0,0))) ∧ (w'.heap[gb158]? = some (.cells #[.int .i64 t150,.int .i64 t151,.int .i64 t152,.int .i64 t153,.int .i64 t154,.string t155] 61 (0,0))) ∧ (w'.heap[s_.1]? = some (.cells #[.int .i64 0,.int .i64 0,.string (⟨#[]⟩ : ByteArray)] 67 (0,0))) ∧ (w'.heap[s_.2]? = some (.cells #[.int .i64 0,.int .i64 0,.int .i64 0,.int .i64 0,.int .i64 0,.string (⟨#[]⟩ : ByteArray)] 61 (0,0))) ∧ (w.heap.size ≤ s_.1) ∧ (w.heap.size ≤ s_.1) ∧ (gb134 ≠ s_.1) ∧ (s_.1 ≠ gb134) ∧ (gb135 ≠ s_.1) ∧ (s_.1 ≠ gb135) ∧ (gb157 ≠ s_.1) ∧ (s_.1 ≠ gb157) ∧ (gb158 ≠ s_.1) ∧ (s_.1 ≠ gb158) ∧ (s_.2 ≠ s_.1) ∧ (s_.1 ≠ s_.2) ∧ (w.heap.size ≤ s_.2) ∧ (w.heap.size ≤ s_.2) ∧ (gb134 ≠ s_.2) ∧ (s_.2 ≠ gb134) ∧ (gb135 ≠ s_.2) ∧ (s_.2 ≠ gb135) ∧ (gb157 ≠ s_.2) ∧ (s_.2 ≠ gb157) ∧ (gb158 ≠ s_.2) ∧ (s_.2 ≠ gb158) ∧ (Below w.heap.size w w')) ?_ ?_
     rotate_left
     ·intro hJ1_3_9_10
      refine join_ (σ := Unit) 5 #[true,true,true,true,true,true,true,true,true,false,false,false,false,false] (fun s_ => [(33,.agg #[.int .i64 t159,.int .i64 t160,.string t161]),(35,.agg #[.int .i64 t162,.int .i64 t163,.int .i64 t164,.int .i64 t165,.int .i64 t166,.string t167]),(36,.tuple #[.agg #[.int .i64 t168,.int .i64 t169,.string t170],.agg #[.int .i64 t171,.int .i64 t172,.int .i64 t173,.int .i64 t174,.int .i64 t175,.string t176],.bool t177]),(31,.tuple #[.agg #[.int .i64 t168,.int .i64 t169,.string t170],.agg #[.int .i64 t171,.int .i64 t172,.int .i64 t173,.int .i64 t174,.int .i64 t175,.string t176],.bool t177]),(37,.agg #[.int .i64 t168,.int .i64 t169,.string t170]),(38,.agg #[.int .i64 t171,.int .i64 t172,.int .i64 t173,.int .i64 t174,.int .i64 t175,.string t176]),(39,.bool t177)]) (fun s_ w' => (w'.cell? ⟨gb134,0,none⟩ = some (.int .i64 a0_0) ∧ w'.cell? ⟨gb134,1,none⟩ = some (.int .i64 a0_1) ∧ w'.cell? ⟨gb134,2,none⟩ = some (.string a0_2) ∧ w'.cell? ⟨gb135,0,none⟩ = some (.int .i64 a1_0) ∧ w'.cell? ⟨gb135,1,none⟩ = some (.int .i64 a1_1) ∧ w'.cell? ⟨gb135,2,none⟩ = some (.int .i64 a1_2) ∧ w'.cell? ⟨gb135,3,none⟩ = some (.int .i64 a1_3) ∧ w'.cell? ⟨gb135,4,none⟩ = some (.int .i64 a1_4) ∧ w'.cell? ⟨gb135,5,none⟩ = some (.string a1_5)) ∧ (w'.heap[gb134]? = some (.cells #[.int .i64 a0_0,.int .i64 a0_1,.string a0_2] 63 (0,0))) ∧ (w'.heap[gb135]? = some (.cells #[.int .i64 a1_0,.int .i64 a1_1,.int .i64 a1_2,.int .i64 a1_3,.int .i64 a1_4,.string a1_5] 64 (0,0))) ∧ (w'.heap[gb157]? = some (.cells #[.int .i64 t147,.int .i64 t148,.string t149] 67 (0,0))) ∧ (w'.heap[gb158]? = some (.cells #[.int .i64 t150,.int .i64 t151,.int .i64 t152,.int .i64 t153,.int .i64 t154,.string t155] 61 (0,0))) ∧ (Below w.heap.size w w')) ?_ ?_
      rotate_left
      ·intro hJ1_3_4
       refine join_ (σ := Nat) 9 #[true,true,true,true,false,false,false,false,false,true,false,false,false,false] (fun s_ => [(33,.agg #[.int .i64 t159,.int .i64 t160,.string t161]),(35,.agg #[.int .i64 t162,.int .i64 t163,.int .i64 t164,.int .i64 t165,.int .i64 t166,.string t167]),(9,.pointer (some ⟨s_,0,none⟩))]) (fun s_ w' => (w'.cell? ⟨gb134,0,none⟩ = some (.int .i64 a0_0) ∧ w'.cell? ⟨gb134,1,none⟩ = some (.int .i64 a0_1) ∧ w'.cell? ⟨gb134,2,none⟩ = some (.string a0_2) ∧ w'.cell? ⟨gb135,0,none⟩ = some (.int .i64 a1_0) ∧ w'.cell? ⟨gb135,1,none⟩ = some (.int .i64 a1_1) ∧ w'.cell? ⟨gb135,2,none⟩ = some (.int .i64 a1_2) ∧ w'.cell? ⟨gb135,3,none⟩ = some (.int .i64 a1_3) ∧ w'.cell? ⟨gb135,4,none⟩ = some (.int .i64 a1_4) ∧ w'.cell? ⟨gb135,5,none⟩ = some (.string a1_5)) ∧ (w'.heap[gb134]? = some (.cells #[.int .i64 a0_0,.int .i64 a0_1,.string a0_2] 63 (0,0))) ∧ (w'.heap[gb135]? = some (.cells #[.int .i64 a1_0,.int .i64 a1_1,.int .i64 a1_2,.int .i64 a1_3,.int .i64 a1_4,.string a1_5] 64 (0,0))) ∧ (w'.heap[gb157]? = some (.cells #[.int .i64 t147,.int .i64 t148,.string t149] 67 (0,0))) ∧ (w'.heap[gb158]? = some (.cells #[.int .i64 t150,.int .i64 t151,.int .i64 t152,.int .i64 t153,.int .i64 t154,.string t155] 61 (0,0))) ∧ (w'.heap[s_]? = some (.cells #[.int .i64 0,.int .i64 0,.string (⟨#[]⟩ : ByteArray)] 67 (0,0))) ∧ (w.heap.size ≤ s_) ∧ (w.heap.size ≤ s_) ∧ (gb134 ≠ s_) ∧ (s_ ≠ gb134) ∧ (gb135 ≠ s_) ∧ (s_ ≠ gb135) ∧ (gb157 ≠ s_) ∧ (s_ ≠ gb157) ∧ (gb158 ≠ s_) ∧ (s_ ≠ gb158) ∧ (Below w.heap.size w w')) ?_ ?_
       rotate_left
       ·intro hJ1_3_9
        refine join_ (σ := Nat) 9 #[true,true,true,true,false,false,false,false,false,false,true,false,false,false] (fun s_ => [(33,.agg #[.int .i64 t159,.int .i64 t160,.string t161]),(35,.agg #[.int .i64 t162,.int .i64 t163,.int .i64 t164,.int .i64 t165,.int .i64 t166,.string t167]),(10,.pointer (some ⟨s_,0,none⟩))]) (fun s_ w' => (w'.cell? ⟨gb134,0,none⟩ = some (.int .i64 a0_0) ∧ w'.cell? ⟨gb134,1,none⟩ = some (.int .i64 a0_1) ∧ w'.cell? ⟨gb134,2,none⟩ = some (.string a0_2) ∧ w'.cell? ⟨gb135,0,none⟩ = some (.int .i64 a1_0) ∧ w'.cell? ⟨gb135,1,none⟩ = some (.int .i64 a1_1) ∧ w'.cell? ⟨gb135,2,none⟩ = some (.int .i64 a1_2) ∧ w'.cell? ⟨gb135,3,none⟩ = some (.int .i64 a1_3) ∧ w'.cell? ⟨gb135,4,none⟩ = some (.int .i64 a1_4) ∧ w'.cell? ⟨gb135,5,none⟩ = some (.string a1_5)) ∧ (w'.heap[gb134]? = some (.cells #[.int .i64 a0_0,.int .i64 a0_1,.string a0_2] 63 (0,0))) ∧ (w'.heap[gb135]? = some (.cells #[.int .i64 a1_0,.int .i64 a1_1,.int .i64 a1_2,.int .i64 a1_3,.int .i64 a1_4,.string a1_5] 64 (0,0))) ∧ (w'.heap[gb157]? = some (.cells #[.int .i64 t147,.int .i64 t148,.string t149] 67 (0,0))) ∧ (w'.heap[gb158]? = some (.cells #[.int .i64 t150,.int .i64 t151,.int .i64 t152,.int .i64 t153,.int .i64 t154,.string t155] 61 (0,0))) ∧ (w'.heap[s_]? = some (.cells #[.int .i64 0,.int .i64 0,.int .i64 0,.int .i64 0,.int .i64 0,.string (⟨#[]⟩ : ByteArray)] 61 (0,0))) ∧ (w.heap.size ≤ s_) ∧ (w.heap.size ≤ s_) ∧ (gb134 ≠ s_) ∧ (s_ ≠ gb134) ∧ (gb135 ≠ s_) ∧ (s_ ≠ gb135) ∧ (gb157 ≠ s_) ∧ (s_ ≠ gb157) ∧ (gb158 ≠ s_) ∧ (s_ ≠ gb158) ∧ (Below w.heap.size w w')) ?_ ?_
        rotate_left
        ·intro hJ1_3_10
         refine join_ (σ := Nat × Nat) 9 #[true,true,true,false,false,false,false,false,false,true,true,false,false,false] (fun s_ => [(33,.agg #[.int .i64 t159,.int .i64 t160,.string t161]),(9,.pointer (some ⟨s_.1,0,none⟩)),(10,.pointer (some ⟨s_.2,0,none⟩))]) (fun s_ w' => (w'.cell? ⟨gb134,0,none⟩ = some (.int .i64 a0_0) ∧ w'.cell? ⟨gb134,1,none⟩ = some (.int .i64 a0_1) ∧ w'.cell? ⟨gb134,2,none⟩ = some (.string a0_2) ∧ w'.cell? ⟨gb135,0,none⟩ = some (.int .i64 a1_0) ∧ w'.cell? ⟨gb135,1,none⟩ = some (.int .i64 a1_1) ∧ w'.cell? ⟨gb135,2,none⟩ = some (.int .i64 a1_2) ∧ w'.cell? ⟨gb135,3,none⟩ = some (.int .i64 a1_3) ∧ w'.cell? ⟨gb135,4,none⟩ = some (.int .i64 a1_4) ∧ w'.cell? ⟨gb135,5,none⟩ = some (.string a1_5)) ∧ (w'.heap[gb134]? = some (.cells #[.int .i64 a0_0,.int .i64 a0_1,.string a0_2] 63 (0,0))) ∧ (w'.heap[gb135]? = some (.cells #[.int .i64 a1_0,.int .i64 a1_1,.int .i64 a1_2,.int .i64 a1_3,.int .i64 a1_4,.string a1_5] 64 (0,0))) ∧ (w'.heap[gb157]? = some (.cells #[.int .i64 t147,.int .i64 t148,.string t149] 67 (0,0))) ∧ (w'.heap[gb158]? = some (.cells #[.int .i64 t150,.int .i64 t151,.int .i64 t152,.int .i64 t153,.int .i64 t154,.string t155] 61 (0,0))) ∧ (w'.heap[s_.1]? = some (.cells #[.int .i64 0,.int .i64 0,.string (⟨#[]⟩ : ByteArray)] 67 (0,0))) ∧ (w'.heap[s_.2]? = some (.cells #[.int .i64 0,.int .i64 0,.int .i64 0,.int .i64 0,.int .i64 0,.string (⟨#[]⟩ : ByteArray)] 61 (0,0))) ∧ (w.heap.size ≤ s_.1) ∧ (w.heap.size ≤ s_.1) ∧ (gb134 ≠ s_.1) ∧ (s_.1 ≠ gb134) ∧ (gb135 ≠ s_.1) ∧ (s_.1 ≠ gb135) ∧ (gb157 ≠ s_.1) ∧ (s_.1 ≠ gb157) ∧ (gb158 ≠ s_.1) ∧ (s_.1 ≠ gb158) ∧ (s_.2 ≠ s_.1) ∧ (s_.1 ≠ s_.2) ∧ (w.heap.size ≤ s_.2) ∧ (w.heap.size ≤ s_.2) ∧ (gb134 ≠ s_.2) ∧ (s_.2 ≠ gb134) ∧ (gb135 ≠ s_.2) ∧ (s_.2 ≠ gb135) ∧ (gb157 ≠ s_.2) ∧ (s_.2 ≠ gb157) ∧ (gb158 ≠ s_.2) ∧ (s_.2 ≠ gb158) ∧ (Below w.heap.size w w')) ?_ ?_
         rotate_left
         ·intro hJ1_9_10
          refine join_ (σ := Unit) 10 #[true,true,true,true,false,false,false,false,false,false,false,false,false,false] (fun s_ => [(33,.agg #[.int .i64 t159,.int .i64 t160,.string t161]),(35,.agg #[.int .i64 t162,.int .i64 t163,.int .i64 t164,.int .i64 t165,.int .i64 t166,.string t167])]) (fun s_ w' => (w'.cell? ⟨gb134,0,none⟩ = some (.int .i64 a0_0) ∧ w'.cell? ⟨gb134,1,none⟩ = some (.int .i64 a0_1) ∧ w'.cell? ⟨gb134,2,none⟩ = some (.string a0_2) ∧ w'.cell? ⟨gb135,0,none⟩ = some (.int .i64 a1_0) ∧ w'.cell? ⟨gb135,1,none⟩ = some (.int .i64 a1_1) ∧ w'.cell? ⟨gb135,2,none⟩ = some (.int .i64 a1_2) ∧ w'.cell? ⟨gb135,3,none⟩ = some (.int .i64 a1_3) ∧ w'.cell? ⟨gb135,4,none⟩ = some (.int .i64 a1_4) ∧ w'.cell? ⟨gb135,5,none⟩ = some (.string a1_5)) ∧ (w'.heap[gb134]? = some (.cells #[.int .i64 a0_0,.int .i64 a0_1,.string a0_2] 63 (0,0))) ∧ (w'.heap[gb135]? = some (.cells #[.int .i64 a1_0,.int .i64 a1_1,.int .i64 a1_2,.int .i64 a1_3,.int .i64 a1_4,.string a1_5] 64 (0,0))) ∧ (w'.heap[gb157]? = some (.cells #[.int .i64 t147,.int .i64 t148,.string t149] 67 (0,0))) ∧ (w'.heap[gb158]? = some (.cells #[.int .i64 t150,.int .i64 t151,.int .i64 t152,.int .i64 t153,.int .i64 t154,.string t155] 61 (0,0))) ∧ (Below w.heap.size w w')) ?_ ?_
          rotate_left
          ·intro hJ1_3
           refine join_ (σ := Nat) 10 #[true,true,true,false,false,false,false,false,false,true,false,false,false,false] (fun s_ => [(33,.agg #[.int .i64 t159,.int .i64 t160,.string t161]),(9,.pointer (some ⟨s_,0,none⟩))]) (fun s_ w' => (w'.cell? ⟨gb134,0,none⟩ = some (.int .i64 a0_0) ∧ w'.cell? ⟨gb134,1,none⟩ = some (.int .i64 a0_1) ∧ w'.cell? ⟨gb134,2,none⟩ = some (.string a0_2) ∧ w'.cell? ⟨gb135,0,none⟩ = some (.int .i64 a1_0) ∧ w'.cell? ⟨gb135,1,none⟩ = some (.int .i64 a1_1) ∧ w'.cell? ⟨gb135,2,none⟩ = some (.int .i64 a1_2) ∧ w'.cell? ⟨gb135,3,none⟩ = some (.int .i64 a1_3) ∧ w'.cell? ⟨gb135,4,none⟩ = some (.int .i64 a1_4) ∧ w'.cell? ⟨gb135,5,none⟩ = some (.string a1_5)) ∧ (w'.heap[gb134]? = some (.cells #[.int .i64 a0_0,.int .i64 a0_1,.string a0_2] 63 (0,0))) ∧ (w'.heap[gb135]? = some (.cells #[.int .i64 a1_0,.int .i64 a1_1,.int .i64 a1_2,.int .i64 a1_3,.int .i64 a1_4,.string a1_5] 64 (0,0))) ∧ (w'.heap[gb157]? = some (.cells #[.int .i64 t147,.int .i64 t148,.string t149] 67 (0,0))) ∧ (w'.heap[gb158]? = some (.cells #[.int .i64 t150,.int .i64 t151,.int .i64 t152,.int .i64 t153,.int .i64 t154,.string t155] 61 (0,0))) ∧ (w'.heap[s_]? = some (.cells #[.int .i64 0,.int .i64 0,.string (⟨#[]⟩ : ByteArray)] 67 (0,0))) ∧ (w.heap.size ≤ s_) ∧ (w.heap.size ≤ s_) ∧ (gb134 ≠ s_) ∧ (s_ ≠ gb134) ∧ (gb135 ≠ s_) ∧ (s_ ≠ gb135) ∧ (gb157 ≠ s_) ∧ (s_ ≠ gb157) ∧ (gb158 ≠ s_) ∧ (s_ ≠ gb158) ∧ (Below w.heap.size w w')) ?_ ?_
           rotate_left
           ·intro hJ1_9
            refine join_ (σ := Nat) 10 #[true,true,true,false,false,false,false,false,false,false,true,false,false,false] (fun s_ => [(33,.agg #[.int .i64 t159,.int .i64 t160,.string t161]),(10,.pointer (some ⟨s_,0,none⟩))]) (fun s_ w' => (w'.cell? ⟨gb134,0,none⟩ = some (.int .i64 a0_0) ∧ w'.cell? ⟨gb134,1,none⟩ = some (.int .i64 a0_1) ∧ w'.cell? ⟨gb134,2,none⟩ = some (.string a0_2) ∧ w'.cell? ⟨gb135,0,none⟩ = some (.int .i64 a1_0) ∧ w'.cell? ⟨gb135,1,none⟩ = some (.int .i64 a1_1) ∧ w'.cell? ⟨gb135,2,none⟩ = some (.int .i64 a1_2) ∧ w'.cell? ⟨gb135,3,none⟩ = some (.int .i64 a1_3) ∧ w'.cell? ⟨gb135,4,none⟩ = some (.int .i64 a1_4) ∧ w'.cell? ⟨gb135,5,none⟩ = some (.string a1_5)) ∧ (w'.heap[gb134]? = some (.cells #[.int .i64 a0_0,.int .i64 a0_1,.string a0_2] 63 (0,0))) ∧ (w'.heap[gb135]? = some (.cells #[.int .i64 a1_0,.int .i64 a1_1,.int .i64 a1_2,.int .i64 a1_3,.int .i64 a1_4,.string a1_5] 64 (0,0))) ∧ (w'.heap[gb157]? = some (.cells #[.int .i64 t147,.int .i64 t148,.string t149] 67 (0,0))) ∧ (w'.heap[gb158]? = some (.cells #[.int .i64 t150,.int .i64 t151,.int .i64 t152,.int .i64 t153,.int .i64 t154,.string t155] 61 (0,0))) ∧ (w'.heap[s_]? = some (.cells #[.int .i64 0,.int .i64 0,.int .i64 0,.int .i64 0,.int .i64 0,.string (⟨#[]⟩ : ByteArray)] 61 (0,0))) ∧ (w.heap.size ≤ s_) ∧ (w.heap.size ≤ s_) ∧ (gb134 ≠ s_) ∧ (s_ ≠ gb134) ∧ (gb135 ≠ s_) ∧ (s_ ≠ gb135) ∧ (gb157 ≠ s_) ∧ (s_ ≠ gb157) ∧ (gb158 ≠ s_) ∧ (s_ ≠ gb158) ∧ (Below w.heap.size w w')) ?_ ?_
            rotate_left
            ·intro hJ1_10
             refine join_ (σ := Nat × Nat) 10 #[true,false,true,false,false,false,false,false,false,true,true,false,false,false] (fun s_ => [(9,.pointer (some ⟨s_.1,0,none⟩)),(10,.pointer (some ⟨s_.2,0,none⟩))]) (fun s_ w' => (w'.cell? ⟨gb134,0,none⟩ = some (.int .i64 a0_0) ∧ w'.cell? ⟨gb134,1,none⟩ = some (.int .i64 a0_1) ∧ w'.cell? ⟨gb134,2,none⟩ = some (.string a0_2) ∧ w'.cell? ⟨gb135,0,none⟩ = some (.int .i64 a1_0) ∧ w'.cell? ⟨gb135,1,none⟩ = some (.int .i64 a1_1) ∧ w'.cell? ⟨gb135,2,none⟩ = some (.int .i64 a1_2) ∧ w'.cell? ⟨gb135,3,none⟩ = some (.int .i64 a1_3) ∧ w'.cell? ⟨gb135,4,none⟩ = some (.int .i64 a1_4) ∧ w'.cell? ⟨gb135,5,none⟩ = some (.string a1_5)) ∧ (w'.heap[gb134]? = some (.cells #[.int .i64 a0_0,.int .i64 a0_1,.string a0_2] 63 (0,0))) ∧ (w'.heap[gb135]? = some (.cells #[.int .i64 a1_0,.int .i64 a1_1,.int .i64 a1_2,.int .i64 a1_3,.int .i64 a1_4,.string a1_5] 64 (0,0))) ∧ (w'.heap[gb157]? = some (.cells #[.int .i64 t147,.int .i64 t148,.string t149] 67 (0,0))) ∧ (w'.heap[gb158]? = some (.cells #[.int .i64 t150,.int .i64 t151,.int .i64 t152,.int .i64 t153,.int .i64 t154,.string t155] 61 (0,0))) ∧ (w'.heap[s_.1]? = some (.cells #[.int .i64 0,.int .i64 0,.string (⟨#[]⟩ : ByteArray)] 67 (0,0))) ∧ (w'.heap[s_.2]? = some (.cells #[.int .i64 0,.int .i64 0,.int .i64 0,.int .i64 0,.int .i64 0,.string (⟨#[]⟩ : ByteArray)] 61 (0,0))) ∧ (w.heap.size ≤ s_.1) ∧ (w.heap.size ≤ s_.1) ∧ (gb134 ≠ s_.1) ∧ (s_.1 ≠ gb134) ∧ (gb135 ≠ s_.1) ∧ (s_.1 ≠ gb135) ∧ (gb157 ≠ s_.1) ∧ (s_.1 ≠ gb157) ∧ (gb158 ≠ s_.1) ∧ (s_.1 ≠ gb158) ∧ (s_.2 ≠ s_.1) ∧ (s_.1 ≠ s_.2) ∧ (w.heap.size ≤ s_.2) ∧ (w.heap.size ≤ s_.2) ∧ (gb134 ≠ s_.2) ∧ (s_.2 ≠ gb134) ∧ (gb135 ≠ s_.2) ∧ (s_.2 ≠ gb135) ∧ (gb157 ≠ s_.2) ∧ (s_.2 ≠ gb157) ∧ (gb158 ≠ s_.2) ∧ (s_.2 ≠ gb158) ∧ (Below w.heap.size w w')) ?_ ?_
             rotate_left
             ·intro hJ9_10
              refine join_ (σ := Unit) 11 #[true,true,true,false,false,false,false,false,false,false,false,false,false,false] (fun s_ => [(33,.agg #[.int .i64 t159,.int .i64 t160,.string t161])]) (fun s_ w' => (w'.cell? ⟨gb134,0,none⟩ = some (.int .i64 a0_0) ∧ w'.cell? ⟨gb134,1,none⟩ = some (.int .i64 a0_1) ∧ w'.cell? ⟨gb134,2,none⟩ = some (.string a0_2) ∧ w'.cell? ⟨gb135,0,none⟩ = some (.int .i64 a1_0) ∧ w'.cell? ⟨gb135,1,none⟩ = some (.int .i64 a1_1) ∧ w'.cell? ⟨gb135,2,none⟩ = some (.int .i64 a1_2) ∧ w'.cell? ⟨gb135,3,none⟩ = some (.int .i64 a1_3) ∧ w'.cell? ⟨gb135,4,none⟩ = some (.int .i64 a1_4) ∧ w'.cell? ⟨gb135,5,none⟩ = some (.string a1_5)) ∧ (w'.heap[gb134]? = some (.cells #[.int .i64 a0_0,.int .i64 a0_1,.string a0_2] 63 (0,0))) ∧ (w'.heap[gb135]? = some (.cells #[.int .i64 a1_0,.int .i64 a1_1,.int .i64 a1_2,.int .i64 a1_3,.int .i64 a1_4,.string a1_5] 64 (0,0))) ∧ (w'.heap[gb157]? = some (.cells #[.int .i64 t147,.int .i64 t148,.string t149] 67 (0,0))) ∧ (w'.heap[gb158]? = some (.cells #[.int .i64 t150,.int .i64 t151,.int .i64 t152,.int .i64 t153,.int .i64 t154,.string t155] 61 (0,0))) ∧ (Below w.heap.size w w')) ?_ ?_
              rotate_left
              ·intro hJ1
               refine join_ (σ := Nat) 11 #[true,false,true,false,false,false,false,false,false,true,false,false,false,false] (fun s_ => [(9,.pointer (some ⟨s_,0,none⟩))]) (fun s_ w' => (w'.cell? ⟨gb134,0,none⟩ = some (.int .i64 a0_0) ∧ w'.cell? ⟨gb134,1,none⟩ = some (.int .i64 a0_1) ∧ w'.cell? ⟨gb134,2,none⟩ = some (.string a0_2) ∧ w'.cell? ⟨gb135,0,none⟩ = some (.int .i64 a1_0) ∧ w'.cell? ⟨gb135,1,none⟩ = some (.int .i64 a1_1) ∧ w'.cell? ⟨gb135,2,none⟩ = some (.int .i64 a1_2) ∧ w'.cell? ⟨gb135,3,none⟩ = some (.int .i64 a1_3) ∧ w'.cell? ⟨gb135,4,none⟩ = some (.int .i64 a1_4) ∧ w'.cell? ⟨gb135,5,none⟩ = some (.string a1_5)) ∧ (w'.heap[gb134]? = some (.cells #[.int .i64 a0_0,.int .i64 a0_1,.string a0_2] 63 (0,0))) ∧ (w'.heap[gb135]? = some (.cells #[.int .i64 a1_0,.int .i64 a1_1,.int .i64 a1_2,.int .i64 a1_3,.int .i64 a1_4,.string a1_5] 64 (0,0))) ∧ (w'.heap[gb157]? = some (.cells #[.int .i64 t147,.int .i64 t148,.string t149] 67 (0,0))) ∧ (w'.heap[gb158]? = some (.cells #[.int .i64 t150,.int .i64 t151,.int .i64 t152,.int .i64 t153,.int .i64 t154,.string t155] 61 (0,0))) ∧ (w'.heap[s_]? = some (.cells #[.int .i64 0,.int .i64 0,.string (⟨#[]⟩ : ByteArray)] 67 (0,0))) ∧ (w.heap.size ≤ s_) ∧ (w.heap.size ≤ s_) ∧ (gb134 ≠ s_) ∧ (s_ ≠ gb134) ∧ (gb135 ≠ s_) ∧ (s_ ≠ gb135) ∧ (gb157 ≠ s_) ∧ (s_ ≠ gb157) ∧ (gb158 ≠ s_) ∧ (s_ ≠ gb158) ∧ (Below w.heap.size w w')) ?_ ?_
               rotate_left
               ·intro hJ9
                refine join_ (σ := Nat) 11 #[true,false,true,false,false,false,false,false,false,false,true,false,false,false] (fun s_ => [(10,.pointer (some ⟨s_,0,none⟩))]) (fun s_ w' => (w'.cell? ⟨gb134,0,none⟩ = some (.int .i64 a0_0) ∧ w'.cell? ⟨gb134,1,none⟩ = some (.int .i64 a0_1) ∧ w'.cell? ⟨gb134,2,none⟩ = some (.string a0_2) ∧ w'.cell? ⟨gb135,0,none⟩ = some (.int .i64 a1_0) ∧ w'.cell? ⟨gb135,1,none⟩ = some (.int .i64 a1_1) ∧ w'.cell? ⟨gb135,2,none⟩ = some (.int .i64 a1_2) ∧ w'.cell? ⟨gb135,3,none⟩ = some (.int .i64 a1_3) ∧ w'.cell? ⟨gb135,4,none⟩ = some (.int .i64 a1_4) ∧ w'.cell? ⟨gb135,5,none⟩ = some (.string a1_5)) ∧ (w'.heap[gb134]? = some (.cells #[.int .i64 a0_0,.int .i64 a0_1,.string a0_2] 63 (0,0))) ∧ (w'.heap[gb135]? = some (.cells #[.int .i64 a1_0,.int .i64 a1_1,.int .i64 a1_2,.int .i64 a1_3,.int .i64 a1_4,.string a1_5] 64 (0,0))) ∧ (w'.heap[gb157]? = some (.cells #[.int .i64 t147,.int .i64 t148,.string t149] 67 (0,0))) ∧ (w'.heap[gb158]? = some (.cells #[.int .i64 t150,.int .i64 t151,.int .i64 t152,.int .i64 t153,.int .i64 t154,.string t155] 61 (0,0))) ∧ (w'.heap[s_]? = some (.cells #[.int .i64 0,.int .i64 0,.int .i64 0,.int .i64 0,.int .i64 0,.string (⟨#[]⟩ : ByteArray)] 61 (0,0))) ∧ (w.heap.size ≤ s_) ∧ (w.heap.size ≤ s_) ∧ (gb134 ≠ s_) ∧ (s_ ≠ gb134) ∧ (gb135 ≠ s_) ∧ (s_ ≠ gb135) ∧ (gb157 ≠ s_) ∧ (s_ ≠ gb157) ∧ (gb158 ≠ s_) ∧ (s_ ≠ gb158) ∧ (Below w.heap.size w w')) ?_ ?_
                rotate_left
                ·intro hJ10
                 refine three_ (i := 1) (j := 9) (k := 10) (Ni := some 33) (Nj := some 9) (Nk := some 10) #[true,true,true,false,false,false,false,false,false,false,false,false,false,false] #[true,false,true,false,false,false,false,false,false,true,false,false,false,false] #[true,false,true,false,false,false,false,false,false,false,true,false,false,false] rfl rfl rfl rfl rfl rfl (three_of HT_.out (by kernel_rfl)) (by decide) (by decide) (by decide) (fun K hK => ?_) (fun K hK => ?_) (fun K hK => ?_)
                 ·skip
                  refine goes_ Try.func47 (by kernel_rfl) rfl #[.agg #[.int .i64 a0_0,.int .i64 a0_1,.string a0_2]] (by rfl) rfl rfl (by (try simp only [List.map_toArray,List.map_cons,List.map_nil]);first|done|rfl|(simp only [List.length_drop,List.length_take];rfl)) ?_
                  with_reducible refine (laws_toVoice.calls a0_0 a0_1 a0_2 t159 t160 t161 _ A22.out).mono ?_
                  rintro e w115 ⟨rfl,hb⟩
                  refine ⟨_,rfl,?_⟩
                  have n0_ := Aside0.mk (zK (by exact BK134.out) hb)
                  have n1_ := Aside0.mk (zK (by exact BK135.out) hb)
                  have n2_ := Aside0.mk (zK (by exact BK157.out) hb)
                  have n3_ := Aside0.mk (zK (by exact BK158.out) hb)
                  have n4_ := Aside0.mk (zN (by repeat (first|(with_reducible first|exact HB.out|apply zI|apply zG|apply zH|refine zJ ?_ GE134.out|refine zJ ?_ GE135.out|refine zJ ?_ GE157.out|refine zJ ?_ GE158.out)|exact HB.out)) hb)
                  clear BK134
                  clear BK135
                  clear BK157
                  clear BK158
                  clear HB
                  have BK134 := n0_
                  have BK135 := n1_
                  have BK157 := n2_
                  have BK158 := n3_
                  have HB := n4_
                  clear n0_ n1_ n2_ n3_ n4_
                  (try clear hb)
                  (try clear hb2)
                  (try clear hk)
                  (try clear hi)
                  refine hK.out _ _ ⟨(zO BK134.out 0).trans rfl,(zO BK134.out 1).trans rfl,(zO BK134.out 2).trans rfl,(zO BK135.out 0).trans rfl,(zO BK135.out 1).trans rfl,(zO BK135.out 2).trans rfl,(zO BK135.out 3).trans rfl,(zO BK135.out 4).trans rfl,(zO BK135.out 5).trans rfl⟩ (fun hHeld => ?_)
                  clear hK K
                  refine norm_ (a' := ?_) ?_ ?_
                  rotate_left
                  ·show Act.put _ (some 33) _ = _
                   simp only [Act.put,List.setIfInBounds_toArray,List.set_cons_zero,List.set_cons_succ,i64_w,i32_w]
                   rfl
                  exact norm_ (by first|(simp only [putAll,Act.put,List.setIfInBounds_toArray,List.set_cons_zero,List.set_cons_succ];done)|(simp only [putAll,Act.put,List.setIfInBounds_toArray,List.set_cons_zero,List.set_cons_succ];rfl)) (hJ1 () _ ⟨hHeld,(by (with_reducible repeat (first|refine zA ?_ _|refine zC ?_|refine zB ?_ _));exact BK134.out),(by (with_reducible repeat (first|refine zA ?_ _|refine zC ?_|refine zB ?_ _));exact BK135.out),(by (with_reducible repeat (first|refine zA ?_ _|refine zC ?_|refine zB ?_ _));exact BK157.out),(by (with_reducible repeat (first|refine zA ?_ _|refine zC ?_|refine zB ?_ _));exact BK158.out),(by repeat (first|(with_reducible first|exact HB.out|apply zI|apply zG|apply zH|refine zJ ?_ GE134.out|refine zJ ?_ GE135.out|refine zJ ?_ GE157.out|refine zJ ?_ GE158.out)|exact HB.out))⟩)
                 ·skip
                  refine box_step ?hg (N := 9) ?hd (cs := #[.int .i64 0,.int .i64 0,.string (⟨#[]⟩ : ByteArray)]) (t := 67) ?hr ?_;(case hd => rfl);(case hg => rfl);(case hr => first|(go_simp;done)|(go_simp;rfl))
                  intro gb178 hg w115 hbox hb
                  have n0_ := Aside0.mk (zK (by exact BK134.out) hb)
                  have n1_ := Aside0.mk (zK (by exact BK135.out) hb)
                  have n2_ := Aside0.mk (zK (by exact BK157.out) hb)
                  have n3_ := Aside0.mk (zK (by exact BK158.out) hb)
                  have n4_ := Aside0.mk (zN (by repeat (first|(with_reducible first|exact HB.out|apply zI|apply zG|apply zH|refine zJ ?_ GE134.out|refine zJ ?_ GE135.out|refine zJ ?_ GE157.out|refine zJ ?_ GE158.out)|exact HB.out)) hb)
                  have n5_ := Aside0.mk (hbox)
                  have n6_ := Aside0.mk ((by rw [hg];exact (below_size (by repeat (first|(with_reducible first|exact HB.out|apply zI|apply zG|apply zH|refine zJ ?_ GE134.out|refine zJ ?_ GE135.out|refine zJ ?_ GE157.out|refine zJ ?_ GE158.out)|exact HB.out))) : w.heap.size ≤ gb178))
                  have n7_ := Aside0.mk ((by rw [hg];exact (below_size (by repeat (first|(with_reducible first|exact HB.out|apply zI|apply zG|apply zH|refine zJ ?_ GE134.out|refine zJ ?_ GE135.out|refine zJ ?_ GE157.out|refine zJ ?_ GE158.out)|exact HB.out))) : w.heap.size ≤ gb178))
                  have n8_ := Aside0.mk ((by rw [hg];exact Nat.ne_of_lt (blk_lt (g := gb134) (o := .cells #[.int .i64 a0_0,.int .i64 a0_1,.string a0_2] 63 (0,0)) (by (with_reducible repeat (first|refine zA ?_ _|refine zC ?_|refine zB ?_ _));exact BK134.out)) : gb134 ≠ gb178))
                  have n9_ := Aside0.mk ((by rw [hg];exact Nat.ne_of_gt (blk_lt (g := gb134) (o := .cells #[.int .i64 a0_0,.int .i64 a0_1,.string a0_2] 63 (0,0)) (by (with_reducible repeat (first|refine zA ?_ _|refine zC ?_|refine zB ?_ _));exact BK134.out)) : gb178 ≠ gb134))
                  have n10_ := Aside0.mk ((by rw [hg];exact Nat.ne_of_lt (blk_lt (g := gb135) (o := .cells #[.int .i64 a1_0,.int .i64 a1_1,.int .i64 a1_2,.int .i64 a1_3,.int .i64 a1_4,.string a1_5] 64 (0,0)) (by (with_reducible repeat (first|refine zA ?_ _|refine zC ?_|refine zB ?_ _));exact BK135.out)) : gb135 ≠ gb178))
                  have n11_ := Aside0.mk ((by rw [hg];exact Nat.ne_of_gt (blk_lt (g := gb135) (o := .cells #[.int .i64 a1_0,.int .i64 a1_1,.int .i64 a1_2,.int .i64 a1_3,.int .i64 a1_4,.string a1_5] 64 (0,0)) (by (with_reducible repeat (first|refine zA ?_ _|refine zC ?_|refine zB ?_ _));exact BK135.out)) : gb178 ≠ gb135))
                  have n12_ := Aside0.mk ((by rw [hg];exact Nat.ne_of_lt (blk_lt (g := gb157) (o := .cells #[.int .i64 t147,.int .i64 t148,.string t149] 67 (0,0)) (by (with_reducible repeat (first|refine zA ?_ _|refine zC ?_|refine zB ?_ _));exact BK157.out)) : gb157 ≠ gb178))
                  have n13_ := Aside0.mk ((by rw [hg];exact Nat.ne_of_gt (blk_lt (g := gb157) (o := .cells #[.int .i64 t147,.int .i64 t148,.string t149] 67 (0,0)) (by (with_reducible repeat (first|refine zA ?_ _|refine zC ?_|refine zB ?_ _));exact BK157.out)) : gb178 ≠ gb157))
                  have n14_ := Aside0.mk ((by rw [hg];exact Nat.ne_of_lt (blk_lt (g := gb158) (o := .cells #[.int .i64 t150,.int .i64 t151,.int .i64 t152,.int .i64 t153,.int .i64 t154,.string t155] 61 (0,0)) (by (with_reducible repeat (first|refine zA ?_ _|refine zC ?_|refine zB ?_ _));exact BK158.out)) : gb158 ≠ gb178))
                  have n15_ := Aside0.mk ((by rw [hg];exact Nat.ne_of_gt (blk_lt (g := gb158) (o := .cells #[.int .i64 t150,.int .i64 t151,.int .i64 t152,.int .i64 t153,.int .i64 t154,.string t155] 61 (0,0)) (by (with_reducible repeat (first|refine zA ?_ _|refine zC ?_|refine zB ?_ _));exact BK158.out)) : gb178 ≠ gb158))
                  clear BK134
                  clear BK135
                  clear BK157
                  clear BK158
                  clear HB
                  have BK134 := n0_
                  have BK135 := n1_
                  have BK157 := n2_
                  have BK158 := n3_
                  have HB := n4_
                  have BK178 := n5_
                  have GW178 := n6_
                  have GE178 := n7_
                  have NB134_178 := n8_
                  have NB178_134 := n9_
                  have NB135_178 := n10_
                  have NB178_135 := n11_
                  have NB157_178 := n12_
                  have NB178_157 := n13_
                  have NB158_178 := n14_
                  have NB178_158 := n15_
                  clear n0_ n1_ n2_ n3_ n4_ n5_ n6_ n7_ n8_ n9_ n10_ n11_ n12_ n13_ n14_ n15_
                  clear hb hbox hg
                  refine hK.out _ _ ⟨(zO BK134.out 0).trans rfl,(zO BK134.out 1).trans rfl,(zO BK134.out 2).trans rfl,(zO BK135.out 0).trans rfl,(zO BK135.out 1).trans rfl,(zO BK135.out 2).trans rfl,(zO BK135.out 3).trans rfl,(zO BK135.out 4).trans rfl,(zO BK135.out 5).trans rfl⟩ (fun hHeld => ?_)
                  clear hK K
                  refine norm_ (a' := ?_) ?_ ?_
                  rotate_left
                  ·show Act.put _ (some 9) _ = _
                   simp only [Act.put,List.setIfInBounds_toArray,List.set_cons_zero,List.set_cons_succ,i64_w,i32_w]
                   rfl
                  exact norm_ (by first|(simp only [putAll,Act.put,List.setIfInBounds_toArray,List.set_cons_zero,List.set_cons_succ];done)|(simp only [putAll,Act.put,List.setIfInBounds_toArray,List.set_cons_zero,List.set_cons_succ];rfl)) (hJ9 (gb178) _ ⟨hHeld,(by (with_reducible repeat (first|refine zA ?_ _|refine zC ?_|refine zB ?_ _));exact BK134.out),(by (with_reducible repeat (first|refine zA ?_ _|refine zC ?_|refine zB ?_ _));exact BK135.out),(by (with_reducible repeat (first|refine zA ?_ _|refine zC ?_|refine zB ?_ _));exact BK157.out),(by (with_reducible repeat (first|refine zA ?_ _|refine zC ?_|refine zB ?_ _));exact BK158.out),(by (with_reducible repeat (first|refine zA ?_ _|refine zC ?_|refine zB ?_ _));exact BK178.out),GW178.out,GE178.out,NB134_178.out,NB178_134.out,NB135_178.out,NB178_135.out,NB157_178.out,NB178_157.out,NB158_178.out,NB178_158.out,(by repeat (first|(with_reducible first|exact HB.out|apply zI|apply zG|apply zH|refine zJ ?_ GE134.out|refine zJ ?_ GE135.out|refine zJ ?_ GE157.out|refine zJ ?_ GE158.out|refine zJ ?_ GE178.out)|exact HB.out))⟩)
                 ·skip
                  refine box_step ?hg (N := 10) ?hd (cs := #[.int .i64 0,.int .i64 0,.int .i64 0,.int .i64 0,.int .i64 0,.string (⟨#[]⟩ : ByteArray)]) (t := 61) ?hr ?_;(case hd => rfl);(case hg => rfl);(case hr => first|(go_simp;done)|(go_simp;rfl))
                  intro gb179 hg w115 hbox hb
                  have n0_ := Aside0.mk (zK (by exact BK134.out) hb)
                  have n1_ := Aside0.mk (zK (by exact BK135.out) hb)
                  have n2_ := Aside0.mk (zK (by exact BK157.out) hb)
                  have n3_ := Aside0.mk (zK (by exact BK158.out) hb)
                  have n4_ := Aside0.mk (zN (by repeat (first|(with_reducible first|exact HB.out|apply zI|apply zG|apply zH|refine zJ ?_ GE134.out|refine zJ ?_ GE135.out|refine zJ ?_ GE157.out|refine zJ ?_ GE158.out)|exact HB.out)) hb)
                  have n5_ := Aside0.mk (hbox)
                  have n6_ := Aside0.mk ((by rw [hg];exact (below_size (by repeat (first|(with_reducible first|exact HB.out|apply zI|apply zG|apply zH|refine zJ ?_ GE134.out|refine zJ ?_ GE135.out|refine zJ ?_ GE157.out|refine zJ ?_ GE158.out)|exact HB.out))) : w.heap.size ≤ gb179))
                  have n7_ := Aside0.mk ((by rw [hg];exact (below_size (by repeat (first|(with_reducible first|exact HB.out|apply zI|apply zG|apply zH|refine zJ ?_ GE134.out|refine zJ ?_ GE135.out|refine zJ ?_ GE157.out|refine zJ ?_ GE158.out)|exact HB.out))) : w.heap.size ≤ gb179))
                  have n8_ := Aside0.mk ((by rw [hg];exact Nat.ne_of_lt (blk_lt (g := gb134) (o := .cells #[.int .i64 a0_0,.int .i64 a0_1,.string a0_2] 63 (0,0)) (by (with_reducible repeat (first|refine zA ?_ _|refine zC ?_|refine zB ?_ _));exact BK134.out)) : gb134 ≠ gb179))
                  have n9_ := Aside0.mk ((by rw [hg];exact Nat.ne_of_gt (blk_lt (g := gb134) (o := .cells #[.int .i64 a0_0,.int .i64 a0_1,.string a0_2] 63 (0,0)) (by (with_reducible repeat (first|refine zA ?_ _|refine zC ?_|refine zB ?_ _));exact BK134.out)) : gb179 ≠ gb134))
                  have n10_ := Aside0.mk ((by rw [hg];exact Nat.ne_of_lt (blk_lt (g := gb135) (o := .cells #[.int .i64 a1_0,.int .i64 a1_1,.int .i64 a1_2,.int .i64 a1_3,.int .i64 a1_4,.string a1_5] 64 (0,0)) (by (with_reducible repeat (first|refine zA ?_ _|refine zC ?_|refine zB ?_ _));exact BK135.out)) : gb135 ≠ gb179))
                  have n11_ := Aside0.mk ((by rw [hg];exact Nat.ne_of_gt (blk_lt (g := gb135) (o := .cells #[.int .i64 a1_0,.int .i64 a1_1,.int .i64 a1_2,.int .i64 a1_3,.int .i64 a1_4,.string a1_5] 64 (0,0)) (by (with_reducible repeat (first|refine zA ?_ _|refine zC ?_|refine zB ?_ _));exact BK135.out)) : gb179 ≠ gb135))
                  have n12_ := Aside0.mk ((by rw [hg];exact Nat.ne_of_lt (blk_lt (g := gb157) (o := .cells #[.int .i64 t147,.int .i64 t148,.string t149] 67 (0,0)) (by (with_reducible repeat (first|refine zA ?_ _|refine zC ?_|refine zB ?_ _));exact BK157.out)) : gb157 ≠ gb179))
                  have n13_ := Aside0.mk ((by rw [hg];exact Nat.ne_of_gt (blk_lt (g := gb157) (o := .cells #[.int .i64 t147,.int .i64 t148,.string t149] 67 (0,0)) (by (with_reducible repeat (first|refine zA ?_ _|refine zC ?_|refine zB ?_ _));exact BK157.out)) : gb179 ≠ gb157))
                  have n14_ := Aside0.mk ((by rw [hg];exact Nat.ne_of_lt (blk_lt (g := gb158) (o := .cells #[.int .i64 t150,.int .i64 t151,.int .i64 t152,.int .i64 t153,.int .i64 t154,.string t155] 61 (0,0)) (by (with_reducible repeat (first|refine zA ?_ _|refine zC ?_|refine zB ?_ _));exact BK158.out)) : gb158 ≠ gb179))
                  have n15_ := Aside0.mk ((by rw [hg];exact Nat.ne_of_gt (blk_lt (g := gb158) (o := .cells #[.int .i64 t150,.int .i64 t151,.int .i64 t152,.int .i64 t153,.int .i64 t154,.string t155] 61 (0,0)) (by (with_reducible repeat (first|refine zA ?_ _|refine zC ?_|refine zB ?_ _));exact BK158.out)) : gb179 ≠ gb158))
                  clear BK134
                  clear BK135
                  clear BK157
                  clear BK158
                  clear HB
                  have BK134 := n0_
                  have BK135 := n1_
                  have BK157 := n2_
                  have BK158 := n3_
                  have HB := n4_
                  have BK179 := n5_
                  have GW179 := n6_
                  have GE179 := n7_
                  have NB134_179 := n8_
                  have NB179_134 := n9_
                  have NB135_179 := n10_
                  have NB179_135 := n11_
                  have NB157_179 := n12_
                  have NB179_157 := n13_
                  have NB158_179 := n14_
                  have NB179_158 := n15_
                  clear n0_ n1_ n2_ n3_ n4_ n5_ n6_ n7_ n8_ n9_ n10_ n11_ n12_ n13_ n14_ n15_
                  clear hb hbox hg
                  refine hK.out _ _ ⟨(zO BK134.out 0).trans rfl,(zO BK134.out 1).trans rfl,(zO BK134.out 2).trans rfl,(zO BK135.out 0).trans rfl,(zO BK135.out 1).trans rfl,(zO BK135.out 2).trans rfl,(zO BK135.out 3).trans rfl,(zO BK135.out 4).trans rfl,(zO BK135.out 5).trans rfl⟩ (fun hHeld => ?_)
                  clear hK K
                  refine norm_ (a' := ?_) ?_ ?_
                  rotate_left
                  ·show Act.put _ (some 10) _ = _
                   simp only [Act.put,List.setIfInBounds_toArray,List.set_cons_zero,List.set_cons_succ,i64_w,i32_w]
                   rfl
                  exact norm_ (by first|(simp only [putAll,Act.put,List.setIfInBounds_toArray,List.set_cons_zero,List.set_cons_succ];done)|(simp only [putAll,Act.put,List.setIfInBounds_toArray,List.set_cons_zero,List.set_cons_succ];rfl)) (hJ10 (gb179) _ ⟨hHeld,(by (with_reducible repeat (first|refine zA ?_ _|refine zC ?_|refine zB ?_ _));exact BK134.out),(by (with_reducible repeat (first|refine zA ?_ _|refine zC ?_|refine zB ?_ _));exact BK135.out),(by (with_reducible repeat (first|refine zA ?_ _|refine zC ?_|refine zB ?_ _));exact BK157.out),(by (with_reducible repeat (first|refine zA ?_ _|refine zC ?_|refine zB ?_ _));exact BK158.out),(by (with_reducible repeat (first|refine zA ?_ _|refine zC ?_|refine zB ?_ _));exact BK179.out),GW179.out,GE179.out,NB134_179.out,NB179_134.out,NB135_179.out,NB179_135.out,NB157_179.out,NB179_157.out,NB158_179.out,NB179_158.out,(by repeat (first|(with_reducible first|exact HB.out|apply zI|apply zG|apply zH|refine zJ ?_ GE134.out|refine zJ ?_ GE135.out|refine zJ ?_ GE157.out|refine zJ ?_ GE158.out|refine zJ ?_ GE179.out)|exact HB.out))⟩)
                ·skip
                 rintro gb179 w116 ⟨hS_,h0_,h1_,h2_,h3_,h4_,h5_,h6_,h7_,h8_,h9_,h10_,h11_,h12_,h13_,h14_,h15_⟩
                 have n0_ : Aside0 (w116.heap[gb134]? = some (.cells #[.int .i64 a0_0,.int .i64 a0_1,.string a0_2] 63 (0,0))) := ⟨h0_⟩
                 have n1_ : Aside0 (w116.heap[gb135]? = some (.cells #[.int .i64 a1_0,.int .i64 a1_1,.int .i64 a1_2,.int .i64 a1_3,.int .i64 a1_4,.string a1_5] 64 (0,0))) := ⟨h1_⟩
                 have n2_ : Aside0 (w116.heap[gb157]? = some (.cells #[.int .i64 t147,.int .i64 t148,.string t149] 67 (0,0))) := ⟨h2_⟩
                 have n3_ : Aside0 (w116.heap[gb158]? = some (.cells #[.int .i64 t150,.int .i64 t151,.int .i64 t152,.int .i64 t153,.int .i64 t154,.string t155] 61 (0,0))) := ⟨h3_⟩
                 have n4_ : Aside0 (w116.heap[gb179]? = some (.cells #[.int .i64 0,.int .i64 0,.int .i64 0,.int .i64 0,.int .i64 0,.string (⟨#[]⟩ : ByteArray)] 61 (0,0))) := ⟨h4_⟩
                 have n5_ : Aside0 (w.heap.size ≤ gb179) := ⟨h5_⟩
                 have n6_ : Aside0 (w.heap.size ≤ gb179) := ⟨h6_⟩
                 have n7_ : Aside0 (gb134 ≠ gb179) := ⟨h7_⟩
                 have n8_ : Aside0 (gb179 ≠ gb134) := ⟨h8_⟩
                 have n9_ : Aside0 (gb135 ≠ gb179) := ⟨h9_⟩
                 have n10_ : Aside0 (gb179 ≠ gb135) := ⟨h10_⟩
                 have n11_ : Aside0 (gb157 ≠ gb179) := ⟨h11_⟩
                 have n12_ : Aside0 (gb179 ≠ gb157) := ⟨h12_⟩
                 have n13_ : Aside0 (gb158 ≠ gb179) := ⟨h13_⟩
                 have n14_ : Aside0 (gb179 ≠ gb158) := ⟨h14_⟩
                 have n15_ : Aside0 (Below w.heap.size w w116) := ⟨h15_⟩
                 clear BK134
                 clear BK135
                 clear BK157
                 clear BK158
                 clear HB
                 clear h0_ h1_ h2_ h3_ h4_ h5_ h6_ h7_ h8_ h9_ h10_ h11_ h12_ h13_ h14_ h15_
                 have BK134 := n0_
                 have BK135 := n1_
                 have BK157 := n2_
                 have BK158 := n3_
                 have BK179 := n4_
                 have GW179 := n5_
                 have GE179 := n6_
                 have NB134_179 := n7_
                 have NB179_134 := n8_
                 have NB135_179 := n9_
                 have NB179_135 := n10_
                 have NB157_179 := n11_
                 have NB179_157 := n12_
                 have NB158_179 := n13_
                 have NB179_158 := n14_
                 have HB := n15_
                 clear n0_ n1_ n2_ n3_ n4_ n5_ n6_ n7_ n8_ n9_ n10_ n11_ n12_ n13_ n14_ n15_
                 have hHeld : w116.cell? ⟨gb134,0,none⟩ = some (.int .i64 a0_0) ∧ w116.cell? ⟨gb134,1,none⟩ = some (.int .i64 a0_1) ∧ w116.cell? ⟨gb134,2,none⟩ = some (.string a0_2) ∧ w116.cell? ⟨gb135,0,none⟩ = some (.int .i64 a1_0) ∧ w116.cell? ⟨gb135,1,none⟩ = some (.int .i64 a1_1) ∧ w116.cell? ⟨gb135,2,none⟩ = some (.int .i64 a1_2) ∧ w116.cell? ⟨gb135,3,none⟩ = some (.int .i64 a1_3) ∧ w116.cell? ⟨gb135,4,none⟩ = some (.int .i64 a1_4) ∧ w116.cell? ⟨gb135,5,none⟩ = some (.string a1_5) := hS_
                 refine norm_ (a' := ?_) ?_ ?_
                 rotate_left
                 ·simp only [putAll,Act.put,List.setIfInBounds_toArray,List.set_cons_zero,List.set_cons_succ]
                  rfl
                 refine two_ (i := 1) (j := 9) (Ni := some 33) (Nj := some 9) #[true,true,true,false,false,false,false,false,false,false,true,false,false,false] #[true,false,true,false,false,false,false,false,false,true,true,false,false,false] rfl rfl rfl rfl (two_of HT_.out (by kernel_rfl)) (by decide) (by decide) (fun K hK => ?_) (fun K hK => ?_)
                 ·skip
                  refine goes_ Try.func47 (by kernel_rfl) rfl #[.agg #[.int .i64 a0_0,.int .i64 a0_1,.string a0_2]] (by rfl) rfl rfl (by (try simp only [List.map_toArray,List.map_cons,List.map_nil]);first|done|rfl|(simp only [List.length_drop,List.length_take];rfl)) ?_
                  with_reducible refine (laws_toVoice.calls a0_0 a0_1 a0_2 t159 t160 t161 _ A22.out).mono ?_
                  rintro e w117 ⟨rfl,hb⟩
                  refine ⟨_,rfl,?_⟩
                  have n0_ := Aside0.mk (zK (by exact BK134.out) hb)
                  have n1_ := Aside0.mk (zK (by exact BK135.out) hb)
                  have n2_ := Aside0.mk (zK (by exact BK157.out) hb)
                  have n3_ := Aside0.mk (zK (by exact BK158.out) hb)
                  have n4_ := Aside0.mk (zK (by exact BK179.out) hb)
                  have n5_ := Aside0.mk (zN (by repeat (first|(with_reducible first|exact HB.out|apply zI|apply zG|apply zH|refine zJ ?_ GE134.out|refine zJ ?_ GE135.out|refine zJ ?_ GE157.out|refine zJ ?_ GE158.out|refine zJ ?_ GE179.out)|exact HB.out)) hb)
                  clear BK134
                  clear BK135
                  clear BK157
                  clear BK158
                  clear BK179
                  clear HB
                  have BK134 := n0_
                  have BK135 := n1_
                  have BK157 := n2_
                  have BK158 := n3_
                  have BK179 := n4_
                  have HB := n5_
                  clear n0_ n1_ n2_ n3_ n4_ n5_
                  (try clear hb)
                  (try clear hb2)
                  (try clear hk)
                  (try clear hi)
                  refine hK.out _ _ ⟨(zO BK134.out 0).trans rfl,(zO BK134.out 1).trans rfl,(zO BK134.out 2).trans rfl,(zO BK135.out 0).trans rfl,(zO BK135.out 1).trans rfl,(zO BK135.out 2).trans rfl,(zO BK135.out 3).trans rfl,(zO BK135.out 4).trans rfl,(zO BK135.out 5).trans rfl⟩ (fun hHeld => ?_)
                  clear hK K
                  refine norm_ (a' := ?_) ?_ ?_
                  rotate_left
                  ·show Act.put _ (some 33) _ = _
                   simp only [Act.put,List.setIfInBounds_toArray,List.set_cons_zero,List.set_cons_succ,i64_w,i32_w]
                   rfl
                  exact norm_ (by first|(simp only [putAll,Act.put,List.setIfInBounds_toArray,List.set_cons_zero,List.set_cons_succ];done)|(simp only [putAll,Act.put,List.setIfInBounds_toArray,List.set_cons_zero,List.set_cons_succ];rfl)) (hJ1_10 (gb179) _ ⟨hHeld,(by (with_reducible repeat (first|refine zA ?_ _|refine zC ?_|refine zB ?_ _));exact BK134.out),(by (with_reducible repeat (first|refine zA ?_ _|refine zC ?_|refine zB ?_ _));exact BK135.out),(by (with_reducible repeat (first|refine zA ?_ _|refine zC ?_|refine zB ?_ _));exact BK157.out),(by (with_reducible repeat (first|refine zA ?_ _|refine zC ?_|refine zB ?_ _));exact BK158.out),(by (with_reducible repeat (first|refine zA ?_ _|refine zC ?_|refine zB ?_ _));exact BK179.out),GW179.out,GE179.out,NB134_179.out,NB179_134.out,NB135_179.out,NB179_135.out,NB157_179.out,NB179_157.out,NB158_179.out,NB179_158.out,(by repeat (first|(with_reducible first|exact HB.out|apply zI|apply zG|apply zH|refine zJ ?_ GE134.out|refine zJ ?_ GE135.out|refine zJ ?_ GE157.out|refine zJ ?_ GE158.out|refine zJ ?_ GE179.out)|exact HB.out))⟩)
                 ·skip
                  refine box_step ?hg (N := 9) ?hd (cs := #[.int .i64 0,.int .i64 0,.string (⟨#[]⟩ : ByteArray)]) (t := 67) ?hr ?_;(case hd => rfl);(case hg => rfl);(case hr => first|(go_simp;done)|(go_simp;rfl))
                  intro gb178 hg w117 hbox hb
                  have n0_ := Aside0.mk (zK (by exact BK134.out) hb)
                  have n1_ := Aside0.mk (zK (by exact BK135.out) hb)
                  have n2_ := Aside0.mk (zK (by exact BK157.out) hb)
                  have n3_ := Aside0.mk (zK (by exact BK158.out) hb)
                  have n4_ := Aside0.mk (zK (by exact BK179.out) hb)
                  have n5_ := Aside0.mk (zN (by repeat (first|(with_reducible first|exact HB.out|apply zI|apply zG|apply zH|refine zJ ?_ GE134.out|refine zJ ?_ GE135.out|refine zJ ?_ GE157.out|refine zJ ?_ GE158.out|refine zJ ?_ GE179.out)|exact HB.out)) hb)
                  have n6_ := Aside0.mk (hbox)
                  have n7_ := Aside0.mk ((by rw [hg];exact (below_size (by repeat (first|(with_reducible first|exact HB.out|apply zI|apply zG|apply zH|refine zJ ?_ GE134.out|refine zJ ?_ GE135.out|refine zJ ?_ GE157.out|refine zJ ?_ GE158.out|refine zJ ?_ GE179.out)|exact HB.out))) : w.heap.size ≤ gb178))
                  have n8_ := Aside0.mk ((by rw [hg];exact (below_size (by repeat (first|(with_reducible first|exact HB.out|apply zI|apply zG|apply zH|refine zJ ?_ GE134.out|refine zJ ?_ GE135.out|refine zJ ?_ GE157.out|refine zJ ?_ GE158.out|refine zJ ?_ GE179.out)|exact HB.out))) : w.heap.size ≤ gb178))
                  have n9_ := Aside0.mk ((by rw [hg];exact Nat.ne_of_lt (blk_lt (g := gb134) (o := .cells #[.int .i64 a0_0,.int .i64 a0_1,.string a0_2] 63 (0,0)) (by (with_reducible repeat (first|refine zA ?_ _|refine zC ?_|refine zB ?_ _));exact BK134.out)) : gb134 ≠ gb178))
                  have n10_ := Aside0.mk ((by rw [hg];exact Nat.ne_of_gt (blk_lt (g := gb134) (o := .cells #[.int .i64 a0_0,.int .i64 a0_1,.string a0_2] 63 (0,0)) (by (with_reducible repeat (first|refine zA ?_ _|refine zC ?_|refine zB ?_ _));exact BK134.out)) : gb178 ≠ gb134))
                  have n11_ := Aside0.mk ((by rw [hg];exact Nat.ne_of_lt (blk_lt (g := gb135) (o := .cells #[.int .i64 a1_0,.int .i64 a1_1,.int .i64 a1_2,.int .i64 a1_3,.int .i64 a1_4,.string a1_5] 64 (0,0)) (by (with_reducible repeat (first|refine zA ?_ _|refine zC ?_|refine zB ?_ _));exact BK135.out)) : gb135 ≠ gb178))
                  have n12_ := Aside0.mk ((by rw [hg];exact Nat.ne_of_gt (blk_lt (g := gb135) (o := .cells #[.int .i64 a1_0,.int .i64 a1_1,.int .i64 a1_2,.int .i64 a1_3,.int .i64 a1_4,.string a1_5] 64 (0,0)) (by (with_reducible repeat (first|refine zA ?_ _|refine zC ?_|refine zB ?_ _));exact BK135.out)) : gb178 ≠ gb135))
                  have n13_ := Aside0.mk ((by rw [hg];exact Nat.ne_of_lt (blk_lt (g := gb157) (o := .cells #[.int .i64 t147,.int .i64 t148,.string t149] 67 (0,0)) (by (with_reducible repeat (first|refine zA ?_ _|refine zC ?_|refine zB ?_ _));exact BK157.out)) : gb157 ≠ gb178))
                  have n14_ := Aside0.mk ((by rw [hg];exact Nat.ne_of_gt (blk_lt (g := gb157) (o := .cells #[.int .i64 t147,.int .i64 t148,.string t149] 67 (0,0)) (by (with_reducible repeat (first|refine zA ?_ _|refine zC ?_|refine zB ?_ _));exact BK157.out)) : gb178 ≠ gb157))
                  have n15_ := Aside0.mk ((by rw [hg];exact Nat.ne_of_lt (blk_lt (g := gb158) (o := .cells #[.int .i64 t150,.int .i64 t151,.int .i64 t152,.int .i64 t153,.int .i64 t154,.string t155] 61 (0,0)) (by (with_reducible repeat (first|refine zA ?_ _|refine zC ?_|refine zB ?_ _));exact BK158.out)) : gb158 ≠ gb178))
                  have n16_ := Aside0.mk ((by rw [hg];exact Nat.ne_of_gt (blk_lt (g := gb158) (o := .cells #[.int .i64 t150,.int .i64 t151,.int .i64 t152,.int .i64 t153,.int .i64 t154,.string t155] 61 (0,0)) (by (with_reducible repeat (first|refine zA ?_ _|refine zC ?_|refine zB ?_ _));exact BK158.out)) : gb178 ≠ gb158))
                  have n17_ := Aside0.mk ((by rw [hg];exact Nat.ne_of_lt (blk_lt (g := gb179) (o := .cells #[.int .i64 0,.int .i64 0,.int .i64 0,.int .i64 0,.int .i64 0,.string (⟨#[]⟩ : ByteArray)] 61 (0,0)) (by (with_reducible repeat (first|refine zA ?_ _|refine zC ?_|refine zB ?_ _));exact BK179.out)) : gb179 ≠ gb178))
                  have n18_ := Aside0.mk ((by rw [hg];exact Nat.ne_of_gt (blk_lt (g := gb179) (o := .cells #[.int .i64 0,.int .i64 0,.int .i64 0,.int .i64 0,.int .i64 0,.string (⟨#[]⟩ : ByteArray)] 61 (0,0)) (by (with_reducible repeat (first|refine zA ?_ _|refine zC ?_|refine zB ?_ _));exact BK179.out)) : gb178 ≠ gb179))
                  clear BK134
                  clear BK135
                  clear BK157
                  clear BK158
                  clear BK179
                  clear HB
                  have BK134 := n0_
                  have BK135 := n1_
                  have BK157 := n2_
                  have BK158 := n3_
                  have BK179 := n4_
                  have HB := n5_
                  have BK178 := n6_
                  have GW178 := n7_
                  have GE178 := n8_
                  have NB134_178 := n9_
                  have NB178_134 := n10_
                  have NB135_178 := n11_
                  have NB178_135 := n12_
                  have NB157_178 := n13_
                  have NB178_157 := n14_
                  have NB158_178 := n15_
                  have NB178_158 := n16_
                  have NB179_178 := n17_
                  have NB178_179 := n18_
                  clear n0_ n1_ n2_ n3_ n4_ n5_ n6_ n7_ n8_ n9_ n10_ n11_ n12_ n13_ n14_ n15_ n16_ n17_ n18_
                  clear hb hbox hg
                  refine hK.out _ _ ⟨(zO BK134.out 0).trans rfl,(zO BK134.out 1).trans rfl,(zO BK134.out 2).trans rfl,(zO BK135.out 0).trans rfl,(zO BK135.out 1).trans rfl,(zO BK135.out 2).trans rfl,(zO BK135.out 3).trans rfl,(zO BK135.out 4).trans rfl,(zO BK135.out 5).trans rfl⟩ (fun hHeld => ?_)
                  clear hK K
                  refine norm_ (a' := ?_) ?_ ?_
                  rotate_left
                  ·show Act.put _ (some 9) _ = _
                   simp only [Act.put,List.setIfInBounds_toArray,List.set_cons_zero,List.set_cons_succ,i64_w,i32_w]
                   rfl
                  exact norm_ (by first|(simp only [putAll,Act.put,List.setIfInBounds_toArray,List.set_cons_zero,List.set_cons_succ];done)|(simp only [putAll,Act.put,List.setIfInBounds_toArray,List.set_cons_zero,List.set_cons_succ];rfl)) (hJ9_10 (gb178,gb179) _ ⟨hHeld,(by (with_reducible repeat (first|refine zA ?_ _|refine zC ?_|refine zB ?_ _));exact BK134.out),(by (with_reducible repeat (first|refine zA ?_ _|refine zC ?_|refine zB ?_ _));exact BK135.out),(by (with_reducible repeat (first|refine zA ?_ _|refine zC ?_|refine zB ?_ _));exact BK157.out),(by (with_reducible repeat (first|refine zA ?_ _|refine zC ?_|refine zB ?_ _));exact BK158.out),(by (with_reducible repeat (first|refine zA ?_ _|refine zC ?_|refine zB ?_ _));exact BK178.out),(by (with_reducible repeat (first|refine zA ?_ _|refine zC ?_|refine zB ?_ _));exact BK179.out),GW178.out,GE178.out,NB134_178.out,NB178_134.out,NB135_178.out,NB178_135.out,NB157_178.out,NB178_157.out,NB158_178.out,NB178_158.out,NB179_178.out,NB178_179.out,GW179.out,GE179.out,NB134_179.out,NB179_134.out,NB135_179.out,NB179_135.out,NB157_179.out,NB179_157.out,NB158_179.out,NB179_158.out,(by repeat (first|(with_reducible first|exact HB.out|apply zI|apply zG|apply zH|refine zJ ?_ GE134.out|refine zJ ?_ GE135.out|refine zJ ?_ GE157.out|refine zJ ?_ GE158.out|refine zJ ?_ GE179.out|refine zJ ?_ GE178.out)|exact HB.out))⟩)
               ·skip
                rintro gb178 w116 ⟨hS_,h0_,h1_,h2_,h3_,h4_,h5_,h6_,h7_,h8_,h9_,h10_,h11_,h12_,h13_,h14_,h15_⟩
                have n0_ : Aside0 (w116.heap[gb134]? = some (.cells #[.int .i64 a0_0,.int .i64 a0_1,.string a0_2] 63 (0,0))) := ⟨h0_⟩
                have n1_ : Aside0 (w116.heap[gb135]? = some (.cells #[.int .i64 a1_0,.int .i64 a1_1,.int .i64 a1_2,.int .i64 a1_3,.int .i64 a1_4,.string a1_5] 64 (0,0))) := ⟨h1_⟩
                have n2_ : Aside0 (w116.heap[gb157]? = some (.cells #[.int .i64 t147,.int .i64 t148,.string t149] 67 (0,0))) := ⟨h2_⟩
                have n3_ : Aside0 (w116.heap[gb158]? = some (.cells #[.int .i64 t150,.int .i64 t151,.int .i64 t152,.int .i64 t153,.int .i64 t154,.string t155] 61 (0,0))) := ⟨h3_⟩
                have n4_ : Aside0 (w116.heap[gb178]? = some (.cells #[.int .i64 0,.int .i64 0,.string (⟨#[]⟩ : ByteArray)] 67 (0,0))) := ⟨h4_⟩
                have n5_ : Aside0 (w.heap.size ≤ gb178) := ⟨h5_⟩
                have n6_ : Aside0 (w.heap.size ≤ gb178) := ⟨h6_⟩
                have n7_ : Aside0 (gb134 ≠ gb178) := ⟨h7_⟩
                have n8_ : Aside0 (gb178 ≠ gb134) := ⟨h8_⟩
                have n9_ : Aside0 (gb135 ≠ gb178) := ⟨h9_⟩
                have n10_ : Aside0 (gb178 ≠ gb135) := ⟨h10_⟩
                have n11_ : Aside0 (gb157 ≠ gb178) := ⟨h11_⟩
                have n12_ : Aside0 (gb178 ≠ gb157) := ⟨h12_⟩
                have n13_ : Aside0 (gb158 ≠ gb178) := ⟨h13_⟩
                have n14_ : Aside0 (gb178 ≠ gb158) := ⟨h14_⟩
                have n15_ : Aside0 (Below w.heap.size w w116) := ⟨h15_⟩
                clear BK134
                clear BK135
                clear BK157
                clear BK158
                clear HB
                clear h0_ h1_ h2_ h3_ h4_ h5_ h6_ h7_ h8_ h9_ h10_ h11_ h12_ h13_ h14_ h15_
                have BK134 := n0_
                have BK135 := n1_
                have BK157 := n2_
                have BK158 := n3_
                have BK178 := n4_
                have GW178 := n5_
                have GE178 := n6_
                have NB134_178 := n7_
                have NB178_134 := n8_
                have NB135_178 := n9_
                have NB178_135 := n10_
                have NB157_178 := n11_
                have NB178_157 := n12_
                have NB158_178 := n13_
                have NB178_158 := n14_
                have HB := n15_
                clear n0_ n1_ n2_ n3_ n4_ n5_ n6_ n7_ n8_ n9_ n10_ n11_ n12_ n13_ n14_ n15_
                have hHeld : w116.cell? ⟨gb134,0,none⟩ = some (.int .i64 a0_0) ∧ w116.cell? ⟨gb134,1,none⟩ = some (.int .i64 a0_1) ∧ w116.cell? ⟨gb134,2,none⟩ = some (.string a0_2) ∧ w116.cell? ⟨gb135,0,none⟩ = some (.int .i64 a1_0) ∧ w116.cell? ⟨gb135,1,none⟩ = some (.int .i64 a1_1) ∧ w116.cell? ⟨gb135,2,none⟩ = some (.int .i64 a1_2) ∧ w116.cell? ⟨gb135,3,none⟩ = some (.int .i64 a1_3) ∧ w116.cell? ⟨gb135,4,none⟩ = some (.int .i64 a1_4) ∧ w116.cell? ⟨gb135,5,none⟩ = some (.string a1_5) := hS_
                refine norm_ (a' := ?_) ?_ ?_
                rotate_left
                ·simp only [putAll,Act.put,List.setIfInBounds_toArray,List.set_cons_zero,List.set_cons_succ]
                 rfl
                refine two_ (i := 1) (j := 10) (Ni := some 33) (Nj := some 10) #[true,true,true,false,false,false,false,false,false,true,false,false,false,false] #[true,false,true,false,false,false,false,false,false,true,true,false,false,false] rfl rfl rfl rfl (two_of HT_.out (by kernel_rfl)) (by decide) (by decide) (fun K hK => ?_) (fun K hK => ?_)
                ·skip
                 refine goes_ Try.func47 (by kernel_rfl) rfl #[.agg #[.int .i64 a0_0,.int .i64 a0_1,.string a0_2]] (by rfl) rfl rfl (by (try simp only [List.map_toArray,List.map_cons,List.map_nil]);first|done|rfl|(simp only [List.length_drop,List.length_take];rfl)) ?_
                 with_reducible refine (laws_toVoice.calls a0_0 a0_1 a0_2 t159 t160 t161 _ A22.out).mono ?_
                 rintro e w117 ⟨rfl,hb⟩
                 refine ⟨_,rfl,?_⟩
                 have n0_ := Aside0.mk (zK (by exact BK134.out) hb)
                 have n1_ := Aside0.mk (zK (by exact BK135.out) hb)
                 have n2_ := Aside0.mk (zK (by exact BK157.out) hb)
                 have n3_ := Aside0.mk (zK (by exact BK158.out) hb)
                 have n4_ := Aside0.mk (zK (by exact BK178.out) hb)
                 have n5_ := Aside0.mk (zN (by repeat (first|(with_reducible first|exact HB.out|apply zI|apply zG|apply zH|refine zJ ?_ GE134.out|refine zJ ?_ GE135.out|refine zJ ?_ GE157.out|refine zJ ?_ GE158.out|refine zJ ?_ GE178.out)|exact HB.out)) hb)
                 clear BK134
                 clear BK135
                 clear BK157
                 clear BK158
                 clear BK178
                 clear HB
                 have BK134 := n0_
                 have BK135 := n1_
                 have BK157 := n2_
                 have BK158 := n3_
                 have BK178 := n4_
                 have HB := n5_
                 clear n0_ n1_ n2_ n3_ n4_ n5_
                 (try clear hb)
                 (try clear hb2)
                 (try clear hk)
                 (try clear hi)
                 refine hK.out _ _ ⟨(zO BK134.out 0).trans rfl,(zO BK134.out 1).trans rfl,(zO BK134.out 2).trans rfl,(zO BK135.out 0).trans rfl,(zO BK135.out 1).trans rfl,(zO BK135.out 2).trans rfl,(zO BK135.out 3).trans rfl,(zO BK135.out 4).trans rfl,(zO BK135.out 5).trans rfl⟩ (fun hHeld => ?_)
                 clear hK K
                 refine norm_ (a' := ?_) ?_ ?_
                 rotate_left
                 ·show Act.put _ (some 33) _ = _
                  simp only [Act.put,List.setIfInBounds_toArray,List.set_cons_zero,List.set_cons_succ,i64_w,i32_w]
                  rfl
                 exact norm_ (by first|(simp only [putAll,Act.put,List.setIfInBounds_toArray,List.set_cons_zero,List.set_cons_succ];done)|(simp only [putAll,Act.put,List.setIfInBounds_toArray,List.set_cons_zero,List.set_cons_succ];rfl)) (hJ1_9 (gb178) _ ⟨hHeld,(by (with_reducible repeat (first|refine zA ?_ _|refine zC ?_|refine zB ?_ _));exact BK134.out),(by (with_reducible repeat (first|refine zA ?_ _|refine zC ?_|refine zB ?_ _));exact BK135.out),(by (with_reducible repeat (first|refine zA ?_ _|refine zC ?_|refine zB ?_ _));exact BK157.out),(by (with_reducible repeat (first|refine zA ?_ _|refine zC ?_|refine zB ?_ _));exact BK158.out),(by (with_reducible repeat (first|refine zA ?_ _|refine zC ?_|refine zB ?_ _));exact BK178.out),GW178.out,GE178.out,NB134_178.out,NB178_134.out,NB135_178.out,NB178_135.out,NB157_178.out,NB178_157.out,NB158_178.out,NB178_158.out,(by repeat (first|(with_reducible first|exact HB.out|apply zI|apply zG|apply zH|refine zJ ?_ GE134.out|refine zJ ?_ GE135.out|refine zJ ?_ GE157.out|refine zJ ?_ GE158.out|refine zJ ?_ GE178.out)|exact HB.out))⟩)
                ·skip
                 refine box_step ?hg (N := 10) ?hd (cs := #[.int .i64 0,.int .i64 0,.int .i64 0,.int .i64 0,.int .i64 0,.string (⟨#[]⟩ : ByteArray)]) (t := 61) ?hr ?_;(case hd => rfl);(case hg => rfl);(case hr => first|(go_simp;done)|(go_simp;rfl))
                 intro gb179 hg w117 hbox hb
                 have n0_ := Aside0.mk (zK (by exact BK134.out) hb)
                 have n1_ := Aside0.mk (zK (by exact BK135.out) hb)
                 have n2_ := Aside0.mk (zK (by exact BK157.out) hb)
                 have n3_ := Aside0.mk (zK (by exact BK158.out) hb)
                 have n4_ := Aside0.mk (zK (by exact BK178.out) hb)
                 have n5_ := Aside0.mk (zN (by repeat (first|(with_reducible first|exact HB.out|apply zI|apply zG|apply zH|refine zJ ?_ GE134.out|refine zJ ?_ GE135.out|refine zJ ?_ GE157.out|refine zJ ?_ GE158.out|refine zJ ?_ GE178.out)|exact HB.out)) hb)
                 have n6_ := Aside0.mk (hbox)
                 have n7_ := Aside0.mk ((by rw [hg];exact (below_size (by repeat (first|(with_reducible first|exact HB.out|apply zI|apply zG|apply zH|refine zJ ?_ GE134.out|refine zJ ?_ GE135.out|refine zJ ?_ GE157.out|refine zJ ?_ GE158.out|refine zJ ?_ GE178.out)|exact HB.out))) : w.heap.size ≤ gb179))
                 have n8_ := Aside0.mk ((by rw [hg];exact (below_size (by repeat (first|(with_reducible first|exact HB.out|apply zI|apply zG|apply zH|refine zJ ?_ GE134.out|refine zJ ?_ GE135.out|refine zJ ?_ GE157.out|refine zJ ?_ GE158.out|refine zJ ?_ GE178.out)|exact HB.out))) : w.heap.size ≤ gb179))
                 have n9_ := Aside0.mk ((by rw [hg];exact Nat.ne_of_lt (blk_lt (g := gb134) (o := .cells #[.int .i64 a0_0,.int .i64 a0_1,.string a0_2] 63 (0,0)) (by (with_reducible repeat (first|refine zA ?_ _|refine zC ?_|refine zB ?_ _));exact BK134.out)) : gb134 ≠ gb179))
                 have n10_ := Aside0.mk ((by rw [hg];exact Nat.ne_of_gt (blk_lt (g := gb134) (o := .cells #[.int .i64 a0_0,.int .i64 a0_1,.string a0_2] 63 (0,0)) (by (with_reducible repeat (first|refine zA ?_ _|refine zC ?_|refine zB ?_ _));exact BK134.out)) : gb179 ≠ gb134))
                 have n11_ := Aside0.mk ((by rw [hg];exact Nat.ne_of_lt (blk_lt (g := gb135) (o := .cells #[.int .i64 a1_0,.int .i64 a1_1,.int .i64 a1_2,.int .i64 a1_3,.int .i64 a1_4,.string a1_5] 64 (0,0)) (by (with_reducible repeat (first|refine zA ?_ _|refine zC ?_|refine zB ?_ _));exact BK135.out)) : gb135 ≠ gb179))
                 have n12_ := Aside0.mk ((by rw [hg];exact Nat.ne_of_gt (blk_lt (g := gb135) (o := .cells #[.int .i64 a1_0,.int .i64 a1_1,.int .i64 a1_2,.int .i64 a1_3,.int .i64 a1_4,.string a1_5] 64 (0,0)) (by (with_reducible repeat (first|refine zA ?_ _|refine zC ?_|refine zB ?_ _));exact BK135.out)) : gb179 ≠ gb135))
                 have n13_ := Aside0.mk ((by rw [hg];exact Nat.ne_of_lt (blk_lt (g := gb157) (o := .cells #[.int .i64 t147,.int .i64 t148,.string t149] 67 (0,0)) (by (with_reducible repeat (first|refine zA ?_ _|refine zC ?_|refine zB ?_ _));exact BK157.out)) : gb157 ≠ gb179))
                 have n14_ := Aside0.mk ((by rw [hg];exact Nat.ne_of_gt (blk_lt (g := gb157) (o := .cells #[.int .i64 t147,.int .i64 t148,.string t149] 67 (0,0)) (by (with_reducible repeat (first|refine zA ?_ _|refine zC ?_|refine zB ?_ _));exact BK157.out)) : gb179 ≠ gb157))
                 have n15_ := Aside0.mk ((by rw [hg];exact Nat.ne_of_lt (blk_lt (g := gb158) (o := .cells #[.int .i64 t150,.int .i64 t151,.int .i64 t152,.int .i64 t153,.int .i64 t154,.string t155] 61 (0,0)) (by (with_reducible repeat (first|refine zA ?_ _|refine zC ?_|refine zB ?_ _));exact BK158.out)) : gb158 ≠ gb179))
                 have n16_ := Aside0.mk ((by rw [hg];exact Nat.ne_of_gt (blk_lt (g := gb158) (o := .cells #[.int .i64 t150,.int .i64 t151,.int .i64 t152,.int .i64 t153,.int .i64 t154,.string t155] 61 (0,0)) (by (with_reducible repeat (first|refine zA ?_ _|refine zC ?_|refine zB ?_ _));exact BK158.out)) : gb179 ≠ gb158))
                 have n17_ := Aside0.mk ((by rw [hg];exact Nat.ne_of_lt (blk_lt (g := gb178) (o := .cells #[.int .i64 0,.int .i64 0,.string (⟨#[]⟩ : ByteArray)] 67 (0,0)) (by (with_reducible repeat (first|refine zA ?_ _|refine zC ?_|refine zB ?_ _));exact BK178.out)) : gb178 ≠ gb179))
                 have n18_ := Aside0.mk ((by rw [hg];exact Nat.ne_of_gt (blk_lt (g := gb178) (o := .cells #[.int .i64 0,.int .i64 0,.string (⟨#[]⟩ : ByteArray)] 67 (0,0)) (by (with_reducible repeat (first|refine zA ?_ _|refine zC ?_|refine zB ?_ _));exact BK178.out)) : gb179 ≠ gb178))
                 clear BK134
                 clear BK135
                 clear BK157
                 clear BK158
                 clear BK178
                 clear HB
                 have BK134 := n0_
                 have BK135 := n1_
                 have BK157 := n2_
                 have BK158 := n3_
                 have BK178 := n4_
                 have HB := n5_
                 have BK179 := n6_
                 have GW179 := n7_
                 have GE179 := n8_
                 have NB134_179 := n9_
                 have NB179_134 := n10_
                 have NB135_179 := n11_
                 have NB179_135 := n12_
                 have NB157_179 := n13_
                 have NB179_157 := n14_
                 have NB158_179 := n15_
                 have NB179_158 := n16_
                 have NB178_179 := n17_
                 have NB179_178 := n18_
                 clear n0_ n1_ n2_ n3_ n4_ n5_ n6_ n7_ n8_ n9_ n10_ n11_ n12_ n13_ n14_ n15_ n16_ n17_ n18_
                 clear hb hbox hg
                 refine hK.out _ _ ⟨(zO BK134.out 0).trans rfl,(zO BK134.out 1).trans rfl,(zO BK134.out 2).trans rfl,(zO BK135.out 0).trans rfl,(zO BK135.out 1).trans rfl,(zO BK135.out 2).trans rfl,(zO BK135.out 3).trans rfl,(zO BK135.out 4).trans rfl,(zO BK135.out 5).trans rfl⟩ (fun hHeld => ?_)
                 clear hK K
                 refine norm_ (a' := ?_) ?_ ?_
                 rotate_left
                 ·show Act.put _ (some 10) _ = _
                  simp only [Act.put,List.setIfInBounds_toArray,List.set_cons_zero,List.set_cons_succ,i64_w,i32_w]
                  rfl
                 exact norm_ (by first|(simp only [putAll,Act.put,List.setIfInBounds_toArray,List.set_cons_zero,List.set_cons_succ];done)|(simp only [putAll,Act.put,List.setIfInBounds_toArray,List.set_cons_zero,List.set_cons_succ];rfl)) (hJ9_10 (gb178,gb179) _ ⟨hHeld,(by (with_reducible repeat (first|refine zA ?_ _|refine zC ?_|refine zB ?_ _));exact BK134.out),(by (with_reducible repeat (first|refine zA ?_ _|refine zC ?_|refine zB ?_ _));exact BK135.out),(by (with_reducible repeat (first|refine zA ?_ _|refine zC ?_|refine zB ?_ _));exact BK157.out),(by (with_reducible repeat (first|refine zA ?_ _|refine zC ?_|refine zB ?_ _));exact BK158.out),(by (with_reducible repeat (first|refine zA ?_ _|refine zC ?_|refine zB ?_ _));exact BK178.out),(by (with_reducible repeat (first|refine zA ?_ _|refine zC ?_|refine zB ?_ _));exact BK179.out),GW178.out,GE178.out,NB134_178.out,NB178_134.out,NB135_178.out,NB178_135.out,NB157_178.out,NB178_157.out,NB158_178.out,NB178_158.out,NB179_178.out,NB178_179.out,GW179.out,GE179.out,NB134_179.out,NB179_134.out,NB135_179.out,NB179_135.out,NB157_179.out,NB179_157.out,NB158_179.out,NB179_158.out,(by repeat (first|(with_reducible first|exact HB.out|apply zI|apply zG|apply zH|refine zJ ?_ GE134.out|refine zJ ?_ GE135.out|refine zJ ?_ GE157.out|refine zJ ?_ GE158.out|refine zJ ?_ GE178.out|refine zJ ?_ GE179.out)|exact HB.out))⟩)
              ·skip
               rintro _ w116 ⟨hS_,h0_,h1_,h2_,h3_,h4_⟩
               have n0_ : Aside0 (w116.heap[gb134]? = some (.cells #[.int .i64 a0_0,.int .i64 a0_1,.string a0_2] 63 (0,0))) := ⟨h0_⟩
               have n1_ : Aside0 (w116.heap[gb135]? = some (.cells #[.int .i64 a1_0,.int .i64 a1_1,.int .i64 a1_2,.int .i64 a1_3,.int .i64 a1_4,.string a1_5] 64 (0,0))) := ⟨h1_⟩
               have n2_ : Aside0 (w116.heap[gb157]? = some (.cells #[.int .i64 t147,.int .i64 t148,.string t149] 67 (0,0))) := ⟨h2_⟩
               have n3_ : Aside0 (w116.heap[gb158]? = some (.cells #[.int .i64 t150,.int .i64 t151,.int .i64 t152,.int .i64 t153,.int .i64 t154,.string t155] 61 (0,0))) := ⟨h3_⟩
               have n4_ : Aside0 (Below w.heap.size w w116) := ⟨h4_⟩
               clear BK134
               clear BK135
               clear BK157
               clear BK158
               clear HB
               clear h0_ h1_ h2_ h3_ h4_
               have BK134 := n0_
               have BK135 := n1_
               have BK157 := n2_
               have BK158 := n3_
               have HB := n4_
               clear n0_ n1_ n2_ n3_ n4_
               have hHeld : w116.cell? ⟨gb134,0,none⟩ = some (.int .i64 a0_0) ∧ w116.cell? ⟨gb134,1,none⟩ = some (.int .i64 a0_1) ∧ w116.cell? ⟨gb134,2,none⟩ = some (.string a0_2) ∧ w116.cell? ⟨gb135,0,none⟩ = some (.int .i64 a1_0) ∧ w116.cell? ⟨gb135,1,none⟩ = some (.int .i64 a1_1) ∧ w116.cell? ⟨gb135,2,none⟩ = some (.int .i64 a1_2) ∧ w116.cell? ⟨gb135,3,none⟩ = some (.int .i64 a1_3) ∧ w116.cell? ⟨gb135,4,none⟩ = some (.int .i64 a1_4) ∧ w116.cell? ⟨gb135,5,none⟩ = some (.string a1_5) := hS_
               refine norm_ (a' := ?_) ?_ ?_
               rotate_left
               ·simp only [putAll,Act.put,List.setIfInBounds_toArray,List.set_cons_zero,List.set_cons_succ]
                rfl
               refine three_ (i := 3) (j := 9) (k := 10) (Ni := some 35) (Nj := some 9) (Nk := some 10) #[true,true,true,true,false,false,false,false,false,false,false,false,false,false] #[true,true,true,false,false,false,false,false,false,true,false,false,false,false] #[true,true,true,false,false,false,false,false,false,false,true,false,false,false] rfl rfl rfl rfl rfl rfl (three_of HT_.out (by kernel_rfl)) (by decide) (by decide) (by decide) (fun K hK => ?_) (fun K hK => ?_) (fun K hK => ?_)
               ·skip
                refine goes_ Try.func48 (by kernel_rfl) rfl #[.agg #[.int .i64 a1_0,.int .i64 a1_1,.int .i64 a1_2,.int .i64 a1_3,.int .i64 a1_4,.string a1_5]] (by rfl) rfl rfl (by (try simp only [List.map_toArray,List.map_cons,List.map_nil]);first|done|rfl|(simp only [List.length_drop,List.length_take];rfl)) ?_
                with_reducible refine (laws_toNote.calls a1_0 a1_1 a1_2 a1_3 a1_4 a1_5 t162 t163 t164 t165 t166 t167 _ A23.out).mono ?_
                rintro e w117 ⟨rfl,hb⟩
                refine ⟨_,rfl,?_⟩
                have n0_ := Aside0.mk (zK (by exact BK134.out) hb)
                have n1_ := Aside0.mk (zK (by exact BK135.out) hb)
                have n2_ := Aside0.mk (zK (by exact BK157.out) hb)
                have n3_ := Aside0.mk (zK (by exact BK158.out) hb)
                have n4_ := Aside0.mk (zN (by repeat (first|(with_reducible first|exact HB.out|apply zI|apply zG|apply zH|refine zJ ?_ GE134.out|refine zJ ?_ GE135.out|refine zJ ?_ GE157.out|refine zJ ?_ GE158.out)|exact HB.out)) hb)
                clear BK134
                clear BK135
                clear BK157
                clear BK158
                clear HB
                have BK134 := n0_
                have BK135 := n1_
                have BK157 := n2_
                have BK158 := n3_
                have HB := n4_
                clear n0_ n1_ n2_ n3_ n4_
                (try clear hb)
                (try clear hb2)
                (try clear hk)
                (try clear hi)
                refine hK.out _ _ ⟨(zO BK134.out 0).trans rfl,(zO BK134.out 1).trans rfl,(zO BK134.out 2).trans rfl,(zO BK135.out 0).trans rfl,(zO BK135.out 1).trans rfl,(zO BK135.out 2).trans rfl,(zO BK135.out 3).trans rfl,(zO BK135.out 4).trans rfl,(zO BK135.out 5).trans rfl⟩ (fun hHeld => ?_)
                clear hK K
                refine norm_ (a' := ?_) ?_ ?_
                rotate_left
                ·show Act.put _ (some 35) _ = _
                 simp only [Act.put,List.setIfInBounds_toArray,List.set_cons_zero,List.set_cons_succ,i64_w,i32_w]
                 rfl
                exact norm_ (by first|(simp only [putAll,Act.put,List.setIfInBounds_toArray,List.set_cons_zero,List.set_cons_succ];done)|(simp only [putAll,Act.put,List.setIfInBounds_toArray,List.set_cons_zero,List.set_cons_succ];rfl)) (hJ1_3 () _ ⟨hHeld,(by (with_reducible repeat (first|refine zA ?_ _|refine zC ?_|refine zB ?_ _));exact BK134.out),(by (with_reducible repeat (first|refine zA ?_ _|refine zC ?_|refine zB ?_ _));exact BK135.out),(by (with_reducible repeat (first|refine zA ?_ _|refine zC ?_|refine zB ?_ _));exact BK157.out),(by (with_reducible repeat (first|refine zA ?_ _|refine zC ?_|refine zB ?_ _));exact BK158.out),(by repeat (first|(with_reducible first|exact HB.out|apply zI|apply zG|apply zH|refine zJ ?_ GE134.out|refine zJ ?_ GE135.out|refine zJ ?_ GE157.out|refine zJ ?_ GE158.out)|exact HB.out))⟩)
               ·skip
                refine box_step ?hg (N := 9) ?hd (cs := #[.int .i64 0,.int .i64 0,.string (⟨#[]⟩ : ByteArray)]) (t := 67) ?hr ?_;(case hd => rfl);(case hg => rfl);(case hr => first|(go_simp;done)|(go_simp;rfl))
                intro gb178 hg w117 hbox hb
                have n0_ := Aside0.mk (zK (by exact BK134.out) hb)
                have n1_ := Aside0.mk (zK (by exact BK135.out) hb)
                have n2_ := Aside0.mk (zK (by exact BK157.out) hb)
                have n3_ := Aside0.mk (zK (by exact BK158.out) hb)
                have n4_ := Aside0.mk (zN (by repeat (first|(with_reducible first|exact HB.out|apply zI|apply zG|apply zH|refine zJ ?_ GE134.out|refine zJ ?_ GE135.out|refine zJ ?_ GE157.out|refine zJ ?_ GE158.out)|exact HB.out)) hb)
                have n5_ := Aside0.mk (hbox)
                have n6_ := Aside0.mk ((by rw [hg];exact (below_size (by repeat (first|(with_reducible first|exact HB.out|apply zI|apply zG|apply zH|refine zJ ?_ GE134.out|refine zJ ?_ GE135.out|refine zJ ?_ GE157.out|refine zJ ?_ GE158.out)|exact HB.out))) : w.heap.size ≤ gb178))
                have n7_ := Aside0.mk ((by rw [hg];exact (below_size (by repeat (first|(with_reducible first|exact HB.out|apply zI|apply zG|apply zH|refine zJ ?_ GE134.out|refine zJ ?_ GE135.out|refine zJ ?_ GE157.out|refine zJ ?_ GE158.out)|exact HB.out))) : w.heap.size ≤ gb178))
                have n8_ := Aside0.mk ((by rw [hg];exact Nat.ne_of_lt (blk_lt (g := gb134) (o := .cells #[.int .i64 a0_0,.int .i64 a0_1,.string a0_2] 63 (0,0)) (by (with_reducible repeat (first|refine zA ?_ _|refine zC ?_|refine zB ?_ _));exact BK134.out)) : gb134 ≠ gb178))
                have n9_ := Aside0.mk ((by rw [hg];exact Nat.ne_of_gt (blk_lt (g := gb134) (o := .cells #[.int .i64 a0_0,.int .i64 a0_1,.string a0_2] 63 (0,0)) (by (with_reducible repeat (first|refine zA ?_ _|refine zC ?_|refine zB ?_ _));exact BK134.out)) : gb178 ≠ gb134))
                have n10_ := Aside0.mk ((by rw [hg];exact Nat.ne_of_lt (blk_lt (g := gb135) (o := .cells #[.int .i64 a1_0,.int .i64 a1_1,.int .i64 a1_2,.int .i64 a1_3,.int .i64 a1_4,.string a1_5] 64 (0,0)) (by (with_reducible repeat (first|refine zA ?_ _|refine zC ?_|refine zB ?_ _));exact BK135.out)) : gb135 ≠ gb178))
                have n11_ := Aside0.mk ((by rw [hg];exact Nat.ne_of_gt (blk_lt (g := gb135) (o := .cells #[.int .i64 a1_0,.int .i64 a1_1,.int .i64 a1_2,.int .i64 a1_3,.int .i64 a1_4,.string a1_5] 64 (0,0)) (by (with_reducible repeat (first|refine zA ?_ _|refine zC ?_|refine zB ?_ _));exact BK135.out)) : gb178 ≠ gb135))
                have n12_ := Aside0.mk ((by rw [hg];exact Nat.ne_of_lt (blk_lt (g := gb157) (o := .cells #[.int .i64 t147,.int .i64 t148,.string t149] 67 (0,0)) (by (with_reducible repeat (first|refine zA ?_ _|refine zC ?_|refine zB ?_ _));exact BK157.out)) : gb157 ≠ gb178))
                have n13_ := Aside0.mk ((by rw [hg];exact Nat.ne_of_gt (blk_lt (g := gb157) (o := .cells #[.int .i64 t147,.int .i64 t148,.string t149] 67 (0,0)) (by (with_reducible repeat (first|refine zA ?_ _|refine zC ?_|refine zB ?_ _));exact BK157.out)) : gb178 ≠ gb157))
                have n14_ := Aside0.mk ((by rw [hg];exact Nat.ne_of_lt (blk_lt (g := gb158) (o := .cells #[.int .i64 t150,.int .i64 t151,.int .i64 t152,.int .i64 t153,.int .i64 t154,.string t155] 61 (0,0)) (by (with_reducible repeat (first|refine zA ?_ _|refine zC ?_|refine zB ?_ _));exact BK158.out)) : gb158 ≠ gb178))
                have n15_ := Aside0.mk ((by rw [hg];exact Nat.ne_of_gt (blk_lt (g := gb158) (o := .cells #[.int .i64 t150,.int .i64 t151,.int .i64 t152,.int .i64 t153,.int .i64 t154,.string t155] 61 (0,0)) (by (with_reducible repeat (first|refine zA ?_ _|refine zC ?_|refine zB ?_ _));exact BK158.out)) : gb178 ≠ gb158))
                clear BK134
                clear BK135
                clear BK157
                clear BK158
                clear HB
                have BK134 := n0_
                have BK135 := n1_
                have BK157 := n2_
                have BK158 := n3_
                have HB := n4_
                have BK178 := n5_
                have GW178 := n6_
                have GE178 := n7_
                have NB134_178 := n8_
                have NB178_134 := n9_
                have NB135_178 := n10_
                have NB178_135 := n11_
                have NB157_178 := n12_
                have NB178_157 := n13_
                have NB158_178 := n14_
                have NB178_158 := n15_
                clear n0_ n1_ n2_ n3_ n4_ n5_ n6_ n7_ n8_ n9_ n10_ n11_ n12_ n13_ n14_ n15_
                clear hb hbox hg
                refine hK.out _ _ ⟨(zO BK134.out 0).trans rfl,(zO BK134.out 1).trans rfl,(zO BK134.out 2).trans rfl,(zO BK135.out 0).trans rfl,(zO BK135.out 1).trans rfl,(zO BK135.out 2).trans rfl,(zO BK135.out 3).trans rfl,(zO BK135.out 4).trans rfl,(zO BK135.out 5).trans rfl⟩ (fun hHeld => ?_)
                clear hK K
                refine norm_ (a' := ?_) ?_ ?_
                rotate_left
                ·show Act.put _ (some 9) _ = _
                 simp only [Act.put,List.setIfInBounds_toArray,List.set_cons_zero,List.set_cons_succ,i64_w,i32_w]
                 rfl
                exact norm_ (by first|(simp only [putAll,Act.put,List.setIfInBounds_toArray,List.set_cons_zero,List.set_cons_succ];done)|(simp only [putAll,Act.put,List.setIfInBounds_toArray,List.set_cons_zero,List.set_cons_succ];rfl)) (hJ1_9 (gb178) _ ⟨hHeld,(by (with_reducible repeat (first|refine zA ?_ _|refine zC ?_|refine zB ?_ _));exact BK134.out),(by (with_reducible repeat (first|refine zA ?_ _|refine zC ?_|refine zB ?_ _));exact BK135.out),(by (with_reducible repeat (first|refine zA ?_ _|refine zC ?_|refine zB ?_ _));exact BK157.out),(by (with_reducible repeat (first|refine zA ?_ _|refine zC ?_|refine zB ?_ _));exact BK158.out),(by (with_reducible repeat (first|refine zA ?_ _|refine zC ?_|refine zB ?_ _));exact BK178.out),GW178.out,GE178.out,NB134_178.out,NB178_134.out,NB135_178.out,NB178_135.out,NB157_178.out,NB178_157.out,NB158_178.out,NB178_158.out,(by repeat (first|(with_reducible first|exact HB.out|apply zI|apply zG|apply zH|refine zJ ?_ GE134.out|refine zJ ?_ GE135.out|refine zJ ?_ GE157.out|refine zJ ?_ GE158.out|refine zJ ?_ GE178.out)|exact HB.out))⟩)
               ·skip
                refine box_step ?hg (N := 10) ?hd (cs := #[.int .i64 0,.int .i64 0,.int .i64 0,.int .i64 0,.int .i64 0,.string (⟨#[]⟩ : ByteArray)]) (t := 61) ?hr ?_;(case hd => rfl);(case hg => rfl);(case hr => first|(go_simp;done)|(go_simp;rfl))
                intro gb179 hg w117 hbox hb
                have n0_ := Aside0.mk (zK (by exact BK134.out) hb)
                have n1_ := Aside0.mk (zK (by exact BK135.out) hb)
                have n2_ := Aside0.mk (zK (by exact BK157.out) hb)
                have n3_ := Aside0.mk (zK (by exact BK158.out) hb)
                have n4_ := Aside0.mk (zN (by repeat (first|(with_reducible first|exact HB.out|apply zI|apply zG|apply zH|refine zJ ?_ GE134.out|refine zJ ?_ GE135.out|refine zJ ?_ GE157.out|refine zJ ?_ GE158.out)|exact HB.out)) hb)
                have n5_ := Aside0.mk (hbox)
                have n6_ := Aside0.mk ((by rw [hg];exact (below_size (by repeat (first|(with_reducible first|exact HB.out|apply zI|apply zG|apply zH|refine zJ ?_ GE134.out|refine zJ ?_ GE135.out|refine zJ ?_ GE157.out|refine zJ ?_ GE158.out)|exact HB.out))) : w.heap.size ≤ gb179))
                have n7_ := Aside0.mk ((by rw [hg];exact (below_size (by repeat (first|(with_reducible first|exact HB.out|apply zI|apply zG|apply zH|refine zJ ?_ GE134.out|refine zJ ?_ GE135.out|refine zJ ?_ GE157.out|refine zJ ?_ GE158.out)|exact HB.out))) : w.heap.size ≤ gb179))
                have n8_ := Aside0.mk ((by rw [hg];exact Nat.ne_of_lt (blk_lt (g := gb134) (o := .cells #[.int .i64 a0_0,.int .i64 a0_1,.string a0_2] 63 (0,0)) (by (with_reducible repeat (first|refine zA ?_ _|refine zC ?_|refine zB ?_ _));exact BK134.out)) : gb134 ≠ gb179))
                have n9_ := Aside0.mk ((by rw [hg];exact Nat.ne_of_gt (blk_lt (g := gb134) (o := .cells #[.int .i64 a0_0,.int .i64 a0_1,.string a0_2] 63 (0,0)) (by (with_reducible repeat (first|refine zA ?_ _|refine zC ?_|refine zB ?_ _));exact BK134.out)) : gb179 ≠ gb134))
                have n10_ := Aside0.mk ((by rw [hg];exact Nat.ne_of_lt (blk_lt (g := gb135) (o := .cells #[.int .i64 a1_0,.int .i64 a1_1,.int .i64 a1_2,.int .i64 a1_3,.int .i64 a1_4,.string a1_5] 64 (0,0)) (by (with_reducible repeat (first|refine zA ?_ _|refine zC ?_|refine zB ?_ _));exact BK135.out)) : gb135 ≠ gb179))
                have n11_ := Aside0.mk ((by rw [hg];exact Nat.ne_of_gt (blk_lt (g := gb135) (o := .cells #[.int .i64 a1_0,.int .i64 a1_1,.int .i64 a1_2,.int .i64 a1_3,.int .i64 a1_4,.string a1_5] 64 (0,0)) (by (with_reducible repeat (first|refine zA ?_ _|refine zC ?_|refine zB ?_ _));exact BK135.out)) : gb179 ≠ gb135))
                have n12_ := Aside0.mk ((by rw [hg];exact Nat.ne_of_lt (blk_lt (g := gb157) (o := .cells #[.int .i64 t147,.int .i64 t148,.string t149] 67 (0,0)) (by (with_reducible repeat (first|refine zA ?_ _|refine zC ?_|refine zB ?_ _));exact BK157.out)) : gb157 ≠ gb179))
                have n13_ := Aside0.mk ((by rw [hg];exact Nat.ne_of_gt (blk_lt (g := gb157) (o := .cells #[.int .i64 t147,.int .i64 t148,.string t149] 67 (0,0)) (by (with_reducible repeat (first|refine zA ?_ _|refine zC ?_|refine zB ?_ _));exact BK157.out)) : gb179 ≠ gb157))
                have n14_ := Aside0.mk ((by rw [hg];exact Nat.ne_of_lt (blk_lt (g := gb158) (o := .cells #[.int .i64 t150,.int .i64 t151,.int .i64 t152,.int .i64 t153,.int .i64 t154,.string t155] 61 (0,0)) (by (with_reducible repeat (first|refine zA ?_ _|refine zC ?_|refine zB ?_ _));exact BK158.out)) : gb158 ≠ gb179))
                have n15_ := Aside0.mk ((by rw [hg];exact Nat.ne_of_gt (blk_lt (g := gb158) (o := .cells #[.int .i64 t150,.int .i64 t151,.int .i64 t152,.int .i64 t153,.int .i64 t154,.string t155] 61 (0,0)) (by (with_reducible repeat (first|refine zA ?_ _|refine zC ?_|refine zB ?_ _));exact BK158.out)) : gb179 ≠ gb158))
                clear BK134
                clear BK135
                clear BK157
                clear BK158
                clear HB
                have BK134 := n0_
                have BK135 := n1_
                have BK157 := n2_
                have BK158 := n3_
                have HB := n4_
                have BK179 := n5_
                have GW179 := n6_
                have GE179 := n7_
                have NB134_179 := n8_
                have NB179_134 := n9_
                have NB135_179 := n10_
                have NB179_135 := n11_
                have NB157_179 := n12_
                have NB179_157 := n13_
                have NB158_179 := n14_
                have NB179_158 := n15_
                clear n0_ n1_ n2_ n3_ n4_ n5_ n6_ n7_ n8_ n9_ n10_ n11_ n12_ n13_ n14_ n15_
                clear hb hbox hg
                refine hK.out _ _ ⟨(zO BK134.out 0).trans rfl,(zO BK134.out 1).trans rfl,(zO BK134.out 2).trans rfl,(zO BK135.out 0).trans rfl,(zO BK135.out 1).trans rfl,(zO BK135.out 2).trans rfl,(zO BK135.out 3).trans rfl,(zO BK135.out 4).trans rfl,(zO BK135.out 5).trans rfl⟩ (fun hHeld => ?_)
                clear hK K
                refine norm_ (a' := ?_) ?_ ?_
                rotate_left
                ·show Act.put _ (some 10) _ = _
                 simp only [Act.put,List.setIfInBounds_toArray,List.set_cons_zero,List.set_cons_succ,i64_w,i32_w]
                 rfl
                exact norm_ (by first|(simp only [putAll,Act.put,List.setIfInBounds_toArray,List.set_cons_zero,List.set_cons_succ];done)|(simp only [putAll,Act.put,List.setIfInBounds_toArray,List.set_cons_zero,List.set_cons_succ];rfl)) (hJ1_10 (gb179) _ ⟨hHeld,(by (with_reducible repeat (first|refine zA ?_ _|refine zC ?_|refine zB ?_ _));exact BK134.out),(by (with_reducible repeat (first|refine zA ?_ _|refine zC ?_|refine zB ?_ _));exact BK135.out),(by (with_reducible repeat (first|refine zA ?_ _|refine zC ?_|refine zB ?_ _));exact BK157.out),(by (with_reducible repeat (first|refine zA ?_ _|refine zC ?_|refine zB ?_ _));exact BK158.out),(by (with_reducible repeat (first|refine zA ?_ _|refine zC ?_|refine zB ?_ _));exact BK179.out),GW179.out,GE179.out,NB134_179.out,NB179_134.out,NB135_179.out,NB179_135.out,NB157_179.out,NB179_157.out,NB158_179.out,NB179_158.out,(by repeat (first|(with_reducible first|exact HB.out|apply zI|apply zG|apply zH|refine zJ ?_ GE134.out|refine zJ ?_ GE135.out|refine zJ ?_ GE157.out|refine zJ ?_ GE158.out|refine zJ ?_ GE179.out)|exact HB.out))⟩)
             ·skip
              rintro ⟨gb178,gb179⟩ w117 ⟨hS_,h0_,h1_,h2_,h3_,h4_,h5_,h6_,h7_,h8_,h9_,h10_,h11_,h12_,h13_,h14_,h15_,h16_,h17_,h18_,h19_,h20_,h21_,h22_,h23_,h24_,h25_,h26_,h27_,h28_⟩
              have n0_ : Aside0 (w117.heap[gb134]? = some (.cells #[.int .i64 a0_0,.int .i64 a0_1,.string a0_2] 63 (0,0))) := ⟨h0_⟩
              have n1_ : Aside0 (w117.heap[gb135]? = some (.cells #[.int .i64 a1_0,.int .i64 a1_1,.int .i64 a1_2,.int .i64 a1_3,.int .i64 a1_4,.string a1_5] 64 (0,0))) := ⟨h1_⟩
              have n2_ : Aside0 (w117.heap[gb157]? = some (.cells #[.int .i64 t147,.int .i64 t148,.string t149] 67 (0,0))) := ⟨h2_⟩
              have n3_ : Aside0 (w117.heap[gb158]? = some (.cells #[.int .i64 t150,.int .i64 t151,.int .i64 t152,.int .i64 t153,.int .i64 t154,.string t155] 61 (0,0))) := ⟨h3_⟩
              have n4_ : Aside0 (w117.heap[gb178]? = some (.cells #[.int .i64 0,.int .i64 0,.string (⟨#[]⟩ : ByteArray)] 67 (0,0))) := ⟨h4_⟩
              have n5_ : Aside0 (w117.heap[gb179]? = some (.cells #[.int .i64 0,.int .i64 0,.int .i64 0,.int .i64 0,.int .i64 0,.string (⟨#[]⟩ : ByteArray)] 61 (0,0))) := ⟨h5_⟩
              have n6_ : Aside0 (w.heap.size ≤ gb178) := ⟨h6_⟩
              have n7_ : Aside0 (w.heap.size ≤ gb178) := ⟨h7_⟩
              have n8_ : Aside0 (gb134 ≠ gb178) := ⟨h8_⟩
              have n9_ : Aside0 (gb178 ≠ gb134) := ⟨h9_⟩
              have n10_ : Aside0 (gb135 ≠ gb178) := ⟨h10_⟩
              have n11_ : Aside0 (gb178 ≠ gb135) := ⟨h11_⟩
              have n12_ : Aside0 (gb157 ≠ gb178) := ⟨h12_⟩
              have n13_ : Aside0 (gb178 ≠ gb157) := ⟨h13_⟩
              have n14_ : Aside0 (gb158 ≠ gb178) := ⟨h14_⟩
              have n15_ : Aside0 (gb178 ≠ gb158) := ⟨h15_⟩
              have n16_ : Aside0 (gb179 ≠ gb178) := ⟨h16_⟩
              have n17_ : Aside0 (gb178 ≠ gb179) := ⟨h17_⟩
              have n18_ : Aside0 (w.heap.size ≤ gb179) := ⟨h18_⟩
              have n19_ : Aside0 (w.heap.size ≤ gb179) := ⟨h19_⟩
              have n20_ : Aside0 (gb134 ≠ gb179) := ⟨h20_⟩
              have n21_ : Aside0 (gb179 ≠ gb134) := ⟨h21_⟩
              have n22_ : Aside0 (gb135 ≠ gb179) := ⟨h22_⟩
              have n23_ : Aside0 (gb179 ≠ gb135) := ⟨h23_⟩
              have n24_ : Aside0 (gb157 ≠ gb179) := ⟨h24_⟩
              have n25_ : Aside0 (gb179 ≠ gb157) := ⟨h25_⟩
              have n26_ : Aside0 (gb158 ≠ gb179) := ⟨h26_⟩
              have n27_ : Aside0 (gb179 ≠ gb158) := ⟨h27_⟩
              have n28_ : Aside0 (Below w.heap.size w w117) := ⟨h28_⟩
              clear BK134
              clear BK135
              clear BK157
              clear BK158
              clear HB
              clear h0_ h1_ h2_ h3_ h4_ h5_ h6_ h7_ h8_ h9_ h10_ h11_ h12_ h13_ h14_ h15_ h16_ h17_ h18_ h19_ h20_ h21_ h22_ h23_ h24_ h25_ h26_ h27_ h28_
              have BK134 := n0_
              have BK135 := n1_
              have BK157 := n2_
              have BK158 := n3_
              have BK178 := n4_
              have BK179 := n5_
              have GW178 := n6_
              have GE178 := n7_
              have NB134_178 := n8_
              have NB178_134 := n9_
              have NB135_178 := n10_
              have NB178_135 := n11_
              have NB157_178 := n12_
              have NB178_157 := n13_
              have NB158_178 := n14_
              have NB178_158 := n15_
              have NB179_178 := n16_
              have NB178_179 := n17_
              have GW179 := n18_
              have GE179 := n19_
              have NB134_179 := n20_
              have NB179_134 := n21_
              have NB135_179 := n22_
              have NB179_135 := n23_
              have NB157_179 := n24_
              have NB179_157 := n25_
              have NB158_179 := n26_
              have NB179_158 := n27_
              have HB := n28_
              clear n0_ n1_ n2_ n3_ n4_ n5_ n6_ n7_ n8_ n9_ n10_ n11_ n12_ n13_ n14_ n15_ n16_ n17_ n18_ n19_ n20_ n21_ n22_ n23_ n24_ n25_ n26_ n27_ n28_
              have hHeld : w117.cell? ⟨gb134,0,none⟩ = some (.int .i64 a0_0) ∧ w117.cell? ⟨gb134,1,none⟩ = some (.int .i64 a0_1) ∧ w117.cell? ⟨gb134,2,none⟩ = some (.string a0_2) ∧ w117.cell? ⟨gb135,0,none⟩ = some (.int .i64 a1_0) ∧ w117.cell? ⟨gb135,1,none⟩ = some (.int .i64 a1_1) ∧ w117.cell? ⟨gb135,2,none⟩ = some (.int .i64 a1_2) ∧ w117.cell? ⟨gb135,3,none⟩ = some (.int .i64 a1_3) ∧ w117.cell? ⟨gb135,4,none⟩ = some (.int .i64 a1_4) ∧ w117.cell? ⟨gb135,5,none⟩ = some (.string a1_5) := hS_
              refine norm_ (a' := ?_) ?_ ?_
              rotate_left
              ·simp only [putAll,Act.put,List.setIfInBounds_toArray,List.set_cons_zero,List.set_cons_succ]
               rfl
              refine one_ (i := 1) (N := some 33) #[true,true,true,false,false,false,false,false,false,true,true,false,false,false] rfl rfl (one_of HT_.out (by kernel_rfl)) (by decide) (fun K hK => ?_)
              refine goes_ Try.func47 (by kernel_rfl) rfl #[.agg #[.int .i64 a0_0,.int .i64 a0_1,.string a0_2]] (by rfl) rfl rfl (by (try simp only [List.map_toArray,List.map_cons,List.map_nil]);first|done|rfl|(simp only [List.length_drop,List.length_take];rfl)) ?_
              with_reducible refine (laws_toVoice.calls a0_0 a0_1 a0_2 t159 t160 t161 _ A22.out).mono ?_
              rintro e w118 ⟨rfl,hb⟩
              refine ⟨_,rfl,?_⟩
              have n0_ := Aside0.mk (zK (by exact BK134.out) hb)
              have n1_ := Aside0.mk (zK (by exact BK135.out) hb)
              have n2_ := Aside0.mk (zK (by exact BK157.out) hb)
              have n3_ := Aside0.mk (zK (by exact BK158.out) hb)
              have n4_ := Aside0.mk (zK (by exact BK178.out) hb)
              have n5_ := Aside0.mk (zK (by exact BK179.out) hb)
              have n6_ := Aside0.mk (zN (by repeat (first|(with_reducible first|exact HB.out|apply zI|apply zG|apply zH|refine zJ ?_ GE134.out|refine zJ ?_ GE135.out|refine zJ ?_ GE157.out|refine zJ ?_ GE158.out|refine zJ ?_ GE178.out|refine zJ ?_ GE179.out)|exact HB.out)) hb)
              clear BK134
              clear BK135
              clear BK157
              clear BK158
              clear BK178
              clear BK179
              clear HB
              have BK134 := n0_
              have BK135 := n1_
              have BK157 := n2_
              have BK158 := n3_
              have BK178 := n4_
              have BK179 := n5_
              have HB := n6_
              clear n0_ n1_ n2_ n3_ n4_ n5_ n6_
              (try clear hb)
              (try clear hb2)
              (try clear hk)
              (try clear hi)
              refine hK.out _ _ ⟨(zO BK134.out 0).trans rfl,(zO BK134.out 1).trans rfl,(zO BK134.out 2).trans rfl,(zO BK135.out 0).trans rfl,(zO BK135.out 1).trans rfl,(zO BK135.out 2).trans rfl,(zO BK135.out 3).trans rfl,(zO BK135.out 4).trans rfl,(zO BK135.out 5).trans rfl⟩ (fun hHeld => ?_)
              clear hK K
              refine norm_ (a' := ?_) ?_ ?_
              rotate_left
              ·show Act.put _ (some 33) _ = _
               simp only [Act.put,List.setIfInBounds_toArray,List.set_cons_zero,List.set_cons_succ,i64_w,i32_w]
               rfl
              exact norm_ (by first|(simp only [putAll,Act.put,List.setIfInBounds_toArray,List.set_cons_zero,List.set_cons_succ];done)|(simp only [putAll,Act.put,List.setIfInBounds_toArray,List.set_cons_zero,List.set_cons_succ];rfl)) (hJ1_9_10 (gb178,gb179) _ ⟨hHeld,(by (with_reducible repeat (first|refine zA ?_ _|refine zC ?_|refine zB ?_ _));exact BK134.out),(by (with_reducible repeat (first|refine zA ?_ _|refine zC ?_|refine zB ?_ _));exact BK135.out),(by (with_reducible repeat (first|refine zA ?_ _|refine zC ?_|refine zB ?_ _));exact BK157.out),(by (with_reducible repeat (first|refine zA ?_ _|refine zC ?_|refine zB ?_ _));exact BK158.out),(by (with_reducible repeat (first|refine zA ?_ _|refine zC ?_|refine zB ?_ _));exact BK178.out),(by (with_reducible repeat (first|refine zA ?_ _|refine zC ?_|refine zB ?_ _));exact BK179.out),GW178.out,GE178.out,NB134_178.out,NB178_134.out,NB135_178.out,NB178_135.out,NB157_178.out,NB178_157.out,NB158_178.out,NB178_158.out,NB179_178.out,NB178_179.out,GW179.out,GE179.out,NB134_179.out,NB179_134.out,NB135_179.out,NB179_135.out,NB157_179.out,NB179_157.out,NB158_179.out,NB179_158.out,(by repeat (first|(with_reducible first|exact HB.out|apply zI|apply zG|apply zH|refine zJ ?_ GE134.out|refine zJ ?_ GE135.out|refine zJ ?_ GE157.out|refine zJ ?_ GE158.out|refine zJ ?_ GE178.out|refine zJ ?_ GE179.out)|exact HB.out))⟩)
            ·skip
             rintro gb179 w117 ⟨hS_,h0_,h1_,h2_,h3_,h4_,h5_,h6_,h7_,h8_,h9_,h10_,h11_,h12_,h13_,h14_,h15_⟩
             have n0_ : Aside0 (w117.heap[gb134]? = some (.cells #[.int .i64 a0_0,.int .i64 a0_1,.string a0_2] 63 (0,0))) := ⟨h0_⟩
             have n1_ : Aside0 (w117.heap[gb135]? = some (.cells #[.int .i64 a1_0,.int .i64 a1_1,.int .i64 a1_2,.int .i64 a1_3,.int .i64 a1_4,.string a1_5] 64 (0,0))) := ⟨h1_⟩
             have n2_ : Aside0 (w117.heap[gb157]? = some (.cells #[.int .i64 t147,.int .i64 t148,.string t149] 67 (0,0))) := ⟨h2_⟩
             have n3_ : Aside0 (w117.heap[gb158]? = some (.cells #[.int .i64 t150,.int .i64 t151,.int .i64 t152,.int .i64 t153,.int .i64 t154,.string t155] 61 (0,0))) := ⟨h3_⟩
             have n4_ : Aside0 (w117.heap[gb179]? = some (.cells #[.int .i64 0,.int .i64 0,.int .i64 0,.int .i64 0,.int .i64 0,.string (⟨#[]⟩ : ByteArray)] 61 (0,0))) := ⟨h4_⟩
             have n5_ : Aside0 (w.heap.size ≤ gb179) := ⟨h5_⟩
             have n6_ : Aside0 (w.heap.size ≤ gb179) := ⟨h6_⟩
             have n7_ : Aside0 (gb134 ≠ gb179) := ⟨h7_⟩
             have n8_ : Aside0 (gb179 ≠ gb134) := ⟨h8_⟩
             have n9_ : Aside0 (gb135 ≠ gb179) := ⟨h9_⟩
             have n10_ : Aside0 (gb179 ≠ gb135) := ⟨h10_⟩
             have n11_ : Aside0 (gb157 ≠ gb179) := ⟨h11_⟩
             have n12_ : Aside0 (gb179 ≠ gb157) := ⟨h12_⟩
             have n13_ : Aside0 (gb158 ≠ gb179) := ⟨h13_⟩
             have n14_ : Aside0 (gb179 ≠ gb158) := ⟨h14_⟩
             have n15_ : Aside0 (Below w.heap.size w w117) := ⟨h15_⟩
             clear BK134
             clear BK135
             clear BK157
             clear BK158
             clear HB
             clear h0_ h1_ h2_ h3_ h4_ h5_ h6_ h7_ h8_ h9_ h10_ h11_ h12_ h13_ h14_ h15_
             have BK134 := n0_
             have BK135 := n1_
             have BK157 := n2_
             have BK158 := n3_
             have BK179 := n4_
             have GW179 := n5_
             have GE179 := n6_
             have NB134_179 := n7_
             have NB179_134 := n8_
             have NB135_179 := n9_
             have NB179_135 := n10_
             have NB157_179 := n11_
             have NB179_157 := n12_
             have NB158_179 := n13_
             have NB179_158 := n14_
             have HB := n15_
             clear n0_ n1_ n2_ n3_ n4_ n5_ n6_ n7_ n8_ n9_ n10_ n11_ n12_ n13_ n14_ n15_
             have hHeld : w117.cell? ⟨gb134,0,none⟩ = some (.int .i64 a0_0) ∧ w117.cell? ⟨gb134,1,none⟩ = some (.int .i64 a0_1) ∧ w117.cell? ⟨gb134,2,none⟩ = some (.string a0_2) ∧ w117.cell? ⟨gb135,0,none⟩ = some (.int .i64 a1_0) ∧ w117.cell? ⟨gb135,1,none⟩ = some (.int .i64 a1_1) ∧ w117.cell? ⟨gb135,2,none⟩ = some (.int .i64 a1_2) ∧ w117.cell? ⟨gb135,3,none⟩ = some (.int .i64 a1_3) ∧ w117.cell? ⟨gb135,4,none⟩ = some (.int .i64 a1_4) ∧ w117.cell? ⟨gb135,5,none⟩ = some (.string a1_5) := hS_
             refine norm_ (a' := ?_) ?_ ?_
             rotate_left
             ·simp only [putAll,Act.put,List.setIfInBounds_toArray,List.set_cons_zero,List.set_cons_succ]
              rfl
             refine two_ (i := 3) (j := 9) (Ni := some 35) (Nj := some 9) #[true,true,true,true,false,false,false,false,false,false,true,false,false,false] #[true,true,true,false,false,false,false,false,false,true,true,false,false,false] rfl rfl rfl rfl (two_of HT_.out (by kernel_rfl)) (by decide) (by decide) (fun K hK => ?_) (fun K hK => ?_)
             ·skip
              refine goes_ Try.func48 (by kernel_rfl) rfl #[.agg #[.int .i64 a1_0,.int .i64 a1_1,.int .i64 a1_2,.int .i64 a1_3,.int .i64 a1_4,.string a1_5]] (by rfl) rfl rfl (by (try simp only [List.map_toArray,List.map_cons,List.map_nil]);first|done|rfl|(simp only [List.length_drop,List.length_take];rfl)) ?_
              with_reducible refine (laws_toNote.calls a1_0 a1_1 a1_2 a1_3 a1_4 a1_5 t162 t163 t164 t165 t166 t167 _ A23.out).mono ?_
              rintro e w118 ⟨rfl,hb⟩
              refine ⟨_,rfl,?_⟩
              have n0_ := Aside0.mk (zK (by exact BK134.out) hb)
              have n1_ := Aside0.mk (zK (by exact BK135.out) hb)
              have n2_ := Aside0.mk (zK (by exact BK157.out) hb)
              have n3_ := Aside0.mk (zK (by exact BK158.out) hb)
              have n4_ := Aside0.mk (zK (by exact BK179.out) hb)
              have n5_ := Aside0.mk (zN (by repeat (first|(with_reducible first|exact HB.out|apply zI|apply zG|apply zH|refine zJ ?_ GE134.out|refine zJ ?_ GE135.out|refine zJ ?_ GE157.out|refine zJ ?_ GE158.out|refine zJ ?_ GE179.out)|exact HB.out)) hb)
              clear BK134
              clear BK135
              clear BK157
              clear BK158
              clear BK179
              clear HB
              have BK134 := n0_
              have BK135 := n1_
              have BK157 := n2_
              have BK158 := n3_
              have BK179 := n4_
              have HB := n5_
              clear n0_ n1_ n2_ n3_ n4_ n5_
              (try clear hb)
              (try clear hb2)
              (try clear hk)
              (try clear hi)
              refine hK.out _ _ ⟨(zO BK134.out 0).trans rfl,(zO BK134.out 1).trans rfl,(zO BK134.out 2).trans rfl,(zO BK135.out 0).trans rfl,(zO BK135.out 1).trans rfl,(zO BK135.out 2).trans rfl,(zO BK135.out 3).trans rfl,(zO BK135.out 4).trans rfl,(zO BK135.out 5).trans rfl⟩ (fun hHeld => ?_)
              clear hK K
              refine norm_ (a' := ?_) ?_ ?_
              rotate_left
              ·show Act.put _ (some 35) _ = _
               simp only [Act.put,List.setIfInBounds_toArray,List.set_cons_zero,List.set_cons_succ,i64_w,i32_w]
               rfl
              exact norm_ (by first|(simp only [putAll,Act.put,List.setIfInBounds_toArray,List.set_cons_zero,List.set_cons_succ];done)|(simp only [putAll,Act.put,List.setIfInBounds_toArray,List.set_cons_zero,List.set_cons_succ];rfl)) (hJ1_3_10 (gb179) _ ⟨hHeld,(by (with_reducible repeat (first|refine zA ?_ _|refine zC ?_|refine zB ?_ _));exact BK134.out),(by (with_reducible repeat (first|refine zA ?_ _|refine zC ?_|refine zB ?_ _));exact BK135.out),(by (with_reducible repeat (first|refine zA ?_ _|refine zC ?_|refine zB ?_ _));exact BK157.out),(by (with_reducible repeat (first|refine zA ?_ _|refine zC ?_|refine zB ?_ _));exact BK158.out),(by (with_reducible repeat (first|refine zA ?_ _|refine zC ?_|refine zB ?_ _));exact BK179.out),GW179.out,GE179.out,NB134_179.out,NB179_134.out,NB135_179.out,NB179_135.out,NB157_179.out,NB179_157.out,NB158_179.out,NB179_158.out,(by repeat (first|(with_reducible first|exact HB.out|apply zI|apply zG|apply zH|refine zJ ?_ GE134.out|refine zJ ?_ GE135.out|refine zJ ?_ GE157.out|refine zJ ?_ GE158.out|refine zJ ?_ GE179.out)|exact HB.out))⟩)
             ·skip
              refine box_step ?hg (N := 9) ?hd (cs := #[.int .i64 0,.int .i64 0,.string (⟨#[]⟩ : ByteArray)]) (t := 67) ?hr ?_;(case hd => rfl);(case hg => rfl);(case hr => first|(go_simp;done)|(go_simp;rfl))
              intro gb178 hg w118 hbox hb
              have n0_ := Aside0.mk (zK (by exact BK134.out) hb)
              have n1_ := Aside0.mk (zK (by exact BK135.out) hb)
              have n2_ := Aside0.mk (zK (by exact BK157.out) hb)
              have n3_ := Aside0.mk (zK (by exact BK158.out) hb)
              have n4_ := Aside0.mk (zK (by exact BK179.out) hb)
              have n5_ := Aside0.mk (zN (by repeat (first|(with_reducible first|exact HB.out|apply zI|apply zG|apply zH|refine zJ ?_ GE134.out|refine zJ ?_ GE135.out|refine zJ ?_ GE157.out|refine zJ ?_ GE158.out|refine zJ ?_ GE179.out)|exact HB.out)) hb)
              have n6_ := Aside0.mk (hbox)
              have n7_ := Aside0.mk ((by rw [hg];exact (below_size (by repeat (first|(with_reducible first|exact HB.out|apply zI|apply zG|apply zH|refine zJ ?_ GE134.out|refine zJ ?_ GE135.out|refine zJ ?_ GE157.out|refine zJ ?_ GE158.out|refine zJ ?_ GE179.out)|exact HB.out))) : w.heap.size ≤ gb178))
              have n8_ := Aside0.mk ((by rw [hg];exact (below_size (by repeat (first|(with_reducible first|exact HB.out|apply zI|apply zG|apply zH|refine zJ ?_ GE134.out|refine zJ ?_ GE135.out|refine zJ ?_ GE157.out|refine zJ ?_ GE158.out|refine zJ ?_ GE179.out)|exact HB.out))) : w.heap.size ≤ gb178))
              have n9_ := Aside0.mk ((by rw [hg];exact Nat.ne_of_lt (blk_lt (g := gb134) (o := .cells #[.int .i64 a0_0,.int .i64 a0_1,.string a0_2] 63 (0,0)) (by (with_reducible repeat (first|refine zA ?_ _|refine zC ?_|refine zB ?_ _));exact BK134.out)) : gb134 ≠ gb178))
              have n10_ := Aside0.mk ((by rw [hg];exact Nat.ne_of_gt (blk_lt (g := gb134) (o := .cells #[.int .i64 a0_0,.int .i64 a0_1,.string a0_2] 63 (0,0)) (by (with_reducible repeat (first|refine zA ?_ _|refine zC ?_|refine zB ?_ _));exact BK134.out)) : gb178 ≠ gb134))
              have n11_ := Aside0.mk ((by rw [hg];exact Nat.ne_of_lt (blk_lt (g := gb135) (o := .cells #[.int .i64 a1_0,.int .i64 a1_1,.int .i64 a1_2,.int .i64 a1_3,.int .i64 a1_4,.string a1_5] 64 (0,0)) (by (with_reducible repeat (first|refine zA ?_ _|refine zC ?_|refine zB ?_ _));exact BK135.out)) : gb135 ≠ gb178))
              have n12_ := Aside0.mk ((by rw [hg];exact Nat.ne_of_gt (blk_lt (g := gb135) (o := .cells #[.int .i64 a1_0,.int .i64 a1_1,.int .i64 a1_2,.int .i64 a1_3,.int .i64 a1_4,.string a1_5] 64 (0,0)) (by (with_reducible repeat (first|refine zA ?_ _|refine zC ?_|refine zB ?_ _));exact BK135.out)) : gb178 ≠ gb135))
              have n13_ := Aside0.mk ((by rw [hg];exact Nat.ne_of_lt (blk_lt (g := gb157) (o := .cells #[.int .i64 t147,.int .i64 t148,.string t149] 67 (0,0)) (by (with_reducible repeat (first|refine zA ?_ _|refine zC ?_|refine zB ?_ _));exact BK157.out)) : gb157 ≠ gb178))
              have n14_ := Aside0.mk ((by rw [hg];exact Nat.ne_of_gt (blk_lt (g := gb157) (o := .cells #[.int .i64 t147,.int .i64 t148,.string t149] 67 (0,0)) (by (with_reducible repeat (first|refine zA ?_ _|refine zC ?_|refine zB ?_ _));exact BK157.out)) : gb178 ≠ gb157))
              have n15_ := Aside0.mk ((by rw [hg];exact Nat.ne_of_lt (blk_lt (g := gb158) (o := .cells #[.int .i64 t150,.int .i64 t151,.int .i64 t152,.int .i64 t153,.int .i64 t154,.string t155] 61 (0,0)) (by (with_reducible repeat (first|refine zA ?_ _|refine zC ?_|refine zB ?_ _));exact BK158.out)) : gb158 ≠ gb178))
              have n16_ := Aside0.mk ((by rw [hg];exact Nat.ne_of_gt (blk_lt (g := gb158) (o := .cells #[.int .i64 t150,.int .i64 t151,.int .i64 t152,.int .i64 t153,.int .i64 t154,.string t155] 61 (0,0)) (by (with_reducible repeat (first|refine zA ?_ _|refine zC ?_|refine zB ?_ _));exact BK158.out)) : gb178 ≠ gb158))
              have n17_ := Aside0.mk ((by rw [hg];exact Nat.ne_of_lt (blk_lt (g := gb179) (o := .cells #[.int .i64 0,.int .i64 0,.int .i64 0,.int .i64 0,.int .i64 0,.string (⟨#[]⟩ : ByteArray)] 61 (0,0)) (by (with_reducible repeat (first|refine zA ?_ _|refine zC ?_|refine zB ?_ _));exact BK179.out)) : gb179 ≠ gb178))
              have n18_ := Aside0.mk ((by rw [hg];exact Nat.ne_of_gt (blk_lt (g := gb179) (o := .cells #[.int .i64 0,.int .i64 0,.int .i64 0,.int .i64 0,.int .i64 0,.string (⟨#[]⟩ : ByteArray)] 61 (0,0)) (by (with_reducible repeat (first|refine zA ?_ _|refine zC ?_|refine zB ?_ _));exact BK179.out)) : gb178 ≠ gb179))
              clear BK134
              clear BK135
              clear BK157
              clear BK158
              clear BK179
              clear HB
              have BK134 := n0_
              have BK135 := n1_
              have BK157 := n2_
              have BK158 := n3_
              have BK179 := n4_
              have HB := n5_
              have BK178 := n6_
              have GW178 := n7_
              have GE178 := n8_
              have NB134_178 := n9_
              have NB178_134 := n10_
              have NB135_178 := n11_
              have NB178_135 := n12_
              have NB157_178 := n13_
              have NB178_157 := n14_
              have NB158_178 := n15_
              have NB178_158 := n16_
              have NB179_178 := n17_
              have NB178_179 := n18_
              clear n0_ n1_ n2_ n3_ n4_ n5_ n6_ n7_ n8_ n9_ n10_ n11_ n12_ n13_ n14_ n15_ n16_ n17_ n18_
              clear hb hbox hg
              refine hK.out _ _ ⟨(zO BK134.out 0).trans rfl,(zO BK134.out 1).trans rfl,(zO BK134.out 2).trans rfl,(zO BK135.out 0).trans rfl,(zO BK135.out 1).trans rfl,(zO BK135.out 2).trans rfl,(zO BK135.out 3).trans rfl,(zO BK135.out 4).trans rfl,(zO BK135.out 5).trans rfl⟩ (fun hHeld => ?_)
              clear hK K
              refine norm_ (a' := ?_) ?_ ?_
              rotate_left
              ·show Act.put _ (some 9) _ = _
               simp only [Act.put,List.setIfInBounds_toArray,List.set_cons_zero,List.set_cons_succ,i64_w,i32_w]
               rfl
              exact norm_ (by first|(simp only [putAll,Act.put,List.setIfInBounds_toArray,List.set_cons_zero,List.set_cons_succ];done)|(simp only [putAll,Act.put,List.setIfInBounds_toArray,List.set_cons_zero,List.set_cons_succ];rfl)) (hJ1_9_10 (gb178,gb179) _ ⟨hHeld,(by (with_reducible repeat (first|refine zA ?_ _|refine zC ?_|refine zB ?_ _));exact BK134.out),(by (with_reducible repeat (first|refine zA ?_ _|refine zC ?_|refine zB ?_ _));exact BK135.out),(by (with_reducible repeat (first|refine zA ?_ _|refine zC ?_|refine zB ?_ _));exact BK157.out),(by (with_reducible repeat (first|refine zA ?_ _|refine zC ?_|refine zB ?_ _));exact BK158.out),(by (with_reducible repeat (first|refine zA ?_ _|refine zC ?_|refine zB ?_ _));exact BK178.out),(by (with_reducible repeat (first|refine zA ?_ _|refine zC ?_|refine zB ?_ _));exact BK179.out),GW178.out,GE178.out,NB134_178.out,NB178_134.out,NB135_178.out,NB178_135.out,NB157_178.out,NB178_157.out,NB158_178.out,NB178_158.out,NB179_178.out,NB178_179.out,GW179.out,GE179.out,NB134_179.out,NB179_134.out,NB135_179.out,NB179_135.out,NB157_179.out,NB179_157.out,NB158_179.out,NB179_158.out,(by repeat (first|(with_reducible first|exact HB.out|apply zI|apply zG|apply zH|refine zJ ?_ GE134.out|refine zJ ?_ GE135.out|refine zJ ?_ GE157.out|refine zJ ?_ GE158.out|refine zJ ?_ GE179.out|refine zJ ?_ GE178.out)|exact HB.out))⟩)
           ·skip
            rintro gb178 w117 ⟨hS_,h0_,h1_,h2_,h3_,h4_,h5_,h6_,h7_,h8_,h9_,h10_,h11_,h12_,h13_,h14_,h15_⟩
            have n0_ : Aside0 (w117.heap[gb134]? = some (.cells #[.int .i64 a0_0,.int .i64 a0_1,.string a0_2] 63 (0,0))) := ⟨h0_⟩
            have n1_ : Aside0 (w117.heap[gb135]? = some (.cells #[.int .i64 a1_0,.int .i64 a1_1,.int .i64 a1_2,.int .i64 a1_3,.int .i64 a1_4,.string a1_5] 64 (0,0))) := ⟨h1_⟩
            have n2_ : Aside0 (w117.heap[gb157]? = some (.cells #[.int .i64 t147,.int .i64 t148,.string t149] 67 (0,0))) := ⟨h2_⟩
            have n3_ : Aside0 (w117.heap[gb158]? = some (.cells #[.int .i64 t150,.int .i64 t151,.int .i64 t152,.int .i64 t153,.int .i64 t154,.string t155] 61 (0,0))) := ⟨h3_⟩
            have n4_ : Aside0 (w117.heap[gb178]? = some (.cells #[.int .i64 0,.int .i64 0,.string (⟨#[]⟩ : ByteArray)] 67 (0,0))) := ⟨h4_⟩
            have n5_ : Aside0 (w.heap.size ≤ gb178) := ⟨h5_⟩
            have n6_ : Aside0 (w.heap.size ≤ gb178) := ⟨h6_⟩
            have n7_ : Aside0 (gb134 ≠ gb178) := ⟨h7_⟩
            have n8_ : Aside0 (gb178 ≠ gb134) := ⟨h8_⟩
            have n9_ : Aside0 (gb135 ≠ gb178) := ⟨h9_⟩
            have n10_ : Aside0 (gb178 ≠ gb135) := ⟨h10_⟩
            have n11_ : Aside0 (gb157 ≠ gb178) := ⟨h11_⟩
            have n12_ : Aside0 (gb178 ≠ gb157) := ⟨h12_⟩
            have n13_ : Aside0 (gb158 ≠ gb178) := ⟨h13_⟩
            have n14_ : Aside0 (gb178 ≠ gb158) := ⟨h14_⟩
            have n15_ : Aside0 (Below w.heap.size w w117) := ⟨h15_⟩
            clear BK134
            clear BK135
            clear BK157
            clear BK158
            clear HB
            clear h0_ h1_ h2_ h3_ h4_ h5_ h6_ h7_ h8_ h9_ h10_ h11_ h12_ h13_ h14_ h15_
            have BK134 := n0_
            have BK135 := n1_
            have BK157 := n2_
            have BK158 := n3_
            have BK178 := n4_
            have GW178 := n5_
            have GE178 := n6_
            have NB134_178 := n7_
            have NB178_134 := n8_
            have NB135_178 := n9_
            have NB178_135 := n10_
            have NB157_178 := n11_
            have NB178_157 := n12_
            have NB158_178 := n13_
            have NB178_158 := n14_
            have HB := n15_
            clear n0_ n1_ n2_ n3_ n4_ n5_ n6_ n7_ n8_ n9_ n10_ n11_ n12_ n13_ n14_ n15_
            have hHeld : w117.cell? ⟨gb134,0,none⟩ = some (.int .i64 a0_0) ∧ w117.cell? ⟨gb134,1,none⟩ = some (.int .i64 a0_1) ∧ w117.cell? ⟨gb134,2,none⟩ = some (.string a0_2) ∧ w117.cell? ⟨gb135,0,none⟩ = some (.int .i64 a1_0) ∧ w117.cell? ⟨gb135,1,none⟩ = some (.int .i64 a1_1) ∧ w117.cell? ⟨gb135,2,none⟩ = some (.int .i64 a1_2) ∧ w117.cell? ⟨gb135,3,none⟩ = some (.int .i64 a1_3) ∧ w117.cell? ⟨gb135,4,none⟩ = some (.int .i64 a1_4) ∧ w117.cell? ⟨gb135,5,none⟩ = some (.string a1_5) := hS_
            refine norm_ (a' := ?_) ?_ ?_
            rotate_left
            ·simp only [putAll,Act.put,List.setIfInBounds_toArray,List.set_cons_zero,List.set_cons_succ]
             rfl
            refine two_ (i := 3) (j := 10) (Ni := some 35) (Nj := some 10) #[true,true,true,true,false,false,false,false,false,true,false,false,false,false] #[true,true,true,false,false,false,false,false,false,true,true,false,false,false] rfl rfl rfl rfl (two_of HT_.out (by kernel_rfl)) (by decide) (by decide) (fun K hK => ?_) (fun K hK => ?_)
            ·skip
             refine goes_ Try.func48 (by kernel_rfl) rfl #[.agg #[.int .i64 a1_0,.int .i64 a1_1,.int .i64 a1_2,.int .i64 a1_3,.int .i64 a1_4,.string a1_5]] (by rfl) rfl rfl (by (try simp only [List.map_toArray,List.map_cons,List.map_nil]);first|done|rfl|(simp only [List.length_drop,List.length_take];rfl)) ?_
             with_reducible refine (laws_toNote.calls a1_0 a1_1 a1_2 a1_3 a1_4 a1_5 t162 t163 t164 t165 t166 t167 _ A23.out).mono ?_
             rintro e w118 ⟨rfl,hb⟩
             refine ⟨_,rfl,?_⟩
             have n0_ := Aside0.mk (zK (by exact BK134.out) hb)
             have n1_ := Aside0.mk (zK (by exact BK135.out) hb)
             have n2_ := Aside0.mk (zK (by exact BK157.out) hb)
             have n3_ := Aside0.mk (zK (by exact BK158.out) hb)
             have n4_ := Aside0.mk (zK (by exact BK178.out) hb)
             have n5_ := Aside0.mk (zN (by repeat (first|(with_reducible first|exact HB.out|apply zI|apply zG|apply zH|refine zJ ?_ GE134.out|refine zJ ?_ GE135.out|refine zJ ?_ GE157.out|refine zJ ?_ GE158.out|refine zJ ?_ GE178.out)|exact HB.out)) hb)
             clear BK134
             clear BK135
             clear BK157
             clear BK158
             clear BK178
             clear HB
             have BK134 := n0_
             have BK135 := n1_
             have BK157 := n2_
             have BK158 := n3_
             have BK178 := n4_
             have HB := n5_
             clear n0_ n1_ n2_ n3_ n4_ n5_
             (try clear hb)
             (try clear hb2)
             (try clear hk)
             (try clear hi)
             refine hK.out _ _ ⟨(zO BK134.out 0).trans rfl,(zO BK134.out 1).trans rfl,(zO BK134.out 2).trans rfl,(zO BK135.out 0).trans rfl,(zO BK135.out 1).trans rfl,(zO BK135.out 2).trans rfl,(zO BK135.out 3).trans rfl,(zO BK135.out 4).trans rfl,(zO BK135.out 5).trans rfl⟩ (fun hHeld => ?_)
             clear hK K
             refine norm_ (a' := ?_) ?_ ?_
             rotate_left
             ·show Act.put _ (some 35) _ = _
              simp only [Act.put,List.setIfInBounds_toArray,List.set_cons_zero,List.set_cons_succ,i64_w,i32_w]
              rfl
             exact norm_ (by first|(simp only [putAll,Act.put,List.setIfInBounds_toArray,List.set_cons_zero,List.set_cons_succ];done)|(simp only [putAll,Act.put,List.setIfInBounds_toArray,List.set_cons_zero,List.set_cons_succ];rfl)) (hJ1_3_9 (gb178) _ ⟨hHeld,(by (with_reducible repeat (first|refine zA ?_ _|refine zC ?_|refine zB ?_ _));exact BK134.out),(by (with_reducible repeat (first|refine zA ?_ _|refine zC ?_|refine zB ?_ _));exact BK135.out),(by (with_reducible repeat (first|refine zA ?_ _|refine zC ?_|refine zB ?_ _));exact BK157.out),(by (with_reducible repeat (first|refine zA ?_ _|refine zC ?_|refine zB ?_ _));exact BK158.out),(by (with_reducible repeat (first|refine zA ?_ _|refine zC ?_|refine zB ?_ _));exact BK178.out),GW178.out,GE178.out,NB134_178.out,NB178_134.out,NB135_178.out,NB178_135.out,NB157_178.out,NB178_157.out,NB158_178.out,NB178_158.out,(by repeat (first|(with_reducible first|exact HB.out|apply zI|apply zG|apply zH|refine zJ ?_ GE134.out|refine zJ ?_ GE135.out|refine zJ ?_ GE157.out|refine zJ ?_ GE158.out|refine zJ ?_ GE178.out)|exact HB.out))⟩)
            ·skip
             refine box_step ?hg (N := 10) ?hd (cs := #[.int .i64 0,.int .i64 0,.int .i64 0,.int .i64 0,.int .i64 0,.string (⟨#[]⟩ : ByteArray)]) (t := 61) ?hr ?_;(case hd => rfl);(case hg => rfl);(case hr => first|(go_simp;done)|(go_simp;rfl))
             intro gb179 hg w118 hbox hb
             have n0_ := Aside0.mk (zK (by exact BK134.out) hb)
             have n1_ := Aside0.mk (zK (by exact BK135.out) hb)
             have n2_ := Aside0.mk (zK (by exact BK157.out) hb)
             have n3_ := Aside0.mk (zK (by exact BK158.out) hb)
             have n4_ := Aside0.mk (zK (by exact BK178.out) hb)
             have n5_ := Aside0.mk (zN (by repeat (first|(with_reducible first|exact HB.out|apply zI|apply zG|apply zH|refine zJ ?_ GE134.out|refine zJ ?_ GE135.out|refine zJ ?_ GE157.out|refine zJ ?_ GE158.out|refine zJ ?_ GE178.out)|exact HB.out)) hb)
             have n6_ := Aside0.mk (hbox)
             have n7_ := Aside0.mk ((by rw [hg];exact (below_size (by repeat (first|(with_reducible first|exact HB.out|apply zI|apply zG|apply zH|refine zJ ?_ GE134.out|refine zJ ?_ GE135.out|refine zJ ?_ GE157.out|refine zJ ?_ GE158.out|refine zJ ?_ GE178.out)|exact HB.out))) : w.heap.size ≤ gb179))
             have n8_ := Aside0.mk ((by rw [hg];exact (below_size (by repeat (first|(with_reducible first|exact HB.out|apply zI|apply zG|apply zH|refine zJ ?_ GE134.out|refine zJ ?_ GE135.out|refine zJ ?_ GE157.out|refine zJ ?_ GE158.out|refine zJ ?_ GE178.out)|exact HB.out))) : w.heap.size ≤ gb179))
             have n9_ := Aside0.mk ((by rw [hg];exact Nat.ne_of_lt (blk_lt (g := gb134) (o := .cells #[.int .i64 a0_0,.int .i64 a0_1,.string a0_2] 63 (0,0)) (by (with_reducible repeat (first|refine zA ?_ _|refine zC ?_|refine zB ?_ _));exact BK134.out)) : gb134 ≠ gb179))
             have n10_ := Aside0.mk ((by rw [hg];exact Nat.ne_of_gt (blk_lt (g := gb134) (o := .cells #[.int .i64 a0_0,.int .i64 a0_1,.string a0_2] 63 (0,0)) (by (with_reducible repeat (first|refine zA ?_ _|refine zC ?_|refine zB ?_ _));exact BK134.out)) : gb179 ≠ gb134))
             have n11_ := Aside0.mk ((by rw [hg];exact Nat.ne_of_lt (blk_lt (g := gb135) (o := .cells #[.int .i64 a1_0,.int .i64 a1_1,.int .i64 a1_2,.int .i64 a1_3,.int .i64 a1_4,.string a1_5] 64 (0,0)) (by (with_reducible repeat (first|refine zA ?_ _|refine zC ?_|refine zB ?_ _));exact BK135.out)) : gb135 ≠ gb179))
             have n12_ := Aside0.mk ((by rw [hg];exact Nat.ne_of_gt (blk_lt (g := gb135) (o := .cells #[.int .i64 a1_0,.int .i64 a1_1,.int .i64 a1_2,.int .i64 a1_3,.int .i64 a1_4,.string a1_5] 64 (0,0)) (by (with_reducible repeat (first|refine zA ?_ _|refine zC ?_|refine zB ?_ _));exact BK135.out)) : gb179 ≠ gb135))
             have n13_ := Aside0.mk ((by rw [hg];exact Nat.ne_of_lt (blk_lt (g := gb157) (o := .cells #[.int .i64 t147,.int .i64 t148,.string t149] 67 (0,0)) (by (with_reducible repeat (first|refine zA ?_ _|refine zC ?_|refine zB ?_ _));exact BK157.out)) : gb157 ≠ gb179))
             have n14_ := Aside0.mk ((by rw [hg];exact Nat.ne_of_gt (blk_lt (g := gb157) (o := .cells #[.int .i64 t147,.int .i64 t148,.string t149] 67 (0,0)) (by (with_reducible repeat (first|refine zA ?_ _|refine zC ?_|refine zB ?_ _));exact BK157.out)) : gb179 ≠ gb157))
             have n15_ := Aside0.mk ((by rw [hg];exact Nat.ne_of_lt (blk_lt (g := gb158) (o := .cells #[.int .i64 t150,.int .i64 t151,.int .i64 t152,.int .i64 t153,.int .i64 t154,.string t155] 61 (0,0)) (by (with_reducible repeat (first|refine zA ?_ _|refine zC ?_|refine zB ?_ _));exact BK158.out)) : gb158 ≠ gb179))
             have n16_ := Aside0.mk ((by rw [hg];exact Nat.ne_of_gt (blk_lt (g := gb158) (o := .cells #[.int .i64 t150,.int .i64 t151,.int .i64 t152,.int .i64 t153,.int .i64 t154,.string t155] 61 (0,0)) (by (with_reducible repeat (first|refine zA ?_ _|refine zC ?_|refine zB ?_ _));exact BK158.out)) : gb179 ≠ gb158))
             have n17_ := Aside0.mk ((by rw [hg];exact Nat.ne_of_lt (blk_lt (g := gb178) (o := .cells #[.int .i64 0,.int .i64 0,.string (⟨#[]⟩ : ByteArray)] 67 (0,0)) (by (with_reducible repeat (first|refine zA ?_ _|refine zC ?_|refine zB ?_ _));exact BK178.out)) : gb178 ≠ gb179))
             have n18_ := Aside0.mk ((by rw [hg];exact Nat.ne_of_gt (blk_lt (g := gb178) (o := .cells #[.int .i64 0,.int .i64 0,.string (⟨#[]⟩ : ByteArray)] 67 (0,0)) (by (with_reducible repeat (first|refine zA ?_ _|refine zC ?_|refine zB ?_ _));exact BK178.out)) : gb179 ≠ gb178))
             clear BK134
             clear BK135
             clear BK157
             clear BK158
             clear BK178
             clear HB
             have BK134 := n0_
             have BK135 := n1_
             have BK157 := n2_
             have BK158 := n3_
             have BK178 := n4_
             have HB := n5_
             have BK179 := n6_
             have GW179 := n7_
             have GE179 := n8_
             have NB134_179 := n9_
             have NB179_134 := n10_
             have NB135_179 := n11_
             have NB179_135 := n12_
             have NB157_179 := n13_
             have NB179_157 := n14_
             have NB158_179 := n15_
             have NB179_158 := n16_
             have NB178_179 := n17_
             have NB179_178 := n18_
             clear n0_ n1_ n2_ n3_ n4_ n5_ n6_ n7_ n8_ n9_ n10_ n11_ n12_ n13_ n14_ n15_ n16_ n17_ n18_
             clear hb hbox hg
             refine hK.out _ _ ⟨(zO BK134.out 0).trans rfl,(zO BK134.out 1).trans rfl,(zO BK134.out 2).trans rfl,(zO BK135.out 0).trans rfl,(zO BK135.out 1).trans rfl,(zO BK135.out 2).trans rfl,(zO BK135.out 3).trans rfl,(zO BK135.out 4).trans rfl,(zO BK135.out 5).trans rfl⟩ (fun hHeld => ?_)
             clear hK K
             refine norm_ (a' := ?_) ?_ ?_
             rotate_left
             ·show Act.put _ (some 10) _ = _
              simp only [Act.put,List.setIfInBounds_toArray,List.set_cons_zero,List.set_cons_succ,i64_w,i32_w]
              rfl
             exact norm_ (by first|(simp only [putAll,Act.put,List.setIfInBounds_toArray,List.set_cons_zero,List.set_cons_succ];done)|(simp only [putAll,Act.put,List.setIfInBounds_toArray,List.set_cons_zero,List.set_cons_succ];rfl)) (hJ1_9_10 (gb178,gb179) _ ⟨hHeld,(by (with_reducible repeat (first|refine zA ?_ _|refine zC ?_|refine zB ?_ _));exact BK134.out),(by (with_reducible repeat (first|refine zA ?_ _|refine zC ?_|refine zB ?_ _));exact BK135.out),(by (with_reducible repeat (first|refine zA ?_ _|refine zC ?_|refine zB ?_ _));exact BK157.out),(by (with_reducible repeat (first|refine zA ?_ _|refine zC ?_|refine zB ?_ _));exact BK158.out),(by (with_reducible repeat (first|refine zA ?_ _|refine zC ?_|refine zB ?_ _));exact BK178.out),(by (with_reducible repeat (first|refine zA ?_ _|refine zC ?_|refine zB ?_ _));exact BK179.out),GW178.out,GE178.out,NB134_178.out,NB178_134.out,NB135_178.out,NB178_135.out,NB157_178.out,NB178_157.out,NB158_178.out,NB178_158.out,NB179_178.out,NB178_179.out,GW179.out,GE179.out,NB134_179.out,NB179_134.out,NB135_179.out,NB179_135.out,NB157_179.out,NB179_157.out,NB158_179.out,NB179_158.out,(by repeat (first|(with_reducible first|exact HB.out|apply zI|apply zG|apply zH|refine zJ ?_ GE134.out|refine zJ ?_ GE135.out|refine zJ ?_ GE157.out|refine zJ ?_ GE158.out|refine zJ ?_ GE178.out|refine zJ ?_ GE179.out)|exact HB.out))⟩)
          ·skip
           rintro _ w117 ⟨hS_,h0_,h1_,h2_,h3_,h4_⟩
           have n0_ : Aside0 (w117.heap[gb134]? = some (.cells #[.int .i64 a0_0,.int .i64 a0_1,.string a0_2] 63 (0,0))) := ⟨h0_⟩
           have n1_ : Aside0 (w117.heap[gb135]? = some (.cells #[.int .i64 a1_0,.int .i64 a1_1,.int .i64 a1_2,.int .i64 a1_3,.int .i64 a1_4,.string a1_5] 64 (0,0))) := ⟨h1_⟩
           have n2_ : Aside0 (w117.heap[gb157]? = some (.cells #[.int .i64 t147,.int .i64 t148,.string t149] 67 (0,0))) := ⟨h2_⟩
           have n3_ : Aside0 (w117.heap[gb158]? = some (.cells #[.int .i64 t150,.int .i64 t151,.int .i64 t152,.int .i64 t153,.int .i64 t154,.string t155] 61 (0,0))) := ⟨h3_⟩
           have n4_ : Aside0 (Below w.heap.size w w117) := ⟨h4_⟩
           clear BK134
           clear BK135
           clear BK157
           clear BK158
           clear HB
           clear h0_ h1_ h2_ h3_ h4_
           have BK134 := n0_
           have BK135 := n1_
           have BK157 := n2_
           have BK158 := n3_
           have HB := n4_
           clear n0_ n1_ n2_ n3_ n4_
           have hHeld : w117.cell? ⟨gb134,0,none⟩ = some (.int .i64 a0_0) ∧ w117.cell? ⟨gb134,1,none⟩ = some (.int .i64 a0_1) ∧ w117.cell? ⟨gb134,2,none⟩ = some (.string a0_2) ∧ w117.cell? ⟨gb135,0,none⟩ = some (.int .i64 a1_0) ∧ w117.cell? ⟨gb135,1,none⟩ = some (.int .i64 a1_1) ∧ w117.cell? ⟨gb135,2,none⟩ = some (.int .i64 a1_2) ∧ w117.cell? ⟨gb135,3,none⟩ = some (.int .i64 a1_3) ∧ w117.cell? ⟨gb135,4,none⟩ = some (.int .i64 a1_4) ∧ w117.cell? ⟨gb135,5,none⟩ = some (.string a1_5) := hS_
           refine norm_ (a' := ?_) ?_ ?_
           rotate_left
           ·simp only [putAll,Act.put,List.setIfInBounds_toArray,List.set_cons_zero,List.set_cons_succ]
            rfl
           refine three_ (i := 4) (j := 9) (k := 10) (Ni := some 36) (Nj := some 9) (Nk := some 10) #[true,true,true,true,true,false,false,false,false,false,false,false,false,false] #[true,true,true,true,false,false,false,false,false,true,false,false,false,false] #[true,true,true,true,false,false,false,false,false,false,true,false,false,false] rfl rfl rfl rfl rfl rfl (three_of HT_.out (by kernel_rfl)) (by decide) (by decide) (by decide) (fun K hK => ?_) (fun K hK => ?_) (fun K hK => ?_)
           ·skip
            refine goes_ Try.func49 (by kernel_rfl) rfl #[.agg #[.int .i64 t159,.int .i64 t160,.string t161],.agg #[.int .i64 t162,.int .i64 t163,.int .i64 t164,.int .i64 t165,.int .i64 t166,.string t167]] (by rfl) rfl rfl (by (try simp only [List.map_toArray,List.map_cons,List.map_nil]);first|done|rfl|(simp only [List.length_drop,List.length_take];rfl)) ?_
            with_reducible refine (impl_HearNote.calls k t159 t160 t161 t162 t163 t164 t165 t166 t167 t168 t169 t170 t171 t172 t173 t174 t175 t176 t177 _ A24.out).mono ?_
            rintro e w118 ⟨rfl,hb⟩
            refine ⟨_,rfl,?_⟩
            have n0_ := Aside0.mk (zK (by exact BK134.out) hb)
            have n1_ := Aside0.mk (zK (by exact BK135.out) hb)
            have n2_ := Aside0.mk (zK (by exact BK157.out) hb)
            have n3_ := Aside0.mk (zK (by exact BK158.out) hb)
            have n4_ := Aside0.mk (zN (by repeat (first|(with_reducible first|exact HB.out|apply zI|apply zG|apply zH|refine zJ ?_ GE134.out|refine zJ ?_ GE135.out|refine zJ ?_ GE157.out|refine zJ ?_ GE158.out)|exact HB.out)) hb)
            clear BK134
            clear BK135
            clear BK157
            clear BK158
            clear HB
            have BK134 := n0_
            have BK135 := n1_
            have BK157 := n2_
            have BK158 := n3_
            have HB := n4_
            clear n0_ n1_ n2_ n3_ n4_
            (try clear hb)
            (try clear hb2)
            (try clear hk)
            (try clear hi)
            refine hK.out _ _ ⟨(zO BK134.out 0).trans rfl,(zO BK134.out 1).trans rfl,(zO BK134.out 2).trans rfl,(zO BK135.out 0).trans rfl,(zO BK135.out 1).trans rfl,(zO BK135.out 2).trans rfl,(zO BK135.out 3).trans rfl,(zO BK135.out 4).trans rfl,(zO BK135.out 5).trans rfl⟩ (fun hHeld => ?_)
            clear hK K
            refine norm_ (a' := ?_) ?_ ?_
            rotate_left
            ·show Act.put _ (some 36) _ = _
             simp only [Act.put,List.setIfInBounds_toArray,List.set_cons_zero,List.set_cons_succ,i64_w,i32_w]
             rfl
            refine pure_ (i := 5) (N := some 31) (v := ?_) (a' := ?_) #[true,true,true,true,true,true,false,false,false,false,false,false,false,false] rfl rfl (any_of HT_.out (by kernel_rfl)) (fun _ _ _ h => h) (Or.inl ⟨by rfl,?_⟩) ?_ ?_
            rotate_left
            ·intro w'
             go_simp
             with_reducible rfl
            rotate_left
            ·simp only [Act.put,List.setIfInBounds_toArray,List.set_cons_zero,List.set_cons_succ,i64_w,i32_w]
             rfl
            refine pure_ (i := 6) (N := some 37) (v := ?_) (a' := ?_) #[true,true,true,true,true,true,true,false,false,false,false,false,false,false] rfl rfl (any_of HT_.out (by kernel_rfl)) (fun _ _ _ h => h) (Or.inl ⟨by rfl,?_⟩) ?_ ?_
            rotate_left
            ·intro w'
             go_simp
             with_reducible rfl
            rotate_left
            ·simp only [Act.put,List.setIfInBounds_toArray,List.set_cons_zero,List.set_cons_succ,i64_w,i32_w]
             rfl
            refine pure_ (i := 7) (N := some 38) (v := ?_) (a' := ?_) #[true,true,true,true,true,true,true,true,false,false,false,false,false,false] rfl rfl (any_of HT_.out (by kernel_rfl)) (fun _ _ _ h => h) (Or.inl ⟨by rfl,?_⟩) ?_ ?_
            rotate_left
            ·intro w'
             go_simp
             with_reducible rfl
            rotate_left
            ·simp only [Act.put,List.setIfInBounds_toArray,List.set_cons_zero,List.set_cons_succ,i64_w,i32_w]
             rfl
            refine pure_ (i := 8) (N := some 39) (v := ?_) (a' := ?_) #[true,true,true,true,true,true,true,true,true,false,false,false,false,false] rfl rfl (any_of HT_.out (by kernel_rfl)) (fun _ _ _ h => h) (Or.inl ⟨by rfl,?_⟩) ?_ ?_
            rotate_left
            ·intro w'
             go_simp
             with_reducible rfl
            rotate_left
            ·simp only [Act.put,List.setIfInBounds_toArray,List.set_cons_zero,List.set_cons_succ,i64_w,i32_w]
             rfl
            exact norm_ (by first|(simp only [putAll,Act.put,List.setIfInBounds_toArray,List.set_cons_zero,List.set_cons_succ];done)|(simp only [putAll,Act.put,List.setIfInBounds_toArray,List.set_cons_zero,List.set_cons_succ];rfl)) (hJ1_3_4 () _ ⟨hHeld,(by (with_reducible repeat (first|refine zA ?_ _|refine zC ?_|refine zB ?_ _));exact BK134.out),(by (with_reducible repeat (first|refine zA ?_ _|refine zC ?_|refine zB ?_ _));exact BK135.out),(by (with_reducible repeat (first|refine zA ?_ _|refine zC ?_|refine zB ?_ _));exact BK157.out),(by (with_reducible repeat (first|refine zA ?_ _|refine zC ?_|refine zB ?_ _));exact BK158.out),(by repeat (first|(with_reducible first|exact HB.out|apply zI|apply zG|apply zH|refine zJ ?_ GE134.out|refine zJ ?_ GE135.out|refine zJ ?_ GE157.out|refine zJ ?_ GE158.out)|exact HB.out))⟩)
           ·skip
            refine box_step ?hg (N := 9) ?hd (cs := #[.int .i64 0,.int .i64 0,.string (⟨#[]⟩ : ByteArray)]) (t := 67) ?hr ?_;(case hd => rfl);(case hg => rfl);(case hr => first|(go_simp;done)|(go_simp;rfl))
            intro gb178 hg w118 hbox hb
            have n0_ := Aside0.mk (zK (by exact BK134.out) hb)
            have n1_ := Aside0.mk (zK (by exact BK135.out) hb)
            have n2_ := Aside0.mk (zK (by exact BK157.out) hb)
            have n3_ := Aside0.mk (zK (by exact BK158.out) hb)
            have n4_ := Aside0.mk (zN (by repeat (first|(with_reducible first|exact HB.out|apply zI|apply zG|apply zH|refine zJ ?_ GE134.out|refine zJ ?_ GE135.out|refine zJ ?_ GE157.out|refine zJ ?_ GE158.out)|exact HB.out)) hb)
            have n5_ := Aside0.mk (hbox)
            have n6_ := Aside0.mk ((by rw [hg];exact (below_size (by repeat (first|(with_reducible first|exact HB.out|apply zI|apply zG|apply zH|refine zJ ?_ GE134.out|refine zJ ?_ GE135.out|refine zJ ?_ GE157.out|refine zJ ?_ GE158.out)|exact HB.out))) : w.heap.size ≤ gb178))
            have n7_ := Aside0.mk ((by rw [hg];exact (below_size (by repeat (first|(with_reducible first|exact HB.out|apply zI|apply zG|apply zH|refine zJ ?_ GE134.out|refine zJ ?_ GE135.out|refine zJ ?_ GE157.out|refine zJ ?_ GE158.out)|exact HB.out))) : w.heap.size ≤ gb178))
            have n8_ := Aside0.mk ((by rw [hg];exact Nat.ne_of_lt (blk_lt (g := gb134) (o := .cells #[.int .i64 a0_0,.int .i64 a0_1,.string a0_2] 63 (0,0)) (by (with_reducible repeat (first|refine zA ?_ _|refine zC ?_|refine zB ?_ _));exact BK134.out)) : gb134 ≠ gb178))
            have n9_ := Aside0.mk ((by rw [hg];exact Nat.ne_of_gt (blk_lt (g := gb134) (o := .cells #[.int .i64 a0_0,.int .i64 a0_1,.string a0_2] 63 (0,0)) (by (with_reducible repeat (first|refine zA ?_ _|refine zC ?_|refine zB ?_ _));exact BK134.out)) : gb178 ≠ gb134))
            have n10_ := Aside0.mk ((by rw [hg];exact Nat.ne_of_lt (blk_lt (g := gb135) (o := .cells #[.int .i64 a1_0,.int .i64 a1_1,.int .i64 a1_2,.int .i64 a1_3,.int .i64 a1_4,.string a1_5] 64 (0,0)) (by (with_reducible repeat (first|refine zA ?_ _|refine zC ?_|refine zB ?_ _));exact BK135.out)) : gb135 ≠ gb178))
            have n11_ := Aside0.mk ((by rw [hg];exact Nat.ne_of_gt (blk_lt (g := gb135) (o := .cells #[.int .i64 a1_0,.int .i64 a1_1,.int .i64 a1_2,.int .i64 a1_3,.int .i64 a1_4,.string a1_5] 64 (0,0)) (by (with_reducible repeat (first|refine zA ?_ _|refine zC ?_|refine zB ?_ _));exact BK135.out)) : gb178 ≠ gb135))
            have n12_ := Aside0.mk ((by rw [hg];exact Nat.ne_of_lt (blk_lt (g := gb157) (o := .cells #[.int .i64 t147,.int .i64 t148,.string t149] 67 (0,0)) (by (with_reducible repeat (first|refine zA ?_ _|refine zC ?_|refine zB ?_ _));exact BK157.out)) : gb157 ≠ gb178))
            have n13_ := Aside0.mk ((by rw [hg];exact Nat.ne_of_gt (blk_lt (g := gb157) (o := .cells #[.int .i64 t147,.int .i64 t148,.string t149] 67 (0,0)) (by (with_reducible repeat (first|refine zA ?_ _|refine zC ?_|refine zB ?_ _));exact BK157.out)) : gb178 ≠ gb157))
            have n14_ := Aside0.mk ((by rw [hg];exact Nat.ne_of_lt (blk_lt (g := gb158) (o := .cells #[.int .i64 t150,.int .i64 t151,.int .i64 t152,.int .i64 t153,.int .i64 t154,.string t155] 61 (0,0)) (by (with_reducible repeat (first|refine zA ?_ _|refine zC ?_|refine zB ?_ _));exact BK158.out)) : gb158 ≠ gb178))
            have n15_ := Aside0.mk ((by rw [hg];exact Nat.ne_of_gt (blk_lt (g := gb158) (o := .cells #[.int .i64 t150,.int .i64 t151,.int .i64 t152,.int .i64 t153,.int .i64 t154,.string t155] 61 (0,0)) (by (with_reducible repeat (first|refine zA ?_ _|refine zC ?_|refine zB ?_ _));exact BK158.out)) : gb178 ≠ gb158))
            clear BK134
            clear BK135
            clear BK157
            clear BK158
            clear HB
            have BK134 := n0_
            have BK135 := n1_
            have BK157 := n2_
            have BK158 := n3_
            have HB := n4_
            have BK178 := n5_
            have GW178 := n6_
            have GE178 := n7_
            have NB134_178 := n8_
            have NB178_134 := n9_
            have NB135_178 := n10_
            have NB178_135 := n11_
            have NB157_178 := n12_
            have NB178_157 := n13_
            have NB158_178 := n14_
            have NB178_158 := n15_
            clear n0_ n1_ n2_ n3_ n4_ n5_ n6_ n7_ n8_ n9_ n10_ n11_ n12_ n13_ n14_ n15_
            clear hb hbox hg
            refine hK.out _ _ ⟨(zO BK134.out 0).trans rfl,(zO BK134.out 1).trans rfl,(zO BK134.out 2).trans rfl,(zO BK135.out 0).trans rfl,(zO BK135.out 1).trans rfl,(zO BK135.out 2).trans rfl,(zO BK135.out 3).trans rfl,(zO BK135.out 4).trans rfl,(zO BK135.out 5).trans rfl⟩ (fun hHeld => ?_)
            clear hK K
            refine norm_ (a' := ?_) ?_ ?_
            rotate_left
            ·show Act.put _ (some 9) _ = _
             simp only [Act.put,List.setIfInBounds_toArray,List.set_cons_zero,List.set_cons_succ,i64_w,i32_w]
             rfl
            exact norm_ (by first|(simp only [putAll,Act.put,List.setIfInBounds_toArray,List.set_cons_zero,List.set_cons_succ];done)|(simp only [putAll,Act.put,List.setIfInBounds_toArray,List.set_cons_zero,List.set_cons_succ];rfl)) (hJ1_3_9 (gb178) _ ⟨hHeld,(by (with_reducible repeat (first|refine zA ?_ _|refine zC ?_|refine zB ?_ _));exact BK134.out),(by (with_reducible repeat (first|refine zA ?_ _|refine zC ?_|refine zB ?_ _));exact BK135.out),(by (with_reducible repeat (first|refine zA ?_ _|refine zC ?_|refine zB ?_ _));exact BK157.out),(by (with_reducible repeat (first|refine zA ?_ _|refine zC ?_|refine zB ?_ _));exact BK158.out),(by (with_reducible repeat (first|refine zA ?_ _|refine zC ?_|refine zB ?_ _));exact BK178.out),GW178.out,GE178.out,NB134_178.out,NB178_134.out,NB135_178.out,NB178_135.out,NB157_178.out,NB178_157.out,NB158_178.out,NB178_158.out,(by repeat (first|(with_reducible first|exact HB.out|apply zI|apply zG|apply zH|refine zJ ?_ GE134.out|refine zJ ?_ GE135.out|refine zJ ?_ GE157.out|refine zJ ?_ GE158.out|refine zJ ?_ GE178.out)|exact HB.out))⟩)
           ·skip
            refine box_step ?hg (N := 10) ?hd (cs := #[.int .i64 0,.int .i64 0,.int .i64 0,.int .i64 0,.int .i64 0,.string (⟨#[]⟩ : ByteArray)]) (t := 61) ?hr ?_;(case hd => rfl);(case hg => rfl);(case hr => first|(go_simp;done)|(go_simp;rfl))
            intro gb179 hg w118 hbox hb
            have n0_ := Aside0.mk (zK (by exact BK134.out) hb)
            have n1_ := Aside0.mk (zK (by exact BK135.out) hb)
            have n2_ := Aside0.mk (zK (by exact BK157.out) hb)
            have n3_ := Aside0.mk (zK (by exact BK158.out) hb)
            have n4_ := Aside0.mk (zN (by repeat (first|(with_reducible first|exact HB.out|apply zI|apply zG|apply zH|refine zJ ?_ GE134.out|refine zJ ?_ GE135.out|refine zJ ?_ GE157.out|refine zJ ?_ GE158.out)|exact HB.out)) hb)
            have n5_ := Aside0.mk (hbox)
            have n6_ := Aside0.mk ((by rw [hg];exact (below_size (by repeat (first|(with_reducible first|exact HB.out|apply zI|apply zG|apply zH|refine zJ ?_ GE134.out|refine zJ ?_ GE135.out|refine zJ ?_ GE157.out|refine zJ ?_ GE158.out)|exact HB.out))) : w.heap.size ≤ gb179))
            have n7_ := Aside0.mk ((by rw [hg];exact (below_size (by repeat (first|(with_reducible first|exact HB.out|apply zI|apply zG|apply zH|refine zJ ?_ GE134.out|refine zJ ?_ GE135.out|refine zJ ?_ GE157.out|refine zJ ?_ GE158.out)|exact HB.out))) : w.heap.size ≤ gb179))
            have n8_ := Aside0.mk ((by rw [hg];exact Nat.ne_of_lt (blk_lt (g := gb134) (o := .cells #[.int .i64 a0_0,.int .i64 a0_1,.string a0_2] 63 (0,0)) (by (with_reducible repeat (first|refine zA ?_ _|refine zC ?_|refine zB ?_ _));exact BK134.out)) : gb134 ≠ gb179))
            have n9_ := Aside0.mk ((by rw [hg];exact Nat.ne_of_gt (blk_lt (g := gb134) (o := .cells #[.int .i64 a0_0,.int .i64 a0_1,.string a0_2] 63 (0,0)) (by (with_reducible repeat (first|refine zA ?_ _|refine zC ?_|refine zB ?_ _));exact BK134.out)) : gb179 ≠ gb134))
            have n10_ := Aside0.mk ((by rw [hg];exact Nat.ne_of_lt (blk_lt (g := gb135) (o := .cells #[.int .i64 a1_0,.int .i64 a1_1,.int .i64 a1_2,.int .i64 a1_3,.int .i64 a1_4,.string a1_5] 64 (0,0)) (by (with_reducible repeat (first|refine zA ?_ _|refine zC ?_|refine zB ?_ _));exact BK135.out)) : gb135 ≠ gb179))
            have n11_ := Aside0.mk ((by rw [hg];exact Nat.ne_of_gt (blk_lt (g := gb135) (o := .cells #[.int .i64 a1_0,.int .i64 a1_1,.int .i64 a1_2,.int .i64 a1_3,.int .i64 a1_4,.string a1_5] 64 (0,0)) (by (with_reducible repeat (first|refine zA ?_ _|refine zC ?_|refine zB ?_ _));exact BK135.out)) : gb179 ≠ gb135))
            have n12_ := Aside0.mk ((by rw [hg];exact Nat.ne_of_lt (blk_lt (g := gb157) (o := .cells #[.int .i64 t147,.int .i64 t148,.string t149] 67 (0,0)) (by (with_reducible repeat (first|refine zA ?_ _|refine zC ?_|refine zB ?_ _));exact BK157.out)) : gb157 ≠ gb179))
            have n13_ := Aside0.mk ((by rw [hg];exact Nat.ne_of_gt (blk_lt (g := gb157) (o := .cells #[.int .i64 t147,.int .i64 t148,.string t149] 67 (0,0)) (by (with_reducible repeat (first|refine zA ?_ _|refine zC ?_|refine zB ?_ _));exact BK157.out)) : gb179 ≠ gb157))
            have n14_ := Aside0.mk ((by rw [hg];exact Nat.ne_of_lt (blk_lt (g := gb158) (o := .cells #[.int .i64 t150,.int .i64 t151,.int .i64 t152,.int .i64 t153,.int .i64 t154,.string t155] 61 (0,0)) (by (with_reducible repeat (first|refine zA ?_ _|refine zC ?_|refine zB ?_ _));exact BK158.out)) : gb158 ≠ gb179))
            have n15_ := Aside0.mk ((by rw [hg];exact Nat.ne_of_gt (blk_lt (g := gb158) (o := .cells #[.int .i64 t150,.int .i64 t151,.int .i64 t152,.int .i64 t153,.int .i64 t154,.string t155] 61 (0,0)) (by (with_reducible repeat (first|refine zA ?_ _|refine zC ?_|refine zB ?_ _));exact BK158.out)) : gb179 ≠ gb158))
            clear BK134
            clear BK135
            clear BK157
            clear BK158
            clear HB
            have BK134 := n0_
            have BK135 := n1_
            have BK157 := n2_
            have BK158 := n3_
            have HB := n4_
            have BK179 := n5_
            have GW179 := n6_
            have GE179 := n7_
            have NB134_179 := n8_
            have NB179_134 := n9_
            have NB135_179 := n10_
            have NB179_135 := n11_
            have NB157_179 := n12_
            have NB179_157 := n13_
            have NB158_179 := n14_
            have NB179_158 := n15_
            clear n0_ n1_ n2_ n3_ n4_ n5_ n6_ n7_ n8_ n9_ n10_ n11_ n12_ n13_ n14_ n15_
            clear hb hbox hg
            refine hK.out _ _ ⟨(zO BK134.out 0).trans rfl,(zO BK134.out 1).trans rfl,(zO BK134.out 2).trans rfl,(zO BK135.out 0).trans rfl,(zO BK135.out 1).trans rfl,(zO BK135.out 2).trans rfl,(zO BK135.out 3).trans rfl,(zO BK135.out 4).trans rfl,(zO BK135.out 5).trans rfl⟩ (fun hHeld => ?_)
            clear hK K
            refine norm_ (a' := ?_) ?_ ?_
            rotate_left
            ·show Act.put _ (some 10) _ = _
             simp only [Act.put,List.setIfInBounds_toArray,List.set_cons_zero,List.set_cons_succ,i64_w,i32_w]
             rfl
            exact norm_ (by first|(simp only [putAll,Act.put,List.setIfInBounds_toArray,List.set_cons_zero,List.set_cons_succ];done)|(simp only [putAll,Act.put,List.setIfInBounds_toArray,List.set_cons_zero,List.set_cons_succ];rfl)) (hJ1_3_10 (gb179) _ ⟨hHeld,(by (with_reducible repeat (first|refine zA ?_ _|refine zC ?_|refine zB ?_ _));exact BK134.out),(by (with_reducible repeat (first|refine zA ?_ _|refine zC ?_|refine zB ?_ _));exact BK135.out),(by (with_reducible repeat (first|refine zA ?_ _|refine zC ?_|refine zB ?_ _));exact BK157.out),(by (with_reducible repeat (first|refine zA ?_ _|refine zC ?_|refine zB ?_ _));exact BK158.out),(by (with_reducible repeat (first|refine zA ?_ _|refine zC ?_|refine zB ?_ _));exact BK179.out),GW179.out,GE179.out,NB134_179.out,NB179_134.out,NB135_179.out,NB179_135.out,NB157_179.out,NB179_157.out,NB158_179.out,NB179_158.out,(by repeat (first|(with_reducible first|exact HB.out|apply zI|apply zG|apply zH|refine zJ ?_ GE134.out|refine zJ ?_ GE135.out|refine zJ ?_ GE157.out|refine zJ ?_ GE158.out|refine zJ ?_ GE179.out)|exact HB.out))⟩)
         ·skip
          rintro ⟨gb178,gb179⟩ w118 ⟨hS_,h0_,h1_,h2_,h3_,h4_,h5_,h6_,h7_,h8_,h9_,h10_,h11_,h12_,h13_,h14_,h15_,h16_,h17_,h18_,h19_,h20_,h21_,h22_,h23_,h24_,h25_,h26_,h27_,h28_⟩
          have n0_ : Aside0 (w118.heap[gb134]? = some (.cells #[.int .i64 a0_0,.int .i64 a0_1,.string a0_2] 63 (0,0))) := ⟨h0_⟩
          have n1_ : Aside0 (w118.heap[gb135]? = some (.cells #[.int .i64 a1_0,.int .i64 a1_1,.int .i64 a1_2,.int .i64 a1_3,.int .i64 a1_4,.string a1_5] 64 (0,0))) := ⟨h1_⟩
          have n2_ : Aside0 (w118.heap[gb157]? = some (.cells #[.int .i64 t147,.int .i64 t148,.string t149] 67 (0,0))) := ⟨h2_⟩
          have n3_ : Aside0 (w118.heap[gb158]? = some (.cells #[.int .i64 t150,.int .i64 t151,.int .i64 t152,.int .i64 t153,.int .i64 t154,.string t155] 61 (0,0))) := ⟨h3_⟩
          have n4_ : Aside0 (w118.heap[gb178]? = some (.cells #[.int .i64 0,.int .i64 0,.string (⟨#[]⟩ : ByteArray)] 67 (0,0))) := ⟨h4_⟩
          have n5_ : Aside0 (w118.heap[gb179]? = some (.cells #[.int .i64 0,.int .i64 0,.int .i64 0,.int .i64 0,.int .i64 0,.string (⟨#[]⟩ : ByteArray)] 61 (0,0))) := ⟨h5_⟩
          have n6_ : Aside0 (w.heap.size ≤ gb178) := ⟨h6_⟩
          have n7_ : Aside0 (w.heap.size ≤ gb178) := ⟨h7_⟩
          have n8_ : Aside0 (gb134 ≠ gb178) := ⟨h8_⟩
          have n9_ : Aside0 (gb178 ≠ gb134) := ⟨h9_⟩
          have n10_ : Aside0 (gb135 ≠ gb178) := ⟨h10_⟩
          have n11_ : Aside0 (gb178 ≠ gb135) := ⟨h11_⟩
          have n12_ : Aside0 (gb157 ≠ gb178) := ⟨h12_⟩
          have n13_ : Aside0 (gb178 ≠ gb157) := ⟨h13_⟩
          have n14_ : Aside0 (gb158 ≠ gb178) := ⟨h14_⟩
          have n15_ : Aside0 (gb178 ≠ gb158) := ⟨h15_⟩
          have n16_ : Aside0 (gb179 ≠ gb178) := ⟨h16_⟩
          have n17_ : Aside0 (gb178 ≠ gb179) := ⟨h17_⟩
          have n18_ : Aside0 (w.heap.size ≤ gb179) := ⟨h18_⟩
          have n19_ : Aside0 (w.heap.size ≤ gb179) := ⟨h19_⟩
          have n20_ : Aside0 (gb134 ≠ gb179) := ⟨h20_⟩
          have n21_ : Aside0 (gb179 ≠ gb134) := ⟨h21_⟩
          have n22_ : Aside0 (gb135 ≠ gb179) := ⟨h22_⟩
          have n23_ : Aside0 (gb179 ≠ gb135) := ⟨h23_⟩
          have n24_ : Aside0 (gb157 ≠ gb179) := ⟨h24_⟩
          have n25_ : Aside0 (gb179 ≠ gb157) := ⟨h25_⟩
          have n26_ : Aside0 (gb158 ≠ gb179) := ⟨h26_⟩
          have n27_ : Aside0 (gb179 ≠ gb158) := ⟨h27_⟩
          have n28_ : Aside0 (Below w.heap.size w w118) := ⟨h28_⟩
          clear BK134
          clear BK135
          clear BK157
          clear BK158
          clear HB
          clear h0_ h1_ h2_ h3_ h4_ h5_ h6_ h7_ h8_ h9_ h10_ h11_ h12_ h13_ h14_ h15_ h16_ h17_ h18_ h19_ h20_ h21_ h22_ h23_ h24_ h25_ h26_ h27_ h28_
          have BK134 := n0_
          have BK135 := n1_
          have BK157 := n2_
          have BK158 := n3_
          have BK178 := n4_
          have BK179 := n5_
          have GW178 := n6_
          have GE178 := n7_
          have NB134_178 := n8_
          have NB178_134 := n9_
          have NB135_178 := n10_
          have NB178_135 := n11_
          have NB157_178 := n12_
          have NB178_157 := n13_
          have NB158_178 := n14_
          have NB178_158 := n15_
          have NB179_178 := n16_
          have NB178_179 := n17_
          have GW179 := n18_
          have GE179 := n19_
          have NB134_179 := n20_
          have NB179_134 := n21_
          have NB135_179 := n22_
          have NB179_135 := n23_
          have NB157_179 := n24_
          have NB179_157 := n25_
          have NB158_179 := n26_
          have NB179_158 := n27_
          have HB := n28_
          clear n0_ n1_ n2_ n3_ n4_ n5_ n6_ n7_ n8_ n9_ n10_ n11_ n12_ n13_ n14_ n15_ n16_ n17_ n18_ n19_ n20_ n21_ n22_ n23_ n24_ n25_ n26_ n27_ n28_
          have hHeld : w118.cell? ⟨gb134,0,none⟩ = some (.int .i64 a0_0) ∧ w118.cell? ⟨gb134,1,none⟩ = some (.int .i64 a0_1) ∧ w118.cell? ⟨gb134,2,none⟩ = some (.string a0_2) ∧ w118.cell? ⟨gb135,0,none⟩ = some (.int .i64 a1_0) ∧ w118.cell? ⟨gb135,1,none⟩ = some (.int .i64 a1_1) ∧ w118.cell? ⟨gb135,2,none⟩ = some (.int .i64 a1_2) ∧ w118.cell? ⟨gb135,3,none⟩ = some (.int .i64 a1_3) ∧ w118.cell? ⟨gb135,4,none⟩ = some (.int .i64 a1_4) ∧ w118.cell? ⟨gb135,5,none⟩ = some (.string a1_5) := hS_
          refine norm_ (a' := ?_) ?_ ?_
          rotate_left
          ·simp only [putAll,Act.put,List.setIfInBounds_toArray,List.set_cons_zero,List.set_cons_succ]
           rfl
          refine one_ (i := 3) (N := some 35) #[true,true,true,true,false,false,false,false,false,true,true,false,false,false] rfl rfl (one_of HT_.out (by kernel_rfl)) (by decide) (fun K hK => ?_)
          refine goes_ Try.func48 (by kernel_rfl) rfl #[.agg #[.int .i64 a1_0,.int .i64 a1_1,.int .i64 a1_2,.int .i64 a1_3,.int .i64 a1_4,.string a1_5]] (by rfl) rfl rfl (by (try simp only [List.map_toArray,List.map_cons,List.map_nil]);first|done|rfl|(simp only [List.length_drop,List.length_take];rfl)) ?_
          with_reducible refine (laws_toNote.calls a1_0 a1_1 a1_2 a1_3 a1_4 a1_5 t162 t163 t164 t165 t166 t167 _ A23.out).mono ?_
          rintro e w119 ⟨rfl,hb⟩
          refine ⟨_,rfl,?_⟩
          have n0_ := Aside0.mk (zK (by exact BK134.out) hb)
          have n1_ := Aside0.mk (zK (by exact BK135.out) hb)
          have n2_ := Aside0.mk (zK (by exact BK157.out) hb)
          have n3_ := Aside0.mk (zK (by exact BK158.out) hb)
          have n4_ := Aside0.mk (zK (by exact BK178.out) hb)
          have n5_ := Aside0.mk (zK (by exact BK179.out) hb)
          have n6_ := Aside0.mk (zN (by repeat (first|(with_reducible first|exact HB.out|apply zI|apply zG|apply zH|refine zJ ?_ GE134.out|refine zJ ?_ GE135.out|refine zJ ?_ GE157.out|refine zJ ?_ GE158.out|refine zJ ?_ GE178.out|refine zJ ?_ GE179.out)|exact HB.out)) hb)
          clear BK134
          clear BK135
          clear BK157
          clear BK158
          clear BK178
          clear BK179
          clear HB
          have BK134 := n0_
          have BK135 := n1_
          have BK157 := n2_
          have BK158 := n3_
          have BK178 := n4_
          have BK179 := n5_
          have HB := n6_
          clear n0_ n1_ n2_ n3_ n4_ n5_ n6_
          (try clear hb)
          (try clear hb2)
          (try clear hk)
          (try clear hi)
          refine hK.out _ _ ⟨(zO BK134.out 0).trans rfl,(zO BK134.out 1).trans rfl,(zO BK134.out 2).trans rfl,(zO BK135.out 0).trans rfl,(zO BK135.out 1).trans rfl,(zO BK135.out 2).trans rfl,(zO BK135.out 3).trans rfl,(zO BK135.out 4).trans rfl,(zO BK135.out 5).trans rfl⟩ (fun hHeld => ?_)
          clear hK K
          refine norm_ (a' := ?_) ?_ ?_
          rotate_left
          ·show Act.put _ (some 35) _ = _
           simp only [Act.put,List.setIfInBounds_toArray,List.set_cons_zero,List.set_cons_succ,i64_w,i32_w]
           rfl
          exact norm_ (by first|(simp only [putAll,Act.put,List.setIfInBounds_toArray,List.set_cons_zero,List.set_cons_succ];done)|(simp only [putAll,Act.put,List.setIfInBounds_toArray,List.set_cons_zero,List.set_cons_succ];rfl)) (hJ1_3_9_10 (gb178,gb179) _ ⟨hHeld,(by (with_reducible repeat (first|refine zA ?_ _|refine zC ?_|refine zB ?_ _));exact BK134.out),(by (with_reducible repeat (first|refine zA ?_ _|refine zC ?_|refine zB ?_ _));exact BK135.out),(by (with_reducible repeat (first|refine zA ?_ _|refine zC ?_|refine zB ?_ _));exact BK157.out),(by (with_reducible repeat (first|refine zA ?_ _|refine zC ?_|refine zB ?_ _));exact BK158.out),(by (with_reducible repeat (first|refine zA ?_ _|refine zC ?_|refine zB ?_ _));exact BK178.out),(by (with_reducible repeat (first|refine zA ?_ _|refine zC ?_|refine zB ?_ _));exact BK179.out),GW178.out,GE178.out,NB134_178.out,NB178_134.out,NB135_178.out,NB178_135.out,NB157_178.out,NB178_157.out,NB158_178.out,NB178_158.out,NB179_178.out,NB178_179.out,GW179.out,GE179.out,NB134_179.out,NB179_134.out,NB135_179.out,NB179_135.out,NB157_179.out,NB179_157.out,NB158_179.out,NB179_158.out,(by repeat (first|(with_reducible first|exact HB.out|apply zI|apply zG|apply zH|refine zJ ?_ GE134.out|refine zJ ?_ GE135.out|refine zJ ?_ GE157.out|refine zJ ?_ GE158.out|refine zJ ?_ GE178.out|refine zJ ?_ GE179.out)|exact HB.out))⟩)
        ·skip
         rintro gb179 w118 ⟨hS_,h0_,h1_,h2_,h3_,h4_,h5_,h6_,h7_,h8_,h9_,h10_,h11_,h12_,h13_,h14_,h15_⟩
         have n0_ : Aside0 (w118.heap[gb134]? = some (.cells #[.int .i64 a0_0,.int .i64 a0_1,.string a0_2] 63 (0,0))) := ⟨h0_⟩
         have n1_ : Aside0 (w118.heap[gb135]? = some (.cells #[.int .i64 a1_0,.int .i64 a1_1,.int .i64 a1_2,.int .i64 a1_3,.int .i64 a1_4,.string a1_5] 64 (0,0))) := ⟨h1_⟩
         have n2_ : Aside0 (w118.heap[gb157]? = some (.cells #[.int .i64 t147,.int .i64 t148,.string t149] 67 (0,0))) := ⟨h2_⟩
         have n3_ : Aside0 (w118.heap[gb158]? = some (.cells #[.int .i64 t150,.int .i64 t151,.int .i64 t152,.int .i64 t153,.int .i64 t154,.string t155] 61 (0,0))) := ⟨h3_⟩
         have n4_ : Aside0 (w118.heap[gb179]? = some (.cells #[.int .i64 0,.int .i64 0,.int .i64 0,.int .i64 0,.int .i64 0,.string (⟨#[]⟩ : ByteArray)] 61 (0,0))) := ⟨h4_⟩
         have n5_ : Aside0 (w.heap.size ≤ gb179) := ⟨h5_⟩
         have n6_ : Aside0 (w.heap.size ≤ gb179) := ⟨h6_⟩
         have n7_ : Aside0 (gb134 ≠ gb179) := ⟨h7_⟩
         have n8_ : Aside0 (gb179 ≠ gb134) := ⟨h8_⟩
         have n9_ : Aside0 (gb135 ≠ gb179) := ⟨h9_⟩
         have n10_ : Aside0 (gb179 ≠ gb135) := ⟨h10_⟩
         have n11_ : Aside0 (gb157 ≠ gb179) := ⟨h11_⟩
         have n12_ : Aside0 (gb179 ≠ gb157) := ⟨h12_⟩
         have n13_ : Aside0 (gb158 ≠ gb179) := ⟨h13_⟩
         have n14_ : Aside0 (gb179 ≠ gb158) := ⟨h14_⟩
         have n15_ : Aside0 (Below w.heap.size w w118) := ⟨h15_⟩
         clear BK134
         clear BK135
         clear BK157
         clear BK158
         clear HB
         clear h0_ h1_ h2_ h3_ h4_ h5_ h6_ h7_ h8_ h9_ h10_ h11_ h12_ h13_ h14_ h15_
         have BK134 := n0_
         have BK135 := n1_
         have BK157 := n2_
         have BK158 := n3_
         have BK179 := n4_
         have GW179 := n5_
         have GE179 := n6_
         have NB134_179 := n7_
         have NB179_134 := n8_
         have NB135_179 := n9_
         have NB179_135 := n10_
         have NB157_179 := n11_
         have NB179_157 := n12_
         have NB158_179 := n13_
         have NB179_158 := n14_
         have HB := n15_
         clear n0_ n1_ n2_ n3_ n4_ n5_ n6_ n7_ n8_ n9_ n10_ n11_ n12_ n13_ n14_ n15_
         have hHeld : w118.cell? ⟨gb134,0,none⟩ = some (.int .i64 a0_0) ∧ w118.cell? ⟨gb134,1,none⟩ = some (.int .i64 a0_1) ∧ w118.cell? ⟨gb134,2,none⟩ = some (.string a0_2) ∧ w118.cell? ⟨gb135,0,none⟩ = some (.int .i64 a1_0) ∧ w118.cell? ⟨gb135,1,none⟩ = some (.int .i64 a1_1) ∧ w118.cell? ⟨gb135,2,none⟩ = some (.int .i64 a1_2) ∧ w118.cell? ⟨gb135,3,none⟩ = some (.int .i64 a1_3) ∧ w118.cell? ⟨gb135,4,none⟩ = some (.int .i64 a1_4) ∧ w118.cell? ⟨gb135,5,none⟩ = some (.string a1_5) := hS_
         refine norm_ (a' := ?_) ?_ ?_
         rotate_left
         ·simp only [putAll,Act.put,List.setIfInBounds_toArray,List.set_cons_zero,List.set_cons_succ]
          rfl
         refine two_ (i := 4) (j := 9) (Ni := some 36) (Nj := some 9) #[true,true,true,true,true,false,false,false,false,false,true,false,false,false] #[true,true,true,true,false,false,false,false,false,true,true,false,false,false] rfl rfl rfl rfl (two_of HT_.out (by kernel_rfl)) (by decide) (by decide) (fun K hK => ?_) (fun K hK => ?_)
         ·skip
          refine goes_ Try.func49 (by kernel_rfl) rfl #[.agg #[.int .i64 t159,.int .i64 t160,.string t161],.agg #[.int .i64 t162,.int .i64 t163,.int .i64 t164,.int .i64 t165,.int .i64 t166,.string t167]] (by rfl) rfl rfl (by (try simp only [List.map_toArray,List.map_cons,List.map_nil]);first|done|rfl|(simp only [List.length_drop,List.length_take];rfl)) ?_
          with_reducible refine (impl_HearNote.calls k t159 t160 t161 t162 t163 t164 t165 t166 t167 t168 t169 t170 t171 t172 t173 t174 t175 t176 t177 _ A24.out).mono ?_
          rintro e w119 ⟨rfl,hb⟩
          refine ⟨_,rfl,?_⟩
          have n0_ := Aside0.mk (zK (by exact BK134.out) hb)
          have n1_ := Aside0.mk (zK (by exact BK135.out) hb)
          have n2_ := Aside0.mk (zK (by exact BK157.out) hb)
          have n3_ := Aside0.mk (zK (by exact BK158.out) hb)
          have n4_ := Aside0.mk (zK (by exact BK179.out) hb)
          have n5_ := Aside0.mk (zN (by repeat (first|(with_reducible first|exact HB.out|apply zI|apply zG|apply zH|refine zJ ?_ GE134.out|refine zJ ?_ GE135.out|refine zJ ?_ GE157.out|refine zJ ?_ GE158.out|refine zJ ?_ GE179.out)|exact HB.out)) hb)
          clear BK134
          clear BK135
          clear BK157
          clear BK158
          clear BK179
          clear HB
          have BK134 := n0_
          have BK135 := n1_
          have BK157 := n2_
          have BK158 := n3_
          have BK179 := n4_
          have HB := n5_
          clear n0_ n1_ n2_ n3_ n4_ n5_
          (try clear hb)
          (try clear hb2)
          (try clear hk)
          (try clear hi)
          refine hK.out _ _ ⟨(zO BK134.out 0).trans rfl,(zO BK134.out 1).trans rfl,(zO BK134.out 2).trans rfl,(zO BK135.out 0).trans rfl,(zO BK135.out 1).trans rfl,(zO BK135.out 2).trans rfl,(zO BK135.out 3).trans rfl,(zO BK135.out 4).trans rfl,(zO BK135.out 5).trans rfl⟩ (fun hHeld => ?_)
          clear hK K
          refine norm_ (a' := ?_) ?_ ?_
          rotate_left
          ·show Act.put _ (some 36) _ = _
           simp only [Act.put,List.setIfInBounds_toArray,List.set_cons_zero,List.set_cons_succ,i64_w,i32_w]
           rfl
          refine pure_ (i := 5) (N := some 31) (v := ?_) (a' := ?_) #[true,true,true,true,true,true,false,false,false,false,true,false,false,false] rfl rfl (any_of HT_.out (by kernel_rfl)) (fun _ _ _ h => h) (Or.inl ⟨by rfl,?_⟩) ?_ ?_
          rotate_left
          ·intro w'
           go_simp
           with_reducible rfl
          rotate_left
          ·simp only [Act.put,List.setIfInBounds_toArray,List.set_cons_zero,List.set_cons_succ,i64_w,i32_w]
           rfl
          refine pure_ (i := 6) (N := some 37) (v := ?_) (a' := ?_) #[true,true,true,true,true,true,true,false,false,false,true,false,false,false] rfl rfl (any_of HT_.out (by kernel_rfl)) (fun _ _ _ h => h) (Or.inl ⟨by rfl,?_⟩) ?_ ?_
          rotate_left
          ·intro w'
           go_simp
           with_reducible rfl
          rotate_left
          ·simp only [Act.put,List.setIfInBounds_toArray,List.set_cons_zero,List.set_cons_succ,i64_w,i32_w]
           rfl
          refine pure_ (i := 7) (N := some 38) (v := ?_) (a' := ?_) #[true,true,true,true,true,true,true,true,false,false,true,false,false,false] rfl rfl (any_of HT_.out (by kernel_rfl)) (fun _ _ _ h => h) (Or.inl ⟨by rfl,?_⟩) ?_ ?_
          rotate_left
          ·intro w'
           go_simp
           with_reducible rfl
          rotate_left
          ·simp only [Act.put,List.setIfInBounds_toArray,List.set_cons_zero,List.set_cons_succ,i64_w,i32_w]
           rfl
          refine pure_ (i := 8) (N := some 39) (v := ?_) (a' := ?_) #[true,true,true,true,true,true,true,true,true,false,true,false,false,false] rfl rfl (any_of HT_.out (by kernel_rfl)) (fun _ _ _ h => h) (Or.inl ⟨by rfl,?_⟩) ?_ ?_
          rotate_left
          ·intro w'
           go_simp
           with_reducible rfl
          rotate_left
          ·simp only [Act.put,List.setIfInBounds_toArray,List.set_cons_zero,List.set_cons_succ,i64_w,i32_w]
           rfl
          exact norm_ (by first|(simp only [putAll,Act.put,List.setIfInBounds_toArray,List.set_cons_zero,List.set_cons_succ];done)|(simp only [putAll,Act.put,List.setIfInBounds_toArray,List.set_cons_zero,List.set_cons_succ];rfl)) (hJ1_3_4_10 (gb179) _ ⟨hHeld,(by (with_reducible repeat (first|refine zA ?_ _|refine zC ?_|refine zB ?_ _));exact BK134.out),(by (with_reducible repeat (first|refine zA ?_ _|refine zC ?_|refine zB ?_ _));exact BK135.out),(by (with_reducible repeat (first|refine zA ?_ _|refine zC ?_|refine zB ?_ _));exact BK157.out),(by (with_reducible repeat (first|refine zA ?_ _|refine zC ?_|refine zB ?_ _));exact BK158.out),(by (with_reducible repeat (first|refine zA ?_ _|refine zC ?_|refine zB ?_ _));exact BK179.out),GW179.out,GE179.out,NB134_179.out,NB179_134.out,NB135_179.out,NB179_135.out,NB157_179.out,NB179_157.out,NB158_179.out,NB179_158.out,(by repeat (first|(with_reducible first|exact HB.out|apply zI|apply zG|apply zH|refine zJ ?_ GE134.out|refine zJ ?_ GE135.out|refine zJ ?_ GE157.out|refine zJ ?_ GE158.out|refine zJ ?_ GE179.out)|exact HB.out))⟩)
         ·skip
          refine box_step ?hg (N := 9) ?hd (cs := #[.int .i64 0,.int .i64 0,.string (⟨#[]⟩ : ByteArray)]) (t := 67) ?hr ?_;(case hd => rfl);(case hg => rfl);(case hr => first|(go_simp;done)|(go_simp;rfl))
          intro gb178 hg w119 hbox hb
          have n0_ := Aside0.mk (zK (by exact BK134.out) hb)
          have n1_ := Aside0.mk (zK (by exact BK135.out) hb)
          have n2_ := Aside0.mk (zK (by exact BK157.out) hb)
          have n3_ := Aside0.mk (zK (by exact BK158.out) hb)
          have n4_ := Aside0.mk (zK (by exact BK179.out) hb)
          have n5_ := Aside0.mk (zN (by repeat (first|(with_reducible first|exact HB.out|apply zI|apply zG|apply zH|refine zJ ?_ GE134.out|refine zJ ?_ GE135.out|refine zJ ?_ GE157.out|refine zJ ?_ GE158.out|refine zJ ?_ GE179.out)|exact HB.out)) hb)
          have n6_ := Aside0.mk (hbox)
          have n7_ := Aside0.mk ((by rw [hg];exact (below_size (by repeat (first|(with_reducible first|exact HB.out|apply zI|apply zG|apply zH|refine zJ ?_ GE134.out|refine zJ ?_ GE135.out|refine zJ ?_ GE157.out|refine zJ ?_ GE158.out|refine zJ ?_ GE179.out)|exact HB.out))) : w.heap.size ≤ gb178))
          have n8_ := Aside0.mk ((by rw [hg];exact (below_size (by repeat (first|(with_reducible first|exact HB.out|apply zI|apply zG|apply zH|refine zJ ?_ GE134.out|refine zJ ?_ GE135.out|refine zJ ?_ GE157.out|refine zJ ?_ GE158.out|refine zJ ?_ GE179.out)|exact HB.out))) : w.heap.size ≤ gb178))
          have n9_ := Aside0.mk ((by rw [hg];exact Nat.ne_of_lt (blk_lt (g := gb134) (o := .cells #[.int .i64 a0_0,.int .i64 a0_1,.string a0_2] 63 (0,0)) (by (with_reducible repeat (first|refine zA ?_ _|refine zC ?_|refine zB ?_ _));exact BK134.out)) : gb134 ≠ gb178))
          have n10_ := Aside0.mk ((by rw [hg];exact Nat.ne_of_gt (blk_lt (g := gb134) (o := .cells #[.int .i64 a0_0,.int .i64 a0_1,.string a0_2] 63 (0,0)) (by (with_reducible repeat (first|refine zA ?_ _|refine zC ?_|refine zB ?_ _));exact BK134.out)) : gb178 ≠ gb134))
          have n11_ := Aside0.mk ((by rw [hg];exact Nat.ne_of_lt (blk_lt (g := gb135) (o := .cells #[.int .i64 a1_0,.int .i64 a1_1,.int .i64 a1_2,.int .i64 a1_3,.int .i64 a1_4,.string a1_5] 64 (0,0)) (by (with_reducible repeat (first|refine zA ?_ _|refine zC ?_|refine zB ?_ _));exact BK135.out)) : gb135 ≠ gb178))
          have n12_ := Aside0.mk ((by rw [hg];exact Nat.ne_of_gt (blk_lt (g := gb135) (o := .cells #[.int .i64 a1_0,.int .i64 a1_1,.int .i64 a1_2,.int .i64 a1_3,.int .i64 a1_4,.string a1_5] 64 (0,0)) (by (with_reducible repeat (first|refine zA ?_ _|refine zC ?_|refine zB ?_ _));exact BK135.out)) : gb178 ≠ gb135))
          have n13_ := Aside0.mk ((by rw [hg];exact Nat.ne_of_lt (blk_lt (g := gb157) (o := .cells #[.int .i64 t147,.int .i64 t148,.string t149] 67 (0,0)) (by (with_reducible repeat (first|refine zA ?_ _|refine zC ?_|refine zB ?_ _));exact BK157.out)) : gb157 ≠ gb178))
          have n14_ := Aside0.mk ((by rw [hg];exact Nat.ne_of_gt (blk_lt (g := gb157) (o := .cells #[.int .i64 t147,.int .i64 t148,.string t149] 67 (0,0)) (by (with_reducible repeat (first|refine zA ?_ _|refine zC ?_|refine zB ?_ _));exact BK157.out)) : gb178 ≠ gb157))
          have n15_ := Aside0.mk ((by rw [hg];exact Nat.ne_of_lt (blk_lt (g := gb158) (o := .cells #[.int .i64 t150,.int .i64 t151,.int .i64 t152,.int .i64 t153,.int .i64 t154,.string t155] 61 (0,0)) (by (with_reducible repeat (first|refine zA ?_ _|refine zC ?_|refine zB ?_ _));exact BK158.out)) : gb158 ≠ gb178))
          have n16_ := Aside0.mk ((by rw [hg];exact Nat.ne_of_gt (blk_lt (g := gb158) (o := .cells #[.int .i64 t150,.int .i64 t151,.int .i64 t152,.int .i64 t153,.int .i64 t154,.string t155] 61 (0,0)) (by (with_reducible repeat (first|refine zA ?_ _|refine zC ?_|refine zB ?_ _));exact BK158.out)) : gb178 ≠ gb158))
          have n17_ := Aside0.mk ((by rw [hg];exact Nat.ne_of_lt (blk_lt (g := gb179) (o := .cells #[.int .i64 0,.int .i64 0,.int .i64 0,.int .i64 0,.int .i64 0,.string (⟨#[]⟩ : ByteArray)] 61 (0,0)) (by (with_reducible repeat (first|refine zA ?_ _|refine zC ?_|refine zB ?_ _));exact BK179.out)) : gb179 ≠ gb178))
          have n18_ := Aside0.mk ((by rw [hg];exact Nat.ne_of_gt (blk_lt (g := gb179) (o := .cells #[.int .i64 0,.int .i64 0,.int .i64 0,.int .i64 0,.int .i64 0,.string (⟨#[]⟩ : ByteArray)] 61 (0,0)) (by (with_reducible repeat (first|refine zA ?_ _|refine zC ?_|refine zB ?_ _));exact BK179.out)) : gb178 ≠ gb179))
          clear BK134
          clear BK135
          clear BK157
          clear BK158
          clear BK179
          clear HB
          have BK134 := n0_
          have BK135 := n1_
          have BK157 := n2_
          have BK158 := n3_
          have BK179 := n4_
          have HB := n5_
          have BK178 := n6_
          have GW178 := n7_
          have GE178 := n8_
          have NB134_178 := n9_
          have NB178_134 := n10_
          have NB135_178 := n11_
          have NB178_135 := n12_
          have NB157_178 := n13_
          have NB178_157 := n14_
          have NB158_178 := n15_
          have NB178_158 := n16_
          have NB179_178 := n17_
          have NB178_179 := n18_
          clear n0_ n1_ n2_ n3_ n4_ n5_ n6_ n7_ n8_ n9_ n10_ n11_ n12_ n13_ n14_ n15_ n16_ n17_ n18_
          clear hb hbox hg
          refine hK.out _ _ ⟨(zO BK134.out 0).trans rfl,(zO BK134.out 1).trans rfl,(zO BK134.out 2).trans rfl,(zO BK135.out 0).trans rfl,(zO BK135.out 1).trans rfl,(zO BK135.out 2).trans rfl,(zO BK135.out 3).trans rfl,(zO BK135.out 4).trans rfl,(zO BK135.out 5).trans rfl⟩ (fun hHeld => ?_)
          clear hK K
          refine norm_ (a' := ?_) ?_ ?_
          rotate_left
          ·show Act.put _ (some 9) _ = _
           simp only [Act.put,List.setIfInBounds_toArray,List.set_cons_zero,List.set_cons_succ,i64_w,i32_w]
           rfl
          exact norm_ (by first|(simp only [putAll,Act.put,List.setIfInBounds_toArray,List.set_cons_zero,List.set_cons_succ];done)|(simp only [putAll,Act.put,List.setIfInBounds_toArray,List.set_cons_zero,List.set_cons_succ];rfl)) (hJ1_3_9_10 (gb178,gb179) _ ⟨hHeld,(by (with_reducible repeat (first|refine zA ?_ _|refine zC ?_|refine zB ?_ _));exact BK134.out),(by (with_reducible repeat (first|refine zA ?_ _|refine zC ?_|refine zB ?_ _));exact BK135.out),(by (with_reducible repeat (first|refine zA ?_ _|refine zC ?_|refine zB ?_ _));exact BK157.out),(by (with_reducible repeat (first|refine zA ?_ _|refine zC ?_|refine zB ?_ _));exact BK158.out),(by (with_reducible repeat (first|refine zA ?_ _|refine zC ?_|refine zB ?_ _));exact BK178.out),(by (with_reducible repeat (first|refine zA ?_ _|refine zC ?_|refine zB ?_ _));exact BK179.out),GW178.out,GE178.out,NB134_178.out,NB178_134.out,NB135_178.out,NB178_135.out,NB157_178.out,NB178_157.out,NB158_178.out,NB178_158.out,NB179_178.out,NB178_179.out,GW179.out,GE179.out,NB134_179.out,NB179_134.out,NB135_179.out,NB179_135.out,NB157_179.out,NB179_157.out,NB158_179.out,NB179_158.out,(by repeat (first|(with_reducible first|exact HB.out|apply zI|apply zG|apply zH|refine zJ ?_ GE134.out|refine zJ ?_ GE135.out|refine zJ ?_ GE157.out|refine zJ ?_ GE158.out|refine zJ ?_ GE179.out|refine zJ ?_ GE178.out)|exact HB.out))⟩)
       ·skip
        rintro gb178 w118 ⟨hS_,h0_,h1_,h2_,h3_,h4_,h5_,h6_,h7_,h8_,h9_,h10_,h11_,h12_,h13_,h14_,h15_⟩
        have n0_ : Aside0 (w118.heap[gb134]? = some (.cells #[.int .i64 a0_0,.int .i64 a0_1,.string a0_2] 63 (0,0))) := ⟨h0_⟩
        have n1_ : Aside0 (w118.heap[gb135]? = some (.cells #[.int .i64 a1_0,.int .i64 a1_1,.int .i64 a1_2,.int .i64 a1_3,.int .i64 a1_4,.string a1_5] 64 (0,0))) := ⟨h1_⟩
        have n2_ : Aside0 (w118.heap[gb157]? = some (.cells #[.int .i64 t147,.int .i64 t148,.string t149] 67 (0,0))) := ⟨h2_⟩
        have n3_ : Aside0 (w118.heap[gb158]? = some (.cells #[.int .i64 t150,.int .i64 t151,.int .i64 t152,.int .i64 t153,.int .i64 t154,.string t155] 61 (0,0))) := ⟨h3_⟩
        have n4_ : Aside0 (w118.heap[gb178]? = some (.cells #[.int .i64 0,.int .i64 0,.string (⟨#[]⟩ : ByteArray)] 67 (0,0))) := ⟨h4_⟩
        have n5_ : Aside0 (w.heap.size ≤ gb178) := ⟨h5_⟩
        have n6_ : Aside0 (w.heap.size ≤ gb178) := ⟨h6_⟩
        have n7_ : Aside0 (gb134 ≠ gb178) := ⟨h7_⟩
        have n8_ : Aside0 (gb178 ≠ gb134) := ⟨h8_⟩
        have n9_ : Aside0 (gb135 ≠ gb178) := ⟨h9_⟩
        have n10_ : Aside0 (gb178 ≠ gb135) := ⟨h10_⟩
        have n11_ : Aside0 (gb157 ≠ gb178) := ⟨h11_⟩
        have n12_ : Aside0 (gb178 ≠ gb157) := ⟨h12_⟩
        have n13_ : Aside0 (gb158 ≠ gb178) := ⟨h13_⟩
        have n14_ : Aside0 (gb178 ≠ gb158) := ⟨h14_⟩
        have n15_ : Aside0 (Below w.heap.size w w118) := ⟨h15_⟩
        clear BK134
        clear BK135
        clear BK157
        clear BK158
        clear HB
        clear h0_ h1_ h2_ h3_ h4_ h5_ h6_ h7_ h8_ h9_ h10_ h11_ h12_ h13_ h14_ h15_
        have BK134 := n0_
        have BK135 := n1_
        have BK157 := n2_
        have BK158 := n3_
        have BK178 := n4_
        have GW178 := n5_
        have GE178 := n6_
        have NB134_178 := n7_
        have NB178_134 := n8_
        have NB135_178 := n9_
        have NB178_135 := n10_
        have NB157_178 := n11_
        have NB178_157 := n12_
        have NB158_178 := n13_
        have NB178_158 := n14_
        have HB := n15_
        clear n0_ n1_ n2_ n3_ n4_ n5_ n6_ n7_ n8_ n9_ n10_ n11_ n12_ n13_ n14_ n15_
        have hHeld : w118.cell? ⟨gb134,0,none⟩ = some (.int .i64 a0_0) ∧ w118.cell? ⟨gb134,1,none⟩ = some (.int .i64 a0_1) ∧ w118.cell? ⟨gb134,2,none⟩ = some (.string a0_2) ∧ w118.cell? ⟨gb135,0,none⟩ = some (.int .i64 a1_0) ∧ w118.cell? ⟨gb135,1,none⟩ = some (.int .i64 a1_1) ∧ w118.cell? ⟨gb135,2,none⟩ = some (.int .i64 a1_2) ∧ w118.cell? ⟨gb135,3,none⟩ = some (.int .i64 a1_3) ∧ w118.cell? ⟨gb135,4,none⟩ = some (.int .i64 a1_4) ∧ w118.cell? ⟨gb135,5,none⟩ = some (.string a1_5) := hS_
        refine norm_ (a' := ?_) ?_ ?_
        rotate_left
        ·simp only [putAll,Act.put,List.setIfInBounds_toArray,List.set_cons_zero,List.set_cons_succ]
         rfl
        refine two_ (i := 4) (j := 10) (Ni := some 36) (Nj := some 10) #[true,true,true,true,true,false,false,false,false,true,false,false,false,false] #[true,true,true,true,false,false,false,false,false,true,true,false,false,false] rfl rfl rfl rfl (two_of HT_.out (by kernel_rfl)) (by decide) (by decide) (fun K hK => ?_) (fun K hK => ?_)
        ·skip
         refine goes_ Try.func49 (by kernel_rfl) rfl #[.agg #[.int .i64 t159,.int .i64 t160,.string t161],.agg #[.int .i64 t162,.int .i64 t163,.int .i64 t164,.int .i64 t165,.int .i64 t166,.string t167]] (by rfl) rfl rfl (by (try simp only [List.map_toArray,List.map_cons,List.map_nil]);first|done|rfl|(simp only [List.length_drop,List.length_take];rfl)) ?_
         with_reducible refine (impl_HearNote.calls k t159 t160 t161 t162 t163 t164 t165 t166 t167 t168 t169 t170 t171 t172 t173 t174 t175 t176 t177 _ A24.out).mono ?_
         rintro e w119 ⟨rfl,hb⟩
         refine ⟨_,rfl,?_⟩
         have n0_ := Aside0.mk (zK (by exact BK134.out) hb)
         have n1_ := Aside0.mk (zK (by exact BK135.out) hb)
         have n2_ := Aside0.mk (zK (by exact BK157.out) hb)
         have n3_ := Aside0.mk (zK (by exact BK158.out) hb)
         have n4_ := Aside0.mk (zK (by exact BK178.out) hb)
         have n5_ := Aside0.mk (zN (by repeat (first|(with_reducible first|exact HB.out|apply zI|apply zG|apply zH|refine zJ ?_ GE134.out|refine zJ ?_ GE135.out|refine zJ ?_ GE157.out|refine zJ ?_ GE158.out|refine zJ ?_ GE178.out)|exact HB.out)) hb)
         clear BK134
         clear BK135
         clear BK157
         clear BK158
         clear BK178
         clear HB
         have BK134 := n0_
         have BK135 := n1_
         have BK157 := n2_
         have BK158 := n3_
         have BK178 := n4_
         have HB := n5_
         clear n0_ n1_ n2_ n3_ n4_ n5_
         (try clear hb)
         (try clear hb2)
         (try clear hk)
         (try clear hi)
         refine hK.out _ _ ⟨(zO BK134.out 0).trans rfl,(zO BK134.out 1).trans rfl,(zO BK134.out 2).trans rfl,(zO BK135.out 0).trans rfl,(zO BK135.out 1).trans rfl,(zO BK135.out 2).trans rfl,(zO BK135.out 3).trans rfl,(zO BK135.out 4).trans rfl,(zO BK135.out 5).trans rfl⟩ (fun hHeld => ?_)
         clear hK K
         refine norm_ (a' := ?_) ?_ ?_
         rotate_left
         ·show Act.put _ (some 36) _ = _
          simp only [Act.put,List.setIfInBounds_toArray,List.set_cons_zero,List.set_cons_succ,i64_w,i32_w]
          rfl
         refine pure_ (i := 5) (N := some 31) (v := ?_) (a' := ?_) #[true,true,true,true,true,true,false,false,false,true,false,false,false,false] rfl rfl (any_of HT_.out (by kernel_rfl)) (fun _ _ _ h => h) (Or.inl ⟨by rfl,?_⟩) ?_ ?_
         rotate_left
         ·intro w'
          go_simp
          with_reducible rfl
         rotate_left
         ·simp only [Act.put,List.setIfInBounds_toArray,List.set_cons_zero,List.set_cons_succ,i64_w,i32_w]
          rfl
         refine pure_ (i := 6) (N := some 37) (v := ?_) (a' := ?_) #[true,true,true,true,true,true,true,false,false,true,false,false,false,false] rfl rfl (any_of HT_.out (by kernel_rfl)) (fun _ _ _ h => h) (Or.inl ⟨by rfl,?_⟩) ?_ ?_
         rotate_left
         ·intro w'
          go_simp
          with_reducible rfl
         rotate_left
         ·simp only [Act.put,List.setIfInBounds_toArray,List.set_cons_zero,List.set_cons_succ,i64_w,i32_w]
          rfl
         refine pure_ (i := 7) (N := some 38) (v := ?_) (a' := ?_) #[true,true,true,true,true,true,true,true,false,true,false,false,false,false] rfl rfl (any_of HT_.out (by kernel_rfl)) (fun _ _ _ h => h) (Or.inl ⟨by rfl,?_⟩) ?_ ?_
         rotate_left
         ·intro w'
          go_simp
          with_reducible rfl
         rotate_left
         ·simp only [Act.put,List.setIfInBounds_toArray,List.set_cons_zero,List.set_cons_succ,i64_w,i32_w]
          rfl
         refine pure_ (i := 8) (N := some 39) (v := ?_) (a' := ?_) #[true,true,true,true,true,true,true,true,true,true,false,false,false,false] rfl rfl (any_of HT_.out (by kernel_rfl)) (fun _ _ _ h => h) (Or.inl ⟨by rfl,?_⟩) ?_ ?_
         rotate_left
         ·intro w'
          go_simp
          with_reducible rfl
         rotate_left
         ·simp only [Act.put,List.setIfInBounds_toArray,List.set_cons_zero,List.set_cons_succ,i64_w,i32_w]
          rfl
         exact norm_ (by first|(simp only [putAll,Act.put,List.setIfInBounds_toArray,List.set_cons_zero,List.set_cons_succ];done)|(simp only [putAll,Act.put,List.setIfInBounds_toArray,List.set_cons_zero,List.set_cons_succ];rfl)) (hJ1_3_4_9 (gb178) _ ⟨hHeld,(by (with_reducible repeat (first|refine zA ?_ _|refine zC ?_|refine zB ?_ _));exact BK134.out),(by (with_reducible repeat (first|refine zA ?_ _|refine zC ?_|refine zB ?_ _));exact BK135.out),(by (with_reducible repeat (first|refine zA ?_ _|refine zC ?_|refine zB ?_ _));exact BK157.out),(by (with_reducible repeat (first|refine zA ?_ _|refine zC ?_|refine zB ?_ _));exact BK158.out),(by (with_reducible repeat (first|refine zA ?_ _|refine zC ?_|refine zB ?_ _));exact BK178.out),GW178.out,GE178.out,NB134_178.out,NB178_134.out,NB135_178.out,NB178_135.out,NB157_178.out,NB178_157.out,NB158_178.out,NB178_158.out,(by repeat (first|(with_reducible first|exact HB.out|apply zI|apply zG|apply zH|refine zJ ?_ GE134.out|refine zJ ?_ GE135.out|refine zJ ?_ GE157.out|refine zJ ?_ GE158.out|refine zJ ?_ GE178.out)|exact HB.out))⟩)
        ·skip
         refine box_step ?hg (N := 10) ?hd (cs := #[.int .i64 0,.int .i64 0,.int .i64 0,.int .i64 0,.int .i64 0,.string (⟨#[]⟩ : ByteArray)]) (t := 61) ?hr ?_;(case hd => rfl);(case hg => rfl);(case hr => first|(go_simp;done)|(go_simp;rfl))
         intro gb179 hg w119 hbox hb
         have n0_ := Aside0.mk (zK (by exact BK134.out) hb)
         have n1_ := Aside0.mk (zK (by exact BK135.out) hb)
         have n2_ := Aside0.mk (zK (by exact BK157.out) hb)
         have n3_ := Aside0.mk (zK (by exact BK158.out) hb)
         have n4_ := Aside0.mk (zK (by exact BK178.out) hb)
         have n5_ := Aside0.mk (zN (by repeat (first|(with_reducible first|exact HB.out|apply zI|apply zG|apply zH|refine zJ ?_ GE134.out|refine zJ ?_ GE135.out|refine zJ ?_ GE157.out|refine zJ ?_ GE158.out|refine zJ ?_ GE178.out)|exact HB.out)) hb)
         have n6_ := Aside0.mk (hbox)
         have n7_ := Aside0.mk ((by rw [hg];exact (below_size (by repeat (first|(with_reducible first|exact HB.out|apply zI|apply zG|apply zH|refine zJ ?_ GE134.out|refine zJ ?_ GE135.out|refine zJ ?_ GE157.out|refine zJ ?_ GE158.out|refine zJ ?_ GE178.out)|exact HB.out))) : w.heap.size ≤ gb179))
         have n8_ := Aside0.mk ((by rw [hg];exact (below_size (by repeat (first|(with_reducible first|exact HB.out|apply zI|apply zG|apply zH|refine zJ ?_ GE134.out|refine zJ ?_ GE135.out|refine zJ ?_ GE157.out|refine zJ ?_ GE158.out|refine zJ ?_ GE178.out)|exact HB.out))) : w.heap.size ≤ gb179))
         have n9_ := Aside0.mk ((by rw [hg];exact Nat.ne_of_lt (blk_lt (g := gb134) (o := .cells #[.int .i64 a0_0,.int .i64 a0_1,.string a0_2] 63 (0,0)) (by (with_reducible repeat (first|refine zA ?_ _|refine zC ?_|refine zB ?_ _));exact BK134.out)) : gb134 ≠ gb179))
         have n10_ := Aside0.mk ((by rw [hg];exact Nat.ne_of_gt (blk_lt (g := gb134) (o := .cells #[.int .i64 a0_0,.int .i64 a0_1,.string a0_2] 63 (0,0)) (by (with_reducible repeat (first|refine zA ?_ _|refine zC ?_|refine zB ?_ _));exact BK134.out)) : gb179 ≠ gb134))
         have n11_ := Aside0.mk ((by rw [hg];exact Nat.ne_of_lt (blk_lt (g := gb135) (o := .cells #[.int .i64 a1_0,.int .i64 a1_1,.int .i64 a1_2,.int .i64 a1_3,.int .i64 a1_4,.string a1_5] 64 (0,0)) (by (with_reducible repeat (first|refine zA ?_ _|refine zC ?_|refine zB ?_ _));exact BK135.out)) : gb135 ≠ gb179))
         have n12_ := Aside0.mk ((by rw [hg];exact Nat.ne_of_gt (blk_lt (g := gb135) (o := .cells #[.int .i64 a1_0,.int .i64 a1_1,.int .i64 a1_2,.int .i64 a1_3,.int .i64 a1_4,.string a1_5] 64 (0,0)) (by (with_reducible repeat (first|refine zA ?_ _|refine zC ?_|refine zB ?_ _));exact BK135.out)) : gb179 ≠ gb135))
         have n13_ := Aside0.mk ((by rw [hg];exact Nat.ne_of_lt (blk_lt (g := gb157) (o := .cells #[.int .i64 t147,.int .i64 t148,.string t149] 67 (0,0)) (by (with_reducible repeat (first|refine zA ?_ _|refine zC ?_|refine zB ?_ _));exact BK157.out)) : gb157 ≠ gb179))
         have n14_ := Aside0.mk ((by rw [hg];exact Nat.ne_of_gt (blk_lt (g := gb157) (o := .cells #[.int .i64 t147,.int .i64 t148,.string t149] 67 (0,0)) (by (with_reducible repeat (first|refine zA ?_ _|refine zC ?_|refine zB ?_ _));exact BK157.out)) : gb179 ≠ gb157))
         have n15_ := Aside0.mk ((by rw [hg];exact Nat.ne_of_lt (blk_lt (g := gb158) (o := .cells #[.int .i64 t150,.int .i64 t151,.int .i64 t152,.int .i64 t153,.int .i64 t154,.string t155] 61 (0,0)) (by (with_reducible repeat (first|refine zA ?_ _|refine zC ?_|refine zB ?_ _));exact BK158.out)) : gb158 ≠ gb179))
         have n16_ := Aside0.mk ((by rw [hg];exact Nat.ne_of_gt (blk_lt (g := gb158) (o := .cells #[.int .i64 t150,.int .i64 t151,.int .i64 t152,.int .i64 t153,.int .i64 t154,.string t155] 61 (0,0)) (by (with_reducible repeat (first|refine zA ?_ _|refine zC ?_|refine zB ?_ _));exact BK158.out)) : gb179 ≠ gb158))
         have n17_ := Aside0.mk ((by rw [hg];exact Nat.ne_of_lt (blk_lt (g := gb178) (o := .cells #[.int .i64 0,.int .i64 0,.string (⟨#[]⟩ : ByteArray)] 67 (0,0)) (by (with_reducible repeat (first|refine zA ?_ _|refine zC ?_|refine zB ?_ _));exact BK178.out)) : gb178 ≠ gb179))
         have n18_ := Aside0.mk ((by rw [hg];exact Nat.ne_of_gt (blk_lt (g := gb178) (o := .cells #[.int .i64 0,.int .i64 0,.string (⟨#[]⟩ : ByteArray)] 67 (0,0)) (by (with_reducible repeat (first|refine zA ?_ _|refine zC ?_|refine zB ?_ _));exact BK178.out)) : gb179 ≠ gb178))
         clear BK134
         clear BK135
         clear BK157
         clear BK158
         clear BK178
         clear HB
         have BK134 := n0_
         have BK135 := n1_
         have BK157 := n2_
         have BK158 := n3_
         have BK178 := n4_
         have HB := n5_
         have BK179 := n6_
         have GW179 := n7_
         have GE179 := n8_
         have NB134_179 := n9_
         have NB179_134 := n10_
         have NB135_179 := n11_
         have NB179_135 := n12_
         have NB157_179 := n13_
         have NB179_157 := n14_
         have NB158_179 := n15_
         have NB179_158 := n16_
         have NB178_179 := n17_
         have NB179_178 := n18_
         clear n0_ n1_ n2_ n3_ n4_ n5_ n6_ n7_ n8_ n9_ n10_ n11_ n12_ n13_ n14_ n15_ n16_ n17_ n18_
         clear hb hbox hg
         refine hK.out _ _ ⟨(zO BK134.out 0).trans rfl,(zO BK134.out 1).trans rfl,(zO BK134.out 2).trans rfl,(zO BK135.out 0).trans rfl,(zO BK135.out 1).trans rfl,(zO BK135.out 2).trans rfl,(zO BK135.out 3).trans rfl,(zO BK135.out 4).trans rfl,(zO BK135.out 5).trans rfl⟩ (fun hHeld => ?_)
         clear hK K
         refine norm_ (a' := ?_) ?_ ?_
         rotate_left
         ·show Act.put _ (some 10) _ = _
          simp only [Act.put,List.setIfInBounds_toArray,List.set_cons_zero,List.set_cons_succ,i64_w,i32_w]
          rfl
         exact norm_ (by first|(simp only [putAll,Act.put,List.setIfInBounds_toArray,List.set_cons_zero,List.set_cons_succ];done)|(simp only [putAll,Act.put,List.setIfInBounds_toArray,List.set_cons_zero,List.set_cons_succ];rfl)) (hJ1_3_9_10 (gb178,gb179) _ ⟨hHeld,(by (with_reducible repeat (first|refine zA ?_ _|refine zC ?_|refine zB ?_ _));exact BK134.out),(by (with_reducible repeat (first|refine zA ?_ _|refine zC ?_|refine zB ?_ _));exact BK135.out),(by (with_reducible repeat (first|refine zA ?_ _|refine zC ?_|refine zB ?_ _));exact BK157.out),(by (with_reducible repeat (first|refine zA ?_ _|refine zC ?_|refine zB ?_ _));exact BK158.out),(by (with_reducible repeat (first|refine zA ?_ _|refine zC ?_|refine zB ?_ _));exact BK178.out),(by (with_reducible repeat (first|refine zA ?_ _|refine zC ?_|refine zB ?_ _));exact BK179.out),GW178.out,GE178.out,NB134_178.out,NB178_134.out,NB135_178.out,NB178_135.out,NB157_178.out,NB178_157.out,NB158_178.out,NB178_158.out,NB179_178.out,NB178_179.out,GW179.out,GE179.out,NB134_179.out,NB179_134.out,NB135_179.out,NB179_135.out,NB157_179.out,NB179_157.out,NB158_179.out,NB179_158.out,(by repeat (first|(with_reducible first|exact HB.out|apply zI|apply zG|apply zH|refine zJ ?_ GE134.out|refine zJ ?_ GE135.out|refine zJ ?_ GE157.out|refine zJ ?_ GE158.out|refine zJ ?_ GE178.out|refine zJ ?_ GE179.out)|exact HB.out))⟩)
      ·skip
       rintro _ w118 ⟨hS_,h0_,h1_,h2_,h3_,h4_⟩
       have n0_ : Aside0 (w118.heap[gb134]? = some (.cells #[.int .i64 a0_0,.int .i64 a0_1,.string a0_2] 63 (0,0))) := ⟨h0_⟩
       have n1_ : Aside0 (w118.heap[gb135]? = some (.cells #[.int .i64 a1_0,.int .i64 a1_1,.int .i64 a1_2,.int .i64 a1_3,.int .i64 a1_4,.string a1_5] 64 (0,0))) := ⟨h1_⟩
       have n2_ : Aside0 (w118.heap[gb157]? = some (.cells #[.int .i64 t147,.int .i64 t148,.string t149] 67 (0,0))) := ⟨h2_⟩
       have n3_ : Aside0 (w118.heap[gb158]? = some (.cells #[.int .i64 t150,.int .i64 t151,.int .i64 t152,.int .i64 t153,.int .i64 t154,.string t155] 61 (0,0))) := ⟨h3_⟩
       have n4_ : Aside0 (Below w.heap.size w w118) := ⟨h4_⟩
       clear BK134
       clear BK135
       clear BK157
       clear BK158
       clear HB
       clear h0_ h1_ h2_ h3_ h4_
       have BK134 := n0_
       have BK135 := n1_
       have BK157 := n2_
       have BK158 := n3_
       have HB := n4_
       clear n0_ n1_ n2_ n3_ n4_
       have hHeld : w118.cell? ⟨gb134,0,none⟩ = some (.int .i64 a0_0) ∧ w118.cell? ⟨gb134,1,none⟩ = some (.int .i64 a0_1) ∧ w118.cell? ⟨gb134,2,none⟩ = some (.string a0_2) ∧ w118.cell? ⟨gb135,0,none⟩ = some (.int .i64 a1_0) ∧ w118.cell? ⟨gb135,1,none⟩ = some (.int .i64 a1_1) ∧ w118.cell? ⟨gb135,2,none⟩ = some (.int .i64 a1_2) ∧ w118.cell? ⟨gb135,3,none⟩ = some (.int .i64 a1_3) ∧ w118.cell? ⟨gb135,4,none⟩ = some (.int .i64 a1_4) ∧ w118.cell? ⟨gb135,5,none⟩ = some (.string a1_5) := hS_
       refine norm_ (a' := ?_) ?_ ?_
       rotate_left
       ·simp only [putAll,Act.put,List.setIfInBounds_toArray,List.set_cons_zero,List.set_cons_succ]
        rfl
       refine two_ (i := 9) (j := 10) (Ni := some 9) (Nj := some 10) #[true,true,true,true,true,true,true,true,true,true,false,false,false,false] #[true,true,true,true,true,true,true,true,true,false,true,false,false,false] rfl rfl rfl rfl (two_of HT_.out (by kernel_rfl)) (by decide) (by decide) (fun K hK => ?_) (fun K hK => ?_)
       ·skip
        refine box_step ?hg (N := 9) ?hd (cs := #[.int .i64 0,.int .i64 0,.string (⟨#[]⟩ : ByteArray)]) (t := 67) ?hr ?_;(case hd => rfl);(case hg => rfl);(case hr => first|(go_simp;done)|(go_simp;rfl))
        intro gb178 hg w119 hbox hb
        have n0_ := Aside0.mk (zK (by exact BK134.out) hb)
        have n1_ := Aside0.mk (zK (by exact BK135.out) hb)
        have n2_ := Aside0.mk (zK (by exact BK157.out) hb)
        have n3_ := Aside0.mk (zK (by exact BK158.out) hb)
        have n4_ := Aside0.mk (zN (by repeat (first|(with_reducible first|exact HB.out|apply zI|apply zG|apply zH|refine zJ ?_ GE134.out|refine zJ ?_ GE135.out|refine zJ ?_ GE157.out|refine zJ ?_ GE158.out)|exact HB.out)) hb)
        have n5_ := Aside0.mk (hbox)
        have n6_ := Aside0.mk ((by rw [hg];exact (below_size (by repeat (first|(with_reducible first|exact HB.out|apply zI|apply zG|apply zH|refine zJ ?_ GE134.out|refine zJ ?_ GE135.out|refine zJ ?_ GE157.out|refine zJ ?_ GE158.out)|exact HB.out))) : w.heap.size ≤ gb178))
        have n7_ := Aside0.mk ((by rw [hg];exact (below_size (by repeat (first|(with_reducible first|exact HB.out|apply zI|apply zG|apply zH|refine zJ ?_ GE134.out|refine zJ ?_ GE135.out|refine zJ ?_ GE157.out|refine zJ ?_ GE158.out)|exact HB.out))) : w.heap.size ≤ gb178))
        have n8_ := Aside0.mk ((by rw [hg];exact Nat.ne_of_lt (blk_lt (g := gb134) (o := .cells #[.int .i64 a0_0,.int .i64 a0_1,.string a0_2] 63 (0,0)) (by (with_reducible repeat (first|refine zA ?_ _|refine zC ?_|refine zB ?_ _));exact BK134.out)) : gb134 ≠ gb178))
        have n9_ := Aside0.mk ((by rw [hg];exact Nat.ne_of_gt (blk_lt (g := gb134) (o := .cells #[.int .i64 a0_0,.int .i64 a0_1,.string a0_2] 63 (0,0)) (by (with_reducible repeat (first|refine zA ?_ _|refine zC ?_|refine zB ?_ _));exact BK134.out)) : gb178 ≠ gb134))
        have n10_ := Aside0.mk ((by rw [hg];exact Nat.ne_of_lt (blk_lt (g := gb135) (o := .cells #[.int .i64 a1_0,.int .i64 a1_1,.int .i64 a1_2,.int .i64 a1_3,.int .i64 a1_4,.string a1_5] 64 (0,0)) (by (with_reducible repeat (first|refine zA ?_ _|refine zC ?_|refine zB ?_ _));exact BK135.out)) : gb135 ≠ gb178))
        have n11_ := Aside0.mk ((by rw [hg];exact Nat.ne_of_gt (blk_lt (g := gb135) (o := .cells #[.int .i64 a1_0,.int .i64 a1_1,.int .i64 a1_2,.int .i64 a1_3,.int .i64 a1_4,.string a1_5] 64 (0,0)) (by (with_reducible repeat (first|refine zA ?_ _|refine zC ?_|refine zB ?_ _));exact BK135.out)) : gb178 ≠ gb135))
        have n12_ := Aside0.mk ((by rw [hg];exact Nat.ne_of_lt (blk_lt (g := gb157) (o := .cells #[.int .i64 t147,.int .i64 t148,.string t149] 67 (0,0)) (by (with_reducible repeat (first|refine zA ?_ _|refine zC ?_|refine zB ?_ _));exact BK157.out)) : gb157 ≠ gb178))
        have n13_ := Aside0.mk ((by rw [hg];exact Nat.ne_of_gt (blk_lt (g := gb157) (o := .cells #[.int .i64 t147,.int .i64 t148,.string t149] 67 (0,0)) (by (with_reducible repeat (first|refine zA ?_ _|refine zC ?_|refine zB ?_ _));exact BK157.out)) : gb178 ≠ gb157))
        have n14_ := Aside0.mk ((by rw [hg];exact Nat.ne_of_lt (blk_lt (g := gb158) (o := .cells #[.int .i64 t150,.int .i64 t151,.int .i64 t152,.int .i64 t153,.int .i64 t154,.string t155] 61 (0,0)) (by (with_reducible repeat (first|refine zA ?_ _|refine zC ?_|refine zB ?_ _));exact BK158.out)) : gb158 ≠ gb178))
        have n15_ := Aside0.mk ((by rw [hg];exact Nat.ne_of_gt (blk_lt (g := gb158) (o := .cells #[.int .i64 t150,.int .i64 t151,.int .i64 t152,.int .i64 t153,.int .i64 t154,.string t155] 61 (0,0)) (by (with_reducible repeat (first|refine zA ?_ _|refine zC ?_|refine zB ?_ _));exact BK158.out)) : gb178 ≠ gb158))
        clear BK134
        clear BK135
        clear BK157
        clear BK158
        clear HB
        have BK134 := n0_
        have BK135 := n1_
        have BK157 := n2_
        have BK158 := n3_
        have HB := n4_
        have BK178 := n5_
        have GW178 := n6_
        have GE178 := n7_
        have NB134_178 := n8_
        have NB178_134 := n9_
        have NB135_178 := n10_
        have NB178_135 := n11_
        have NB157_178 := n12_
        have NB178_157 := n13_
        have NB158_178 := n14_
        have NB178_158 := n15_
        clear n0_ n1_ n2_ n3_ n4_ n5_ n6_ n7_ n8_ n9_ n10_ n11_ n12_ n13_ n14_ n15_
        clear hb hbox hg
        refine hK.out _ _ ⟨(zO BK134.out 0).trans rfl,(zO BK134.out 1).trans rfl,(zO BK134.out 2).trans rfl,(zO BK135.out 0).trans rfl,(zO BK135.out 1).trans rfl,(zO BK135.out 2).trans rfl,(zO BK135.out 3).trans rfl,(zO BK135.out 4).trans rfl,(zO BK135.out 5).trans rfl⟩ (fun hHeld => ?_)
        clear hK K
        refine norm_ (a' := ?_) ?_ ?_
        rotate_left
        ·show Act.put _ (some 9) _ = _
         simp only [Act.put,List.setIfInBounds_toArray,List.set_cons_zero,List.set_cons_succ,i64_w,i32_w]
         rfl
        exact norm_ (by first|(simp only [putAll,Act.put,List.setIfInBounds_toArray,List.set_cons_zero,List.set_cons_succ];done)|(simp only [putAll,Act.put,List.setIfInBounds_toArray,List.set_cons_zero,List.set_cons_succ];rfl)) (hJ1_3_4_9 (gb178) _ ⟨hHeld,(by (with_reducible repeat (first|refine zA ?_ _|refine zC ?_|refine zB ?_ _));exact BK134.out),(by (with_reducible repeat (first|refine zA ?_ _|refine zC ?_|refine zB ?_ _));exact BK135.out),(by (with_reducible repeat (first|refine zA ?_ _|refine zC ?_|refine zB ?_ _));exact BK157.out),(by (with_reducible repeat (first|refine zA ?_ _|refine zC ?_|refine zB ?_ _));exact BK158.out),(by (with_reducible repeat (first|refine zA ?_ _|refine zC ?_|refine zB ?_ _));exact BK178.out),GW178.out,GE178.out,NB134_178.out,NB178_134.out,NB135_178.out,NB178_135.out,NB157_178.out,NB178_157.out,NB158_178.out,NB178_158.out,(by repeat (first|(with_reducible first|exact HB.out|apply zI|apply zG|apply zH|refine zJ ?_ GE134.out|refine zJ ?_ GE135.out|refine zJ ?_ GE157.out|refine zJ ?_ GE158.out|refine zJ ?_ GE178.out)|exact HB.out))⟩)
       ·skip
        refine box_step ?hg (N := 10) ?hd (cs := #[.int .i64 0,.int .i64 0,.int .i64 0,.int .i64 0,.int .i64 0,.string (⟨#[]⟩ : ByteArray)]) (t := 61) ?hr ?_;(case hd => rfl);(case hg => rfl);(case hr => first|(go_simp;done)|(go_simp;rfl))
        intro gb179 hg w119 hbox hb
        have n0_ := Aside0.mk (zK (by exact BK134.out) hb)
        have n1_ := Aside0.mk (zK (by exact BK135.out) hb)
        have n2_ := Aside0.mk (zK (by exact BK157.out) hb)
        have n3_ := Aside0.mk (zK (by exact BK158.out) hb)
        have n4_ := Aside0.mk (zN (by repeat (first|(with_reducible first|exact HB.out|apply zI|apply zG|apply zH|refine zJ ?_ GE134.out|refine zJ ?_ GE135.out|refine zJ ?_ GE157.out|refine zJ ?_ GE158.out)|exact HB.out)) hb)
        have n5_ := Aside0.mk (hbox)
        have n6_ := Aside0.mk ((by rw [hg];exact (below_size (by repeat (first|(with_reducible first|exact HB.out|apply zI|apply zG|apply zH|refine zJ ?_ GE134.out|refine zJ ?_ GE135.out|refine zJ ?_ GE157.out|refine zJ ?_ GE158.out)|exact HB.out))) : w.heap.size ≤ gb179))
        have n7_ := Aside0.mk ((by rw [hg];exact (below_size (by repeat (first|(with_reducible first|exact HB.out|apply zI|apply zG|apply zH|refine zJ ?_ GE134.out|refine zJ ?_ GE135.out|refine zJ ?_ GE157.out|refine zJ ?_ GE158.out)|exact HB.out))) : w.heap.size ≤ gb179))
        have n8_ := Aside0.mk ((by rw [hg];exact Nat.ne_of_lt (blk_lt (g := gb134) (o := .cells #[.int .i64 a0_0,.int .i64 a0_1,.string a0_2] 63 (0,0)) (by (with_reducible repeat (first|refine zA ?_ _|refine zC ?_|refine zB ?_ _));exact BK134.out)) : gb134 ≠ gb179))
        have n9_ := Aside0.mk ((by rw [hg];exact Nat.ne_of_gt (blk_lt (g := gb134) (o := .cells #[.int .i64 a0_0,.int .i64 a0_1,.string a0_2] 63 (0,0)) (by (with_reducible repeat (first|refine zA ?_ _|refine zC ?_|refine zB ?_ _));exact BK134.out)) : gb179 ≠ gb134))
        have n10_ := Aside0.mk ((by rw [hg];exact Nat.ne_of_lt (blk_lt (g := gb135) (o := .cells #[.int .i64 a1_0,.int .i64 a1_1,.int .i64 a1_2,.int .i64 a1_3,.int .i64 a1_4,.string a1_5] 64 (0,0)) (by (with_reducible repeat (first|refine zA ?_ _|refine zC ?_|refine zB ?_ _));exact BK135.out)) : gb135 ≠ gb179))
        have n11_ := Aside0.mk ((by rw [hg];exact Nat.ne_of_gt (blk_lt (g := gb135) (o := .cells #[.int .i64 a1_0,.int .i64 a1_1,.int .i64 a1_2,.int .i64 a1_3,.int .i64 a1_4,.string a1_5] 64 (0,0)) (by (with_reducible repeat (first|refine zA ?_ _|refine zC ?_|refine zB ?_ _));exact BK135.out)) : gb179 ≠ gb135))
        have n12_ := Aside0.mk ((by rw [hg];exact Nat.ne_of_lt (blk_lt (g := gb157) (o := .cells #[.int .i64 t147,.int .i64 t148,.string t149] 67 (0,0)) (by (with_reducible repeat (first|refine zA ?_ _|refine zC ?_|refine zB ?_ _));exact BK157.out)) : gb157 ≠ gb179))
        have n13_ := Aside0.mk ((by rw [hg];exact Nat.ne_of_gt (blk_lt (g := gb157) (o := .cells #[.int .i64 t147,.int .i64 t148,.string t149] 67 (0,0)) (by (with_reducible repeat (first|refine zA ?_ _|refine zC ?_|refine zB ?_ _));exact BK157.out)) : gb179 ≠ gb157))
        have n14_ := Aside0.mk ((by rw [hg];exact Nat.ne_of_lt (blk_lt (g := gb158) (o := .cells #[.int .i64 t150,.int .i64 t151,.int .i64 t152,.int .i64 t153,.int .i64 t154,.string t155] 61 (0,0)) (by (with_reducible repeat (first|refine zA ?_ _|refine zC ?_|refine zB ?_ _));exact BK158.out)) : gb158 ≠ gb179))
        have n15_ := Aside0.mk ((by rw [hg];exact Nat.ne_of_gt (blk_lt (g := gb158) (o := .cells #[.int .i64 t150,.int .i64 t151,.int .i64 t152,.int .i64 t153,.int .i64 t154,.string t155] 61 (0,0)) (by (with_reducible repeat (first|refine zA ?_ _|refine zC ?_|refine zB ?_ _));exact BK158.out)) : gb179 ≠ gb158))
        clear BK134
        clear BK135
        clear BK157
        clear BK158
        clear HB
        have BK134 := n0_
        have BK135 := n1_
        have BK157 := n2_
        have BK158 := n3_
        have HB := n4_
        have BK179 := n5_
        have GW179 := n6_
        have GE179 := n7_
        have NB134_179 := n8_
        have NB179_134 := n9_
        have NB135_179 := n10_
        have NB179_135 := n11_
        have NB157_179 := n12_
        have NB179_157 := n13_
        have NB158_179 := n14_
        have NB179_158 := n15_
        clear n0_ n1_ n2_ n3_ n4_ n5_ n6_ n7_ n8_ n9_ n10_ n11_ n12_ n13_ n14_ n15_
        clear hb hbox hg
        refine hK.out _ _ ⟨(zO BK134.out 0).trans rfl,(zO BK134.out 1).trans rfl,(zO BK134.out 2).trans rfl,(zO BK135.out 0).trans rfl,(zO BK135.out 1).trans rfl,(zO BK135.out 2).trans rfl,(zO BK135.out 3).trans rfl,(zO BK135.out 4).trans rfl,(zO BK135.out 5).trans rfl⟩ (fun hHeld => ?_)
        clear hK K
        refine norm_ (a' := ?_) ?_ ?_
        rotate_left
        ·show Act.put _ (some 10) _ = _
         simp only [Act.put,List.setIfInBounds_toArray,List.set_cons_zero,List.set_cons_succ,i64_w,i32_w]
         rfl
        exact norm_ (by first|(simp only [putAll,Act.put,List.setIfInBounds_toArray,List.set_cons_zero,List.set_cons_succ];done)|(simp only [putAll,Act.put,List.setIfInBounds_toArray,List.set_cons_zero,List.set_cons_succ];rfl)) (hJ1_3_4_10 (gb179) _ ⟨hHeld,(by (with_reducible repeat (first|refine zA ?_ _|refine zC ?_|refine zB ?_ _));exact BK134.out),(by (with_reducible repeat (first|refine zA ?_ _|refine zC ?_|refine zB ?_ _));exact BK135.out),(by (with_reducible repeat (first|refine zA ?_ _|refine zC ?_|refine zB ?_ _));exact BK157.out),(by (with_reducible repeat (first|refine zA ?_ _|refine zC ?_|refine zB ?_ _));exact BK158.out),(by (with_reducible repeat (first|refine zA ?_ _|refine zC ?_|refine zB ?_ _));exact BK179.out),GW179.out,GE179.out,NB134_179.out,NB179_134.out,NB135_179.out,NB179_135.out,NB157_179.out,NB179_157.out,NB158_179.out,NB179_158.out,(by repeat (first|(with_reducible first|exact HB.out|apply zI|apply zG|apply zH|refine zJ ?_ GE134.out|refine zJ ?_ GE135.out|refine zJ ?_ GE157.out|refine zJ ?_ GE158.out|refine zJ ?_ GE179.out)|exact HB.out))⟩)
     ·skip
      rintro ⟨gb178,gb179⟩ w119 ⟨hS_,h0_,h1_,h2_,h3_,h4_,h5_,h6_,h7_,h8_,h9_,h10_,h11_,h12_,h13_,h14_,h15_,h16_,h17_,h18_,h19_,h20_,h21_,h22_,h23_,h24_,h25_,h26_,h27_,h28_⟩
      have n0_ : Aside0 (w119.heap[gb134]? = some (.cells #[.int .i64 a0_0,.int .i64 a0_1,.string a0_2] 63 (0,0))) := ⟨h0_⟩
      have n1_ : Aside0 (w119.heap[gb135]? = some (.cells #[.int .i64 a1_0,.int .i64 a1_1,.int .i64 a1_2,.int .i64 a1_3,.int .i64 a1_4,.string a1_5] 64 (0,0))) := ⟨h1_⟩
      have n2_ : Aside0 (w119.heap[gb157]? = some (.cells #[.int .i64 t147,.int .i64 t148,.string t149] 67 (0,0))) := ⟨h2_⟩
      have n3_ : Aside0 (w119.heap[gb158]? = some (.cells #[.int .i64 t150,.int .i64 t151,.int .i64 t152,.int .i64 t153,.int .i64 t154,.string t155] 61 (0,0))) := ⟨h3_⟩
      have n4_ : Aside0 (w119.heap[gb178]? = some (.cells #[.int .i64 0,.int .i64 0,.string (⟨#[]⟩ : ByteArray)] 67 (0,0))) := ⟨h4_⟩
      have n5_ : Aside0 (w119.heap[gb179]? = some (.cells #[.int .i64 0,.int .i64 0,.int .i64 0,.int .i64 0,.int .i64 0,.string (⟨#[]⟩ : ByteArray)] 61 (0,0))) := ⟨h5_⟩
      have n6_ : Aside0 (w.heap.size ≤ gb178) := ⟨h6_⟩
      have n7_ : Aside0 (w.heap.size ≤ gb178) := ⟨h7_⟩
      have n8_ : Aside0 (gb134 ≠ gb178) := ⟨h8_⟩
      have n9_ : Aside0 (gb178 ≠ gb134) := ⟨h9_⟩
      have n10_ : Aside0 (gb135 ≠ gb178) := ⟨h10_⟩
      have n11_ : Aside0 (gb178 ≠ gb135) := ⟨h11_⟩
      have n12_ : Aside0 (gb157 ≠ gb178) := ⟨h12_⟩
      have n13_ : Aside0 (gb178 ≠ gb157) := ⟨h13_⟩
      have n14_ : Aside0 (gb158 ≠ gb178) := ⟨h14_⟩
      have n15_ : Aside0 (gb178 ≠ gb158) := ⟨h15_⟩
      have n16_ : Aside0 (gb179 ≠ gb178) := ⟨h16_⟩
      have n17_ : Aside0 (gb178 ≠ gb179) := ⟨h17_⟩
      have n18_ : Aside0 (w.heap.size ≤ gb179) := ⟨h18_⟩
      have n19_ : Aside0 (w.heap.size ≤ gb179) := ⟨h19_⟩
      have n20_ : Aside0 (gb134 ≠ gb179) := ⟨h20_⟩
      have n21_ : Aside0 (gb179 ≠ gb134) := ⟨h21_⟩
      have n22_ : Aside0 (gb135 ≠ gb179) := ⟨h22_⟩
      have n23_ : Aside0 (gb179 ≠ gb135) := ⟨h23_⟩
      have n24_ : Aside0 (gb157 ≠ gb179) := ⟨h24_⟩
      have n25_ : Aside0 (gb179 ≠ gb157) := ⟨h25_⟩
      have n26_ : Aside0 (gb158 ≠ gb179) := ⟨h26_⟩
      have n27_ : Aside0 (gb179 ≠ gb158) := ⟨h27_⟩
      have n28_ : Aside0 (Below w.heap.size w w119) := ⟨h28_⟩
      clear BK134
      clear BK135
      clear BK157
      clear BK158
      clear HB
      clear h0_ h1_ h2_ h3_ h4_ h5_ h6_ h7_ h8_ h9_ h10_ h11_ h12_ h13_ h14_ h15_ h16_ h17_ h18_ h19_ h20_ h21_ h22_ h23_ h24_ h25_ h26_ h27_ h28_
      have BK134 := n0_
      have BK135 := n1_
      have BK157 := n2_
      have BK158 := n3_
      have BK178 := n4_
      have BK179 := n5_
      have GW178 := n6_
      have GE178 := n7_
      have NB134_178 := n8_
      have NB178_134 := n9_
      have NB135_178 := n10_
      have NB178_135 := n11_
      have NB157_178 := n12_
      have NB178_157 := n13_
      have NB158_178 := n14_
      have NB178_158 := n15_
      have NB179_178 := n16_
      have NB178_179 := n17_
      have GW179 := n18_
      have GE179 := n19_
      have NB134_179 := n20_
      have NB179_134 := n21_
      have NB135_179 := n22_
      have NB179_135 := n23_
      have NB157_179 := n24_
      have NB179_157 := n25_
      have NB158_179 := n26_
      have NB179_158 := n27_
      have HB := n28_
      clear n0_ n1_ n2_ n3_ n4_ n5_ n6_ n7_ n8_ n9_ n10_ n11_ n12_ n13_ n14_ n15_ n16_ n17_ n18_ n19_ n20_ n21_ n22_ n23_ n24_ n25_ n26_ n27_ n28_
      have hHeld : w119.cell? ⟨gb134,0,none⟩ = some (.int .i64 a0_0) ∧ w119.cell? ⟨gb134,1,none⟩ = some (.int .i64 a0_1) ∧ w119.cell? ⟨gb134,2,none⟩ = some (.string a0_2) ∧ w119.cell? ⟨gb135,0,none⟩ = some (.int .i64 a1_0) ∧ w119.cell? ⟨gb135,1,none⟩ = some (.int .i64 a1_1) ∧ w119.cell? ⟨gb135,2,none⟩ = some (.int .i64 a1_2) ∧ w119.cell? ⟨gb135,3,none⟩ = some (.int .i64 a1_3) ∧ w119.cell? ⟨gb135,4,none⟩ = some (.int .i64 a1_4) ∧ w119.cell? ⟨gb135,5,none⟩ = some (.string a1_5) := hS_
      refine norm_ (a' := ?_) ?_ ?_
      rotate_left
      ·simp only [putAll,Act.put,List.setIfInBounds_toArray,List.set_cons_zero,List.set_cons_succ]
       rfl
      refine one_ (i := 4) (N := some 36) #[true,true,true,true,true,false,false,false,false,true,true,false,false,false] rfl rfl (one_of HT_.out (by kernel_rfl)) (by decide) (fun K hK => ?_)
      refine goes_ Try.func49 (by kernel_rfl) rfl #[.agg #[.int .i64 t159,.int .i64 t160,.string t161],.agg #[.int .i64 t162,.int .i64 t163,.int .i64 t164,.int .i64 t165,.int .i64 t166,.string t167]] (by rfl) rfl rfl (by (try simp only [List.map_toArray,List.map_cons,List.map_nil]);first|done|rfl|(simp only [List.length_drop,List.length_take];rfl)) ?_
      with_reducible refine (impl_HearNote.calls k t159 t160 t161 t162 t163 t164 t165 t166 t167 t168 t169 t170 t171 t172 t173 t174 t175 t176 t177 _ A24.out).mono ?_
      rintro e w120 ⟨rfl,hb⟩
      refine ⟨_,rfl,?_⟩
      have n0_ := Aside0.mk (zK (by exact BK134.out) hb)
      have n1_ := Aside0.mk (zK (by exact BK135.out) hb)
      have n2_ := Aside0.mk (zK (by exact BK157.out) hb)
      have n3_ := Aside0.mk (zK (by exact BK158.out) hb)
      have n4_ := Aside0.mk (zK (by exact BK178.out) hb)
      have n5_ := Aside0.mk (zK (by exact BK179.out) hb)
      have n6_ := Aside0.mk (zN (by repeat (first|(with_reducible first|exact HB.out|apply zI|apply zG|apply zH|refine zJ ?_ GE134.out|refine zJ ?_ GE135.out|refine zJ ?_ GE157.out|refine zJ ?_ GE158.out|refine zJ ?_ GE178.out|refine zJ ?_ GE179.out)|exact HB.out)) hb)
      clear BK134
      clear BK135
      clear BK157
      clear BK158
      clear BK178
      clear BK179
      clear HB
      have BK134 := n0_
      have BK135 := n1_
      have BK157 := n2_
      have BK158 := n3_
      have BK178 := n4_
      have BK179 := n5_
      have HB := n6_
      clear n0_ n1_ n2_ n3_ n4_ n5_ n6_
      (try clear hb)
      (try clear hb2)
      (try clear hk)
      (try clear hi)
      refine hK.out _ _ ⟨(zO BK134.out 0).trans rfl,(zO BK134.out 1).trans rfl,(zO BK134.out 2).trans rfl,(zO BK135.out 0).trans rfl,(zO BK135.out 1).trans rfl,(zO BK135.out 2).trans rfl,(zO BK135.out 3).trans rfl,(zO BK135.out 4).trans rfl,(zO BK135.out 5).trans rfl⟩ (fun hHeld => ?_)
      clear hK K
      refine norm_ (a' := ?_) ?_ ?_
      rotate_left
      ·show Act.put _ (some 36) _ = _
       simp only [Act.put,List.setIfInBounds_toArray,List.set_cons_zero,List.set_cons_succ,i64_w,i32_w]
       rfl
      refine pure_ (i := 5) (N := some 31) (v := ?_) (a' := ?_) #[true,true,true,true,true,true,false,false,false,true,true,false,false,false] rfl rfl (any_of HT_.out (by kernel_rfl)) (fun _ _ _ h => h) (Or.inl ⟨by rfl,?_⟩) ?_ ?_
      rotate_left
      ·intro w'
       go_simp
       with_reducible rfl
      rotate_left
      ·simp only [Act.put,List.setIfInBounds_toArray,List.set_cons_zero,List.set_cons_succ,i64_w,i32_w]
       rfl
      refine pure_ (i := 6) (N := some 37) (v := ?_) (a' := ?_) #[true,true,true,true,true,true,true,false,false,true,true,false,false,false] rfl rfl (any_of HT_.out (by kernel_rfl)) (fun _ _ _ h => h) (Or.inl ⟨by rfl,?_⟩) ?_ ?_
      rotate_left
      ·intro w'
       go_simp
       with_reducible rfl
      rotate_left
      ·simp only [Act.put,List.setIfInBounds_toArray,List.set_cons_zero,List.set_cons_succ,i64_w,i32_w]
       rfl
      refine pure_ (i := 7) (N := some 38) (v := ?_) (a' := ?_) #[true,true,true,true,true,true,true,true,false,true,true,false,false,false] rfl rfl (any_of HT_.out (by kernel_rfl)) (fun _ _ _ h => h) (Or.inl ⟨by rfl,?_⟩) ?_ ?_
      rotate_left
      ·intro w'
       go_simp
       with_reducible rfl
      rotate_left
      ·simp only [Act.put,List.setIfInBounds_toArray,List.set_cons_zero,List.set_cons_succ,i64_w,i32_w]
       rfl
      refine pure_ (i := 8) (N := some 39) (v := ?_) (a' := ?_) #[true,true,true,true,true,true,true,true,true,true,true,false,false,false] rfl rfl (any_of HT_.out (by kernel_rfl)) (fun _ _ _ h => h) (Or.inl ⟨by rfl,?_⟩) ?_ ?_
      rotate_left
      ·intro w'
       go_simp
       with_reducible rfl
      rotate_left
      ·simp only [Act.put,List.setIfInBounds_toArray,List.set_cons_zero,List.set_cons_succ,i64_w,i32_w]
       rfl
      exact norm_ (by first|(simp only [putAll,Act.put,List.setIfInBounds_toArray,List.set_cons_zero,List.set_cons_succ];done)|(simp only [putAll,Act.put,List.setIfInBounds_toArray,List.set_cons_zero,List.set_cons_succ];rfl)) (hJ1_3_4_9_10 (gb178,gb179) _ ⟨hHeld,(by (with_reducible repeat (first|refine zA ?_ _|refine zC ?_|refine zB ?_ _));exact BK134.out),(by (with_reducible repeat (first|refine zA ?_ _|refine zC ?_|refine zB ?_ _));exact BK135.out),(by (with_reducible repeat (first|refine zA ?_ _|refine zC ?_|refine zB ?_ _));exact BK157.out),(by (with_reducible repeat (first|refine zA ?_ _|refine zC ?_|refine zB ?_ _));exact BK158.out),(by (with_reducible repeat (first|refine zA ?_ _|refine zC ?_|refine zB ?_ _));exact BK178.out),(by (with_reducible repeat (first|refine zA ?_ _|refine zC ?_|refine zB ?_ _));exact BK179.out),GW178.out,GE178.out,NB134_178.out,NB178_134.out,NB135_178.out,NB178_135.out,NB157_178.out,NB178_157.out,NB158_178.out,NB178_158.out,NB179_178.out,NB178_179.out,GW179.out,GE179.out,NB134_179.out,NB179_134.out,NB135_179.out,NB179_135.out,NB157_179.out,NB179_157.out,NB158_179.out,NB179_158.out,(by repeat (first|(with_reducible first|exact HB.out|apply zI|apply zG|apply zH|refine zJ ?_ GE134.out|refine zJ ?_ GE135.out|refine zJ ?_ GE157.out|refine zJ ?_ GE158.out|refine zJ ?_ GE178.out|refine zJ ?_ GE179.out)|exact HB.out))⟩)
    ·skip
     rintro gb179 w119 ⟨hS_,h0_,h1_,h2_,h3_,h4_,h5_,h6_,h7_,h8_,h9_,h10_,h11_,h12_,h13_,h14_,h15_⟩
     have n0_ : Aside0 (w119.heap[gb134]? = some (.cells #[.int .i64 a0_0,.int .i64 a0_1,.string a0_2] 63 (0,0))) := ⟨h0_⟩
     have n1_ : Aside0 (w119.heap[gb135]? = some (.cells #[.int .i64 a1_0,.int .i64 a1_1,.int .i64 a1_2,.int .i64 a1_3,.int .i64 a1_4,.string a1_5] 64 (0,0))) := ⟨h1_⟩
     have n2_ : Aside0 (w119.heap[gb157]? = some (.cells #[.int .i64 t147,.int .i64 t148,.string t149] 67 (0,0))) := ⟨h2_⟩
     have n3_ : Aside0 (w119.heap[gb158]? = some (.cells #[.int .i64 t150,.int .i64 t151,.int .i64 t152,.int .i64 t153,.int .i64 t154,.string t155] 61 (0,0))) := ⟨h3_⟩
     have n4_ : Aside0 (w119.heap[gb179]? = some (.cells #[.int .i64 0,.int .i64 0,.int .i64 0,.int .i64 0,.int .i64 0,.string (⟨#[]⟩ : ByteArray)] 61 (0,0))) := ⟨h4_⟩
     have n5_ : Aside0 (w.heap.size ≤ gb179) := ⟨h5_⟩
     have n6_ : Aside0 (w.heap.size ≤ gb179) := ⟨h6_⟩
     have n7_ : Aside0 (gb134 ≠ gb179) := ⟨h7_⟩
     have n8_ : Aside0 (gb179 ≠ gb134) := ⟨h8_⟩
     have n9_ : Aside0 (gb135 ≠ gb179) := ⟨h9_⟩
     have n10_ : Aside0 (gb179 ≠ gb135) := ⟨h10_⟩
     have n11_ : Aside0 (gb157 ≠ gb179) := ⟨h11_⟩
     have n12_ : Aside0 (gb179 ≠ gb157) := ⟨h12_⟩
     have n13_ : Aside0 (gb158 ≠ gb179) := ⟨h13_⟩
     have n14_ : Aside0 (gb179 ≠ gb158) := ⟨h14_⟩
     have n15_ : Aside0 (Below w.heap.size w w119) := ⟨h15_⟩
     clear BK134
     clear BK135
     clear BK157
     clear BK158
     clear HB
     clear h0_ h1_ h2_ h3_ h4_ h5_ h6_ h7_ h8_ h9_ h10_ h11_ h12_ h13_ h14_ h15_
     have BK134 := n0_
     have BK135 := n1_
     have BK157 := n2_
     have BK158 := n3_
     have BK179 := n4_
     have GW179 := n5_
     have GE179 := n6_
     have NB134_179 := n7_
     have NB179_134 := n8_
     have NB135_179 := n9_
     have NB179_135 := n10_
     have NB157_179 := n11_
     have NB179_157 := n12_
     have NB158_179 := n13_
     have NB179_158 := n14_
     have HB := n15_
     clear n0_ n1_ n2_ n3_ n4_ n5_ n6_ n7_ n8_ n9_ n10_ n11_ n12_ n13_ n14_ n15_
     have hHeld : w119.cell? ⟨gb134,0,none⟩ = some (.int .i64 a0_0) ∧ w119.cell? ⟨gb134,1,none⟩ = some (.int .i64 a0_1) ∧ w119.cell? ⟨gb134,2,none⟩ = some (.string a0_2) ∧ w119.cell? ⟨gb135,0,none⟩ = some (.int .i64 a1_0) ∧ w119.cell? ⟨gb135,1,none⟩ = some (.int .i64 a1_1) ∧ w119.cell? ⟨gb135,2,none⟩ = some (.int .i64 a1_2) ∧ w119.cell? ⟨gb135,3,none⟩ = some (.int .i64 a1_3) ∧ w119.cell? ⟨gb135,4,none⟩ = some (.int .i64 a1_4) ∧ w119.cell? ⟨gb135,5,none⟩ = some (.string a1_5) := hS_
     refine norm_ (a' := ?_) ?_ ?_
     rotate_left
     ·simp only [putAll,Act.put,List.setIfInBounds_toArray,List.set_cons_zero,List.set_cons_succ]
      rfl
     refine one_ (i := 9) (N := some 9) #[true,true,true,true,true,true,true,true,true,true,true,false,false,false] rfl rfl (one_of HT_.out (by kernel_rfl)) (by decide) (fun K hK => ?_)
     refine box_step ?hg (N := 9) ?hd (cs := #[.int .i64 0,.int .i64 0,.string (⟨#[]⟩ : ByteArray)]) (t := 67) ?hr ?_;(case hd => rfl);(case hg => rfl);(case hr => first|(go_simp;done)|(go_simp;rfl))
     intro gb178 hg w120 hbox hb
     have n0_ := Aside0.mk (zK (by exact BK134.out) hb)
     have n1_ := Aside0.mk (zK (by exact BK135.out) hb)
     have n2_ := Aside0.mk (zK (by exact BK157.out) hb)
     have n3_ := Aside0.mk (zK (by exact BK158.out) hb)
     have n4_ := Aside0.mk (zK (by exact BK179.out) hb)
     have n5_ := Aside0.mk (zN (by repeat (first|(with_reducible first|exact HB.out|apply zI|apply zG|apply zH|refine zJ ?_ GE134.out|refine zJ ?_ GE135.out|refine zJ ?_ GE157.out|refine zJ ?_ GE158.out|refine zJ ?_ GE179.out)|exact HB.out)) hb)
     have n6_ := Aside0.mk (hbox)
     have n7_ := Aside0.mk ((by rw [hg];exact (below_size (by repeat (first|(with_reducible first|exact HB.out|apply zI|apply zG|apply zH|refine zJ ?_ GE134.out|refine zJ ?_ GE135.out|refine zJ ?_ GE157.out|refine zJ ?_ GE158.out|refine zJ ?_ GE179.out)|exact HB.out))) : w.heap.size ≤ gb178))
     have n8_ := Aside0.mk ((by rw [hg];exact (below_size (by repeat (first|(with_reducible first|exact HB.out|apply zI|apply zG|apply zH|refine zJ ?_ GE134.out|refine zJ ?_ GE135.out|refine zJ ?_ GE157.out|refine zJ ?_ GE158.out|refine zJ ?_ GE179.out)|exact HB.out))) : w.heap.size ≤ gb178))
     have n9_ := Aside0.mk ((by rw [hg];exact Nat.ne_of_lt (blk_lt (g := gb134) (o := .cells #[.int .i64 a0_0,.int .i64 a0_1,.string a0_2] 63 (0,0)) (by (with_reducible repeat (first|refine zA ?_ _|refine zC ?_|refine zB ?_ _));exact BK134.out)) : gb134 ≠ gb178))
     have n10_ := Aside0.mk ((by rw [hg];exact Nat.ne_of_gt (blk_lt (g := gb134) (o := .cells #[.int .i64 a0_0,.int .i64 a0_1,.string a0_2] 63 (0,0)) (by (with_reducible repeat (first|refine zA ?_ _|refine zC ?_|refine zB ?_ _));exact BK134.out)) : gb178 ≠ gb134))
     have n11_ := Aside0.mk ((by rw [hg];exact Nat.ne_of_lt (blk_lt (g := gb135) (o := .cells #[.int .i64 a1_0,.int .i64 a1_1,.int .i64 a1_2,.int .i64 a1_3,.int .i64 a1_4,.string a1_5] 64 (0,0)) (by (with_reducible repeat (first|refine zA ?_ _|refine zC ?_|refine zB ?_ _));exact BK135.out)) : gb135 ≠ gb178))
     have n12_ := Aside0.mk ((by rw [hg];exact Nat.ne_of_gt (blk_lt (g := gb135) (o := .cells #[.int .i64 a1_0,.int .i64 a1_1,.int .i64 a1_2,.int .i64 a1_3,.int .i64 a1_4,.string a1_5] 64 (0,0)) (by (with_reducible repeat (first|refine zA ?_ _|refine zC ?_|refine zB ?_ _));exact BK135.out)) : gb178 ≠ gb135))
     have n13_ := Aside0.mk ((by rw [hg];exact Nat.ne_of_lt (blk_lt (g := gb157) (o := .cells #[.int .i64 t147,.int .i64 t148,.string t149] 67 (0,0)) (by (with_reducible repeat (first|refine zA ?_ _|refine zC ?_|refine zB ?_ _));exact BK157.out)) : gb157 ≠ gb178))
     have n14_ := Aside0.mk ((by rw [hg];exact Nat.ne_of_gt (blk_lt (g := gb157) (o := .cells #[.int .i64 t147,.int .i64 t148,.string t149] 67 (0,0)) (by (with_reducible repeat (first|refine zA ?_ _|refine zC ?_|refine zB ?_ _));exact BK157.out)) : gb178 ≠ gb157))
     have n15_ := Aside0.mk ((by rw [hg];exact Nat.ne_of_lt (blk_lt (g := gb158) (o := .cells #[.int .i64 t150,.int .i64 t151,.int .i64 t152,.int .i64 t153,.int .i64 t154,.string t155] 61 (0,0)) (by (with_reducible repeat (first|refine zA ?_ _|refine zC ?_|refine zB ?_ _));exact BK158.out)) : gb158 ≠ gb178))
     have n16_ := Aside0.mk ((by rw [hg];exact Nat.ne_of_gt (blk_lt (g := gb158) (o := .cells #[.int .i64 t150,.int .i64 t151,.int .i64 t152,.int .i64 t153,.int .i64 t154,.string t155] 61 (0,0)) (by (with_reducible repeat (first|refine zA ?_ _|refine zC ?_|refine zB ?_ _));exact BK158.out)) : gb178 ≠ gb158))
     have n17_ := Aside0.mk ((by rw [hg];exact Nat.ne_of_lt (blk_lt (g := gb179) (o := .cells #[.int .i64 0,.int .i64 0,.int .i64 0,.int .i64 0,.int .i64 0,.string (⟨#[]⟩ : ByteArray)] 61 (0,0)) (by (with_reducible repeat (first|refine zA ?_ _|refine zC ?_|refine zB ?_ _));exact BK179.out)) : gb179 ≠ gb178))
     have n18_ := Aside0.mk ((by rw [hg];exact Nat.ne_of_gt (blk_lt (g := gb179) (o := .cells #[.int .i64 0,.int .i64 0,.int .i64 0,.int .i64 0,.int .i64 0,.string (⟨#[]⟩ : ByteArray)] 61 (0,0)) (by (with_reducible repeat (first|refine zA ?_ _|refine zC ?_|refine zB ?_ _));exact BK179.out)) : gb178 ≠ gb179))
     clear BK134
     clear BK135
     clear BK157
     clear BK158
     clear BK179
     clear HB
     have BK134 := n0_
     have BK135 := n1_
     have BK157 := n2_
     have BK158 := n3_
     have BK179 := n4_
     have HB := n5_
     have BK178 := n6_
     have GW178 := n7_
     have GE178 := n8_
     have NB134_178 := n9_
     have NB178_134 := n10_
     have NB135_178 := n11_
     have NB178_135 := n12_
     have NB157_178 := n13_
     have NB178_157 := n14_
     have NB158_178 := n15_
     have NB178_158 := n16_
     have NB179_178 := n17_
     have NB178_179 := n18_
     clear n0_ n1_ n2_ n3_ n4_ n5_ n6_ n7_ n8_ n9_ n10_ n11_ n12_ n13_ n14_ n15_ n16_ n17_ n18_
     clear hb hbox hg
     refine hK.out _ _ ⟨(zO BK134.out 0).trans rfl,(zO BK134.out 1).trans rfl,(zO BK134.out 2).trans rfl,(zO BK135.out 0).trans rfl,(zO BK135.out 1).trans rfl,(zO BK135.out 2).trans rfl,(zO BK135.out 3).trans rfl,(zO BK135.out 4).trans rfl,(zO BK135.out 5).trans rfl⟩ (fun hHeld => ?_)
     clear hK K
     refine norm_ (a' := ?_) ?_ ?_
     rotate_left
     ·show Act.put _ (some 9) _ = _
      simp only [Act.put,List.setIfInBounds_toArray,List.set_cons_zero,List.set_cons_succ,i64_w,i32_w]
      rfl
     exact norm_ (by first|(simp only [putAll,Act.put,List.setIfInBounds_toArray,List.set_cons_zero,List.set_cons_succ];done)|(simp only [putAll,Act.put,List.setIfInBounds_toArray,List.set_cons_zero,List.set_cons_succ];rfl)) (hJ1_3_4_9_10 (gb178,gb179) _ ⟨hHeld,(by (with_reducible repeat (first|refine zA ?_ _|refine zC ?_|refine zB ?_ _));exact BK134.out),(by (with_reducible repeat (first|refine zA ?_ _|refine zC ?_|refine zB ?_ _));exact BK135.out),(by (with_reducible repeat (first|refine zA ?_ _|refine zC ?_|refine zB ?_ _));exact BK157.out),(by (with_reducible repeat (first|refine zA ?_ _|refine zC ?_|refine zB ?_ _));exact BK158.out),(by (with_reducible repeat (first|refine zA ?_ _|refine zC ?_|refine zB ?_ _));exact BK178.out),(by (with_reducible repeat (first|refine zA ?_ _|refine zC ?_|refine zB ?_ _));exact BK179.out),GW178.out,GE178.out,NB134_178.out,NB178_134.out,NB135_178.out,NB178_135.out,NB157_178.out,NB178_157.out,NB158_178.out,NB178_158.out,NB179_178.out,NB178_179.out,GW179.out,GE179.out,NB134_179.out,NB179_134.out,NB135_179.out,NB179_135.out,NB157_179.out,NB179_157.out,NB158_179.out,NB179_158.out,(by repeat (first|(with_reducible first|exact HB.out|apply zI|apply zG|apply zH|refine zJ ?_ GE134.out|refine zJ ?_ GE135.out|refine zJ ?_ GE157.out|refine zJ ?_ GE158.out|refine zJ ?_ GE179.out|refine zJ ?_ GE178.out)|exact HB.out))⟩)
   ·skip
    rintro gb178 w119 ⟨hS_,h0_,h1_,h2_,h3_,h4_,h5_,h6_,h7_,h8_,h9_,h10_,h11_,h12_,h13_,h14_,h15_⟩
    have n0_ : Aside0 (w119.heap[gb134]? = some (.cells #[.int .i64 a0_0,.int .i64 a0_1,.string a0_2] 63 (0,0))) := ⟨h0_⟩
    have n1_ : Aside0 (w119.heap[gb135]? = some (.cells #[.int .i64 a1_0,.int .i64 a1_1,.int .i64 a1_2,.int .i64 a1_3,.int .i64 a1_4,.string a1_5] 64 (0,0))) := ⟨h1_⟩
    have n2_ : Aside0 (w119.heap[gb157]? = some (.cells #[.int .i64 t147,.int .i64 t148,.string t149] 67 (0,0))) := ⟨h2_⟩
    have n3_ : Aside0 (w119.heap[gb158]? = some (.cells #[.int .i64 t150,.int .i64 t151,.int .i64 t152,.int .i64 t153,.int .i64 t154,.string t155] 61 (0,0))) := ⟨h3_⟩
    have n4_ : Aside0 (w119.heap[gb178]? = some (.cells #[.int .i64 0,.int .i64 0,.string (⟨#[]⟩ : ByteArray)] 67 (0,0))) := ⟨h4_⟩
    have n5_ : Aside0 (w.heap.size ≤ gb178) := ⟨h5_⟩
    have n6_ : Aside0 (w.heap.size ≤ gb178) := ⟨h6_⟩
    have n7_ : Aside0 (gb134 ≠ gb178) := ⟨h7_⟩
    have n8_ : Aside0 (gb178 ≠ gb134) := ⟨h8_⟩
    have n9_ : Aside0 (gb135 ≠ gb178) := ⟨h9_⟩
    have n10_ : Aside0 (gb178 ≠ gb135) := ⟨h10_⟩
    have n11_ : Aside0 (gb157 ≠ gb178) := ⟨h11_⟩
    have n12_ : Aside0 (gb178 ≠ gb157) := ⟨h12_⟩
    have n13_ : Aside0 (gb158 ≠ gb178) := ⟨h13_⟩
    have n14_ : Aside0 (gb178 ≠ gb158) := ⟨h14_⟩
    have n15_ : Aside0 (Below w.heap.size w w119) := ⟨h15_⟩
    clear BK134
    clear BK135
    clear BK157
    clear BK158
    clear HB
    clear h0_ h1_ h2_ h3_ h4_ h5_ h6_ h7_ h8_ h9_ h10_ h11_ h12_ h13_ h14_ h15_
    have BK134 := n0_
    have BK135 := n1_
    have BK157 := n2_
    have BK158 := n3_
    have BK178 := n4_
    have GW178 := n5_
    have GE178 := n6_
    have NB134_178 := n7_
    have NB178_134 := n8_
    have NB135_178 := n9_
    have NB178_135 := n10_
    have NB157_178 := n11_
    have NB178_157 := n12_
    have NB158_178 := n13_
    have NB178_158 := n14_
    have HB := n15_
    clear n0_ n1_ n2_ n3_ n4_ n5_ n6_ n7_ n8_ n9_ n10_ n11_ n12_ n13_ n14_ n15_
    have hHeld : w119.cell? ⟨gb134,0,none⟩ = some (.int .i64 a0_0) ∧ w119.cell? ⟨gb134,1,none⟩ = some (.int .i64 a0_1) ∧ w119.cell? ⟨gb134,2,none⟩ = some (.string a0_2) ∧ w119.cell? ⟨gb135,0,none⟩ = some (.int .i64 a1_0) ∧ w119.cell? ⟨gb135,1,none⟩ = some (.int .i64 a1_1) ∧ w119.cell? ⟨gb135,2,none⟩ = some (.int .i64 a1_2) ∧ w119.cell? ⟨gb135,3,none⟩ = some (.int .i64 a1_3) ∧ w119.cell? ⟨gb135,4,none⟩ = some (.int .i64 a1_4) ∧ w119.cell? ⟨gb135,5,none⟩ = some (.string a1_5) := hS_
    refine norm_ (a' := ?_) ?_ ?_
    rotate_left
    ·simp only [putAll,Act.put,List.setIfInBounds_toArray,List.set_cons_zero,List.set_cons_succ]
     rfl
    refine one_ (i := 10) (N := some 10) #[true,true,true,true,true,true,true,true,true,true,true,false,false,false] rfl rfl (one_of HT_.out (by kernel_rfl)) (by decide) (fun K hK => ?_)
    refine box_step ?hg (N := 10) ?hd (cs := #[.int .i64 0,.int .i64 0,.int .i64 0,.int .i64 0,.int .i64 0,.string (⟨#[]⟩ : ByteArray)]) (t := 61) ?hr ?_;(case hd => rfl);(case hg => rfl);(case hr => first|(go_simp;done)|(go_simp;rfl))
    intro gb179 hg w120 hbox hb
    have n0_ := Aside0.mk (zK (by exact BK134.out) hb)
    have n1_ := Aside0.mk (zK (by exact BK135.out) hb)
    have n2_ := Aside0.mk (zK (by exact BK157.out) hb)
    have n3_ := Aside0.mk (zK (by exact BK158.out) hb)
    have n4_ := Aside0.mk (zK (by exact BK178.out) hb)
    have n5_ := Aside0.mk (zN (by repeat (first|(with_reducible first|exact HB.out|apply zI|apply zG|apply zH|refine zJ ?_ GE134.out|refine zJ ?_ GE135.out|refine zJ ?_ GE157.out|refine zJ ?_ GE158.out|refine zJ ?_ GE178.out)|exact HB.out)) hb)
    have n6_ := Aside0.mk (hbox)
    have n7_ := Aside0.mk ((by rw [hg];exact (below_size (by repeat (first|(with_reducible first|exact HB.out|apply zI|apply zG|apply zH|refine zJ ?_ GE134.out|refine zJ ?_ GE135.out|refine zJ ?_ GE157.out|refine zJ ?_ GE158.out|refine zJ ?_ GE178.out)|exact HB.out))) : w.heap.size ≤ gb179))
    have n8_ := Aside0.mk ((by rw [hg];exact (below_size (by repeat (first|(with_reducible first|exact HB.out|apply zI|apply zG|apply zH|refine zJ ?_ GE134.out|refine zJ ?_ GE135.out|refine zJ ?_ GE157.out|refine zJ ?_ GE158.out|refine zJ ?_ GE178.out)|exact HB.out))) : w.heap.size ≤ gb179))
    have n9_ := Aside0.mk ((by rw [hg];exact Nat.ne_of_lt (blk_lt (g := gb134) (o := .cells #[.int .i64 a0_0,.int .i64 a0_1,.string a0_2] 63 (0,0)) (by (with_reducible repeat (first|refine zA ?_ _|refine zC ?_|refine zB ?_ _));exact BK134.out)) : gb134 ≠ gb179))
    have n10_ := Aside0.mk ((by rw [hg];exact Nat.ne_of_gt (blk_lt (g := gb134) (o := .cells #[.int .i64 a0_0,.int .i64 a0_1,.string a0_2] 63 (0,0)) (by (with_reducible repeat (first|refine zA ?_ _|refine zC ?_|refine zB ?_ _));exact BK134.out)) : gb179 ≠ gb134))
    have n11_ := Aside0.mk ((by rw [hg];exact Nat.ne_of_lt (blk_lt (g := gb135) (o := .cells #[.int .i64 a1_0,.int .i64 a1_1,.int .i64 a1_2,.int .i64 a1_3,.int .i64 a1_4,.string a1_5] 64 (0,0)) (by (with_reducible repeat (first|refine zA ?_ _|refine zC ?_|refine zB ?_ _));exact BK135.out)) : gb135 ≠ gb179))
    have n12_ := Aside0.mk ((by rw [hg];exact Nat.ne_of_gt (blk_lt (g := gb135) (o := .cells #[.int .i64 a1_0,.int .i64 a1_1,.int .i64 a1_2,.int .i64 a1_3,.int .i64 a1_4,.string a1_5] 64 (0,0)) (by (with_reducible repeat (first|refine zA ?_ _|refine zC ?_|refine zB ?_ _));exact BK135.out)) : gb179 ≠ gb135))
    have n13_ := Aside0.mk ((by rw [hg];exact Nat.ne_of_lt (blk_lt (g := gb157) (o := .cells #[.int .i64 t147,.int .i64 t148,.string t149] 67 (0,0)) (by (with_reducible repeat (first|refine zA ?_ _|refine zC ?_|refine zB ?_ _));exact BK157.out)) : gb157 ≠ gb179))
    have n14_ := Aside0.mk ((by rw [hg];exact Nat.ne_of_gt (blk_lt (g := gb157) (o := .cells #[.int .i64 t147,.int .i64 t148,.string t149] 67 (0,0)) (by (with_reducible repeat (first|refine zA ?_ _|refine zC ?_|refine zB ?_ _));exact BK157.out)) : gb179 ≠ gb157))
    have n15_ := Aside0.mk ((by rw [hg];exact Nat.ne_of_lt (blk_lt (g := gb158) (o := .cells #[.int .i64 t150,.int .i64 t151,.int .i64 t152,.int .i64 t153,.int .i64 t154,.string t155] 61 (0,0)) (by (with_reducible repeat (first|refine zA ?_ _|refine zC ?_|refine zB ?_ _));exact BK158.out)) : gb158 ≠ gb179))
    have n16_ := Aside0.mk ((by rw [hg];exact Nat.ne_of_gt (blk_lt (g := gb158) (o := .cells #[.int .i64 t150,.int .i64 t151,.int .i64 t152,.int .i64 t153,.int .i64 t154,.string t155] 61 (0,0)) (by (with_reducible repeat (first|refine zA ?_ _|refine zC ?_|refine zB ?_ _));exact BK158.out)) : gb179 ≠ gb158))
    have n17_ := Aside0.mk ((by rw [hg];exact Nat.ne_of_lt (blk_lt (g := gb178) (o := .cells #[.int .i64 0,.int .i64 0,.string (⟨#[]⟩ : ByteArray)] 67 (0,0)) (by (with_reducible repeat (first|refine zA ?_ _|refine zC ?_|refine zB ?_ _));exact BK178.out)) : gb178 ≠ gb179))
    have n18_ := Aside0.mk ((by rw [hg];exact Nat.ne_of_gt (blk_lt (g := gb178) (o := .cells #[.int .i64 0,.int .i64 0,.string (⟨#[]⟩ : ByteArray)] 67 (0,0)) (by (with_reducible repeat (first|refine zA ?_ _|refine zC ?_|refine zB ?_ _));exact BK178.out)) : gb179 ≠ gb178))
    clear BK134
    clear BK135
    clear BK157
    clear BK158
    clear BK178
    clear HB
    have BK134 := n0_
    have BK135 := n1_
    have BK157 := n2_
    have BK158 := n3_
    have BK178 := n4_
    have HB := n5_
    have BK179 := n6_
    have GW179 := n7_
    have GE179 := n8_
    have NB134_179 := n9_
    have NB179_134 := n10_
    have NB135_179 := n11_
    have NB179_135 := n12_
    have NB157_179 := n13_
    have NB179_157 := n14_
    have NB158_179 := n15_
    have NB179_158 := n16_
    have NB178_179 := n17_
    have NB179_178 := n18_
    clear n0_ n1_ n2_ n3_ n4_ n5_ n6_ n7_ n8_ n9_ n10_ n11_ n12_ n13_ n14_ n15_ n16_ n17_ n18_
    clear hb hbox hg
    refine hK.out _ _ ⟨(zO BK134.out 0).trans rfl,(zO BK134.out 1).trans rfl,(zO BK134.out 2).trans rfl,(zO BK135.out 0).trans rfl,(zO BK135.out 1).trans rfl,(zO BK135.out 2).trans rfl,(zO BK135.out 3).trans rfl,(zO BK135.out 4).trans rfl,(zO BK135.out 5).trans rfl⟩ (fun hHeld => ?_)
    clear hK K
    refine norm_ (a' := ?_) ?_ ?_
    rotate_left
    ·show Act.put _ (some 10) _ = _
     simp only [Act.put,List.setIfInBounds_toArray,List.set_cons_zero,List.set_cons_succ,i64_w,i32_w]
     rfl
    exact norm_ (by first|(simp only [putAll,Act.put,List.setIfInBounds_toArray,List.set_cons_zero,List.set_cons_succ];done)|(simp only [putAll,Act.put,List.setIfInBounds_toArray,List.set_cons_zero,List.set_cons_succ];rfl)) (hJ1_3_4_9_10 (gb178,gb179) _ ⟨hHeld,(by (with_reducible repeat (first|refine zA ?_ _|refine zC ?_|refine zB ?_ _));exact BK134.out),(by (with_reducible repeat (first|refine zA ?_ _|refine zC ?_|refine zB ?_ _));exact BK135.out),(by (with_reducible repeat (first|refine zA ?_ _|refine zC ?_|refine zB ?_ _));exact BK157.out),(by (with_reducible repeat (first|refine zA ?_ _|refine zC ?_|refine zB ?_ _));exact BK158.out),(by (with_reducible repeat (first|refine zA ?_ _|refine zC ?_|refine zB ?_ _));exact BK178.out),(by (with_reducible repeat (first|refine zA ?_ _|refine zC ?_|refine zB ?_ _));exact BK179.out),GW178.out,GE178.out,NB134_178.out,NB178_134.out,NB135_178.out,NB178_135.out,NB157_178.out,NB178_157.out,NB158_178.out,NB178_158.out,NB179_178.out,NB178_179.out,GW179.out,GE179.out,NB134_179.out,NB179_134.out,NB135_179.out,NB179_135.out,NB157_179.out,NB179_157.out,NB158_179.out,NB179_158.out,(by repeat (first|(with_reducible first|exact HB.out|apply zI|apply zG|apply zH|refine zJ ?_ GE134.out|refine zJ ?_ GE135.out|refine zJ ?_ GE157.out|refine zJ ?_ GE158.out|refine zJ ?_ GE178.out|refine zJ ?_ GE179.out)|exact HB.out))⟩)
  rintro ⟨gb178,gb179⟩ w120 ⟨hS_,h0_,h1_,h2_,h3_,h4_,h5_,h6_,h7_,h8_,h9_,h10_,h11_,h12_,h13_,h14_,h15_,h16_,h17_,h18_,h19_,h20_,h21_,h22_,h23_,h24_,h25_,h26_,h27_,h28_⟩
  have n0_ : Aside0 (w120.heap[gb134]? = some (.cells #[.int .i64 a0_0,.int .i64 a0_1,.string a0_2] 63 (0,0))) := ⟨h0_⟩
  have n1_ : Aside0 (w120.heap[gb135]? = some (.cells #[.int .i64 a1_0,.int .i64 a1_1,.int .i64 a1_2,.int .i64 a1_3,.int .i64 a1_4,.string a1_5] 64 (0,0))) := ⟨h1_⟩
  have n2_ : Aside0 (w120.heap[gb157]? = some (.cells #[.int .i64 t147,.int .i64 t148,.string t149] 67 (0,0))) := ⟨h2_⟩
  have n3_ : Aside0 (w120.heap[gb158]? = some (.cells #[.int .i64 t150,.int .i64 t151,.int .i64 t152,.int .i64 t153,.int .i64 t154,.string t155] 61 (0,0))) := ⟨h3_⟩
  have n4_ : Aside0 (w120.heap[gb178]? = some (.cells #[.int .i64 0,.int .i64 0,.string (⟨#[]⟩ : ByteArray)] 67 (0,0))) := ⟨h4_⟩
  have n5_ : Aside0 (w120.heap[gb179]? = some (.cells #[.int .i64 0,.int .i64 0,.int .i64 0,.int .i64 0,.int .i64 0,.string (⟨#[]⟩ : ByteArray)] 61 (0,0))) := ⟨h5_⟩
  have n6_ : Aside0 (w.heap.size ≤ gb178) := ⟨h6_⟩
  have n7_ : Aside0 (w.heap.size ≤ gb178) := ⟨h7_⟩
  have n8_ : Aside0 (gb134 ≠ gb178) := ⟨h8_⟩
  have n9_ : Aside0 (gb178 ≠ gb134) := ⟨h9_⟩
  have n10_ : Aside0 (gb135 ≠ gb178) := ⟨h10_⟩
  have n11_ : Aside0 (gb178 ≠ gb135) := ⟨h11_⟩
  have n12_ : Aside0 (gb157 ≠ gb178) := ⟨h12_⟩
  have n13_ : Aside0 (gb178 ≠ gb157) := ⟨h13_⟩
  have n14_ : Aside0 (gb158 ≠ gb178) := ⟨h14_⟩
  have n15_ : Aside0 (gb178 ≠ gb158) := ⟨h15_⟩
  have n16_ : Aside0 (gb179 ≠ gb178) := ⟨h16_⟩
  have n17_ : Aside0 (gb178 ≠ gb179) := ⟨h17_⟩
  have n18_ : Aside0 (w.heap.size ≤ gb179) := ⟨h18_⟩
  have n19_ : Aside0 (w.heap.size ≤ gb179) := ⟨h19_⟩
  have n20_ : Aside0 (gb134 ≠ gb179) := ⟨h20_⟩
  have n21_ : Aside0 (gb179 ≠ gb134) := ⟨h21_⟩
  have n22_ : Aside0 (gb135 ≠ gb179) := ⟨h22_⟩
  have n23_ : Aside0 (gb179 ≠ gb135) := ⟨h23_⟩
  have n24_ : Aside0 (gb157 ≠ gb179) := ⟨h24_⟩
  have n25_ : Aside0 (gb179 ≠ gb157) := ⟨h25_⟩
  have n26_ : Aside0 (gb158 ≠ gb179) := ⟨h26_⟩
  have n27_ : Aside0 (gb179 ≠ gb158) := ⟨h27_⟩
  have n28_ : Aside0 (Below w.heap.size w w120) := ⟨h28_⟩
  clear BK134
  clear BK135
  clear BK157
  clear BK158
  clear HB
  clear h0_ h1_ h2_ h3_ h4_ h5_ h6_ h7_ h8_ h9_ h10_ h11_ h12_ h13_ h14_ h15_ h16_ h17_ h18_ h19_ h20_ h21_ h22_ h23_ h24_ h25_ h26_ h27_ h28_
  have BK134 := n0_
  have BK135 := n1_
  have BK157 := n2_
  have BK158 := n3_
  have BK178 := n4_
  have BK179 := n5_
  have GW178 := n6_
  have GE178 := n7_
  have NB134_178 := n8_
  have NB178_134 := n9_
  have NB135_178 := n10_
  have NB178_135 := n11_
  have NB157_178 := n12_
  have NB178_157 := n13_
  have NB158_178 := n14_
  have NB178_158 := n15_
  have NB179_178 := n16_
  have NB178_179 := n17_
  have GW179 := n18_
  have GE179 := n19_
  have NB134_179 := n20_
  have NB179_134 := n21_
  have NB135_179 := n22_
  have NB179_135 := n23_
  have NB157_179 := n24_
  have NB179_157 := n25_
  have NB158_179 := n26_
  have NB179_158 := n27_
  have HB := n28_
  clear n0_ n1_ n2_ n3_ n4_ n5_ n6_ n7_ n8_ n9_ n10_ n11_ n12_ n13_ n14_ n15_ n16_ n17_ n18_ n19_ n20_ n21_ n22_ n23_ n24_ n25_ n26_ n27_ n28_
  have hHeld : w120.cell? ⟨gb134,0,none⟩ = some (.int .i64 a0_0) ∧ w120.cell? ⟨gb134,1,none⟩ = some (.int .i64 a0_1) ∧ w120.cell? ⟨gb134,2,none⟩ = some (.string a0_2) ∧ w120.cell? ⟨gb135,0,none⟩ = some (.int .i64 a1_0) ∧ w120.cell? ⟨gb135,1,none⟩ = some (.int .i64 a1_1) ∧ w120.cell? ⟨gb135,2,none⟩ = some (.int .i64 a1_2) ∧ w120.cell? ⟨gb135,3,none⟩ = some (.int .i64 a1_3) ∧ w120.cell? ⟨gb135,4,none⟩ = some (.int .i64 a1_4) ∧ w120.cell? ⟨gb135,5,none⟩ = some (.string a1_5) := hS_
  refine norm_ (a' := ?_) ?_ ?_
  rotate_left
  ·simp only [putAll,Act.put,List.setIfInBounds_toArray,List.set_cons_zero,List.set_cons_succ]
   rfl
  refine one_ (i := 11) (N := none) #[true,true,true,true,true,true,true,true,true,true,true,true,false,false] rfl rfl (one_of HT_.out (by kernel_rfl)) (by decide) (fun K hK => ?_)
  have hs121 : w120.cell? ⟨gb178,0,none⟩ = some (.int .i64 0) := (zO BK178.out 0).trans rfl
  have hfs121 := zP BK178.out 0
  have hns121_0 := NB134_178.out
  have hns121_1 := NB135_178.out
  have hns121_2 := NB157_178.out
  have hns121_3 := NB158_178.out
  have hns121_5 := NB179_178.out
  have hms121_0 := NB178_134.out
  have hms121_1 := NB178_135.out
  have hms121_2 := NB178_157.out
  have hms121_3 := NB178_158.out
  have hms121_5 := NB178_179.out
  have hs122 : w120.cell? ⟨gb178,1,none⟩ = some (.int .i64 0) := (zO BK178.out 1).trans rfl
  have hfs122 := zP BK178.out 1
  have hns122_0 := NB134_178.out
  have hns122_1 := NB135_178.out
  have hns122_2 := NB157_178.out
  have hns122_3 := NB158_178.out
  have hns122_5 := NB179_178.out
  have hms122_0 := NB178_134.out
  have hms122_1 := NB178_135.out
  have hms122_2 := NB178_157.out
  have hms122_3 := NB178_158.out
  have hms122_5 := NB178_179.out
  have hs123 : w120.cell? ⟨gb178,2,none⟩ = some (.string (⟨#[]⟩ : ByteArray)) := (zO BK178.out 2).trans rfl
  have hfs123 := zP BK178.out 2
  have hns123_0 := NB134_178.out
  have hns123_1 := NB135_178.out
  have hns123_2 := NB157_178.out
  have hns123_3 := NB158_178.out
  have hns123_5 := NB179_178.out
  have hms123_0 := NB178_134.out
  have hms123_1 := NB178_135.out
  have hms123_2 := NB178_157.out
  have hms123_3 := NB178_158.out
  have hms123_5 := NB178_179.out
  refine skip_ (w1 := ?_) (by rfl) rfl ?_ ?_
  rotate_left
  ·go_simp
   rfl
  refine hK.out _ _ ⟨((cell_far (p := ⟨gb178,_,none⟩) NB134_178.out _).trans (((cell_far (p := ⟨gb178,_,none⟩) NB134_178.out _).trans (((cell_far (p := ⟨gb178,_,none⟩) NB134_178.out _).trans (hHeld.1)))))),((cell_far (p := ⟨gb178,_,none⟩) NB134_178.out _).trans (((cell_far (p := ⟨gb178,_,none⟩) NB134_178.out _).trans (((cell_far (p := ⟨gb178,_,none⟩) NB134_178.out _).trans (hHeld.2.1)))))),((cell_far (p := ⟨gb178,_,none⟩) NB134_178.out _).trans (((cell_far (p := ⟨gb178,_,none⟩) NB134_178.out _).trans (((cell_far (p := ⟨gb178,_,none⟩) NB134_178.out _).trans (hHeld.2.2.1)))))),((cell_far (p := ⟨gb178,_,none⟩) NB135_178.out _).trans (((cell_far (p := ⟨gb178,_,none⟩) NB135_178.out _).trans (((cell_far (p := ⟨gb178,_,none⟩) NB135_178.out _).trans (hHeld.2.2.2.1)))))),((cell_far (p := ⟨gb178,_,none⟩) NB135_178.out _).trans (((cell_far (p := ⟨gb178,_,none⟩) NB135_178.out _).trans (((cell_far (p := ⟨gb178,_,none⟩) NB135_178.out _).trans (hHeld.2.2.2.2.1)))))),((cell_far (p := ⟨gb178,_,none⟩) NB135_178.out _).trans (((cell_far (p := ⟨gb178,_,none⟩) NB135_178.out _).trans (((cell_far (p := ⟨gb178,_,none⟩) NB135_178.out _).trans (hHeld.2.2.2.2.2.1)))))),((cell_far (p := ⟨gb178,_,none⟩) NB135_178.out _).trans (((cell_far (p := ⟨gb178,_,none⟩) NB135_178.out _).trans (((cell_far (p := ⟨gb178,_,none⟩) NB135_178.out _).trans (hHeld.2.2.2.2.2.2.1)))))),((cell_far (p := ⟨gb178,_,none⟩) NB135_178.out _).trans (((cell_far (p := ⟨gb178,_,none⟩) NB135_178.out _).trans (((cell_far (p := ⟨gb178,_,none⟩) NB135_178.out _).trans (hHeld.2.2.2.2.2.2.2.1)))))),((cell_far (p := ⟨gb178,_,none⟩) NB135_178.out _).trans (((cell_far (p := ⟨gb178,_,none⟩) NB135_178.out _).trans (((cell_far (p := ⟨gb178,_,none⟩) NB135_178.out _).trans (hHeld.2.2.2.2.2.2.2.2))))))⟩ (fun hHeld => ?_)
  clear hK K
  refine one_ (i := 12) (N := none) #[true,true,true,true,true,true,true,true,true,true,true,true,true,false] rfl rfl (one_of HT_.out (by kernel_rfl)) (by decide) (fun K hK => ?_)
  have hs124 : w120.cell? ⟨gb179,0,none⟩ = some (.int .i64 0) := (zO BK179.out 0).trans rfl
  have hfs124 := zP BK179.out 0
  have hns124_0 := NB134_179.out
  have hns124_1 := NB135_179.out
  have hns124_2 := NB157_179.out
  have hns124_3 := NB158_179.out
  have hns124_4 := NB178_179.out
  have hms124_0 := NB179_134.out
  have hms124_1 := NB179_135.out
  have hms124_2 := NB179_157.out
  have hms124_3 := NB179_158.out
  have hms124_4 := NB179_178.out
  have hs125 : w120.cell? ⟨gb179,1,none⟩ = some (.int .i64 0) := (zO BK179.out 1).trans rfl
  have hfs125 := zP BK179.out 1
  have hns125_0 := NB134_179.out
  have hns125_1 := NB135_179.out
  have hns125_2 := NB157_179.out
  have hns125_3 := NB158_179.out
  have hns125_4 := NB178_179.out
  have hms125_0 := NB179_134.out
  have hms125_1 := NB179_135.out
  have hms125_2 := NB179_157.out
  have hms125_3 := NB179_158.out
  have hms125_4 := NB179_178.out
  have hs126 : w120.cell? ⟨gb179,2,none⟩ = some (.int .i64 0) := (zO BK179.out 2).trans rfl
  have hfs126 := zP BK179.out 2
  have hns126_0 := NB134_179.out
  have hns126_1 := NB135_179.out
  have hns126_2 := NB157_179.out
  have hns126_3 := NB158_179.out
  have hns126_4 := NB178_179.out
  have hms126_0 := NB179_134.out
  have hms126_1 := NB179_135.out
  have hms126_2 := NB179_157.out
  have hms126_3 := NB179_158.out
  have hms126_4 := NB179_178.out
  have hs127 : w120.cell? ⟨gb179,3,none⟩ = some (.int .i64 0) := (zO BK179.out 3).trans rfl
  have hfs127 := zP BK179.out 3
  have hns127_0 := NB134_179.out
  have hns127_1 := NB135_179.out
  have hns127_2 := NB157_179.out
  have hns127_3 := NB158_179.out
  have hns127_4 := NB178_179.out
  have hms127_0 := NB179_134.out
  have hms127_1 := NB179_135.out
  have hms127_2 := NB179_157.out
  have hms127_3 := NB179_158.out
  have hms127_4 := NB179_178.out
  have hs128 : w120.cell? ⟨gb179,4,none⟩ = some (.int .i64 0) := (zO BK179.out 4).trans rfl
  have hfs128 := zP BK179.out 4
  have hns128_0 := NB134_179.out
  have hns128_1 := NB135_179.out
  have hns128_2 := NB157_179.out
  have hns128_3 := NB158_179.out
  have hns128_4 := NB178_179.out
  have hms128_0 := NB179_134.out
  have hms128_1 := NB179_135.out
  have hms128_2 := NB179_157.out
  have hms128_3 := NB179_158.out
  have hms128_4 := NB179_178.out
  have hs129 : w120.cell? ⟨gb179,5,none⟩ = some (.string (⟨#[]⟩ : ByteArray)) := (zO BK179.out 5).trans rfl
  have hfs129 := zP BK179.out 5
  have hns129_0 := NB134_179.out
  have hns129_1 := NB135_179.out
  have hns129_2 := NB157_179.out
  have hns129_3 := NB158_179.out
  have hns129_4 := NB178_179.out
  have hms129_0 := NB179_134.out
  have hms129_1 := NB179_135.out
  have hms129_2 := NB179_157.out
  have hms129_3 := NB179_158.out
  have hms129_4 := NB179_178.out
  refine skip_ (w1 := ?_) (by rfl) rfl ?_ ?_
  rotate_left
  ·go_simp
   rfl
  refine hK.out _ _ ⟨((cell_far (p := ⟨gb179,_,none⟩) NB134_179.out _).trans (((cell_far (p := ⟨gb179,_,none⟩) NB134_179.out _).trans (((cell_far (p := ⟨gb179,_,none⟩) NB134_179.out _).trans (((cell_far (p := ⟨gb179,_,none⟩) NB134_179.out _).trans (((cell_far (p := ⟨gb179,_,none⟩) NB134_179.out _).trans (((cell_far (p := ⟨gb179,_,none⟩) NB134_179.out _).trans (hHeld.1)))))))))))),((cell_far (p := ⟨gb179,_,none⟩) NB134_179.out _).trans (((cell_far (p := ⟨gb179,_,none⟩) NB134_179.out _).trans (((cell_far (p := ⟨gb179,_,none⟩) NB134_179.out _).trans (((cell_far (p := ⟨gb179,_,none⟩) NB134_179.out _).trans (((cell_far (p := ⟨gb179,_,none⟩) NB134_179.out _).trans (((cell_far (p := ⟨gb179,_,none⟩) NB134_179.out _).trans (hHeld.2.1)))))))))))),((cell_far (p := ⟨gb179,_,none⟩) NB134_179.out _).trans (((cell_far (p := ⟨gb179,_,none⟩) NB134_179.out _).trans (((cell_far (p := ⟨gb179,_,none⟩) NB134_179.out _).trans (((cell_far (p := ⟨gb179,_,none⟩) NB134_179.out _).trans (((cell_far (p := ⟨gb179,_,none⟩) NB134_179.out _).trans (((cell_far (p := ⟨gb179,_,none⟩) NB134_179.out _).trans (hHeld.2.2.1)))))))))))),((cell_far (p := ⟨gb179,_,none⟩) NB135_179.out _).trans (((cell_far (p := ⟨gb179,_,none⟩) NB135_179.out _).trans (((cell_far (p := ⟨gb179,_,none⟩) NB135_179.out _).trans (((cell_far (p := ⟨gb179,_,none⟩) NB135_179.out _).trans (((cell_far (p := ⟨gb179,_,none⟩) NB135_179.out _).trans (((cell_far (p := ⟨gb179,_,none⟩) NB135_179.out _).trans (hHeld.2.2.2.1)))))))))))),((cell_far (p := ⟨gb179,_,none⟩) NB135_179.out _).trans (((cell_far (p := ⟨gb179,_,none⟩) NB135_179.out _).trans (((cell_far (p := ⟨gb179,_,none⟩) NB135_179.out _).trans (((cell_far (p := ⟨gb179,_,none⟩) NB135_179.out _).trans (((cell_far (p := ⟨gb179,_,none⟩) NB135_179.out _).trans (((cell_far (p := ⟨gb179,_,none⟩) NB135_179.out _).trans (hHeld.2.2.2.2.1)))))))))))),((cell_far (p := ⟨gb179,_,none⟩) NB135_179.out _).trans (((cell_far (p := ⟨gb179,_,none⟩) NB135_179.out _).trans (((cell_far (p := ⟨gb179,_,none⟩) NB135_179.out _).trans (((cell_far (p := ⟨gb179,_,none⟩) NB135_179.out _).trans (((cell_far (p := ⟨gb179,_,none⟩) NB135_179.out _).trans (((cell_far (p := ⟨gb179,_,none⟩) NB135_179.out _).trans (hHeld.2.2.2.2.2.1)))))))))))),((cell_far (p := ⟨gb179,_,none⟩) NB135_179.out _).trans (((cell_far (p := ⟨gb179,_,none⟩) NB135_179.out _).trans (((cell_far (p := ⟨gb179,_,none⟩) NB135_179.out _).trans (((cell_far (p := ⟨gb179,_,none⟩) NB135_179.out _).trans (((cell_far (p := ⟨gb179,_,none⟩) NB135_179.out _).trans (((cell_far (p := ⟨gb179,_,none⟩) NB135_179.out _).trans (hHeld.2.2.2.2.2.2.1)))))))))))),((cell_far (p := ⟨gb179,_,none⟩) NB135_179.out _).trans (((cell_far (p := ⟨gb179,_,none⟩) NB135_179.out _).trans (((cell_far (p := ⟨gb179,_,none⟩) NB135_179.out _).trans (((cell_far (p := ⟨gb179,_,none⟩) NB135_179.out _).trans (((cell_far (p := ⟨gb179,_,none⟩) NB135_179.out _).trans (((cell_far (p := ⟨gb179,_,none⟩) NB135_179.out _).trans (hHeld.2.2.2.2.2.2.2.1)))))))))))),((cell_far (p := ⟨gb179,_,none⟩) NB135_179.out _).trans (((cell_far (p := ⟨gb179,_,none⟩) NB135_179.out _).trans (((cell_far (p := ⟨gb179,_,none⟩) NB135_179.out _).trans (((cell_far (p := ⟨gb179,_,none⟩) NB135_179.out _).trans (((cell_far (p := ⟨gb179,_,none⟩) NB135_179.out _).trans (((cell_far (p := ⟨gb179,_,none⟩) NB135_179.out _).trans (hHeld.2.2.2.2.2.2.2.2))))))))))))⟩ (fun hHeld => ?_)
  clear hK K
  refine pure_ (i := 13) (N := some 11) (v := ?_) (a' := ?_) #[true,true,true,true,true,true,true,true,true,true,true,true,true,true] rfl rfl (any_of HT_.out (by kernel_rfl)) (fun _ _ _ h => h) (Or.inl ⟨by rfl,?_⟩) ?_ ?_
  rotate_left
  ·intro w'
   go_simp
   with_reducible rfl
  rotate_left
  ·simp only [Act.put,List.setIfInBounds_toArray,List.set_cons_zero,List.set_cons_succ,i64_w,i32_w]
   rfl
  refine done_ (done_of HT_.out (by kernel_rfl)) ?_
  have hnb130 := NB178_134.out
  have hnc130 := NB134_178.out
  have hnb131 := NB178_135.out
  have hnc131 := NB135_178.out
  have hnb132 := NB178_157.out
  have hnc132 := NB157_178.out
  have hnb133 := NB178_158.out
  have hnc133 := NB158_178.out
  have hnb134 := NB178_179.out
  have hnc134 := NB179_178.out
  have hcz135_0 : w120.cell? ⟨gb178,0,none⟩ = some (.int .i64 0) := (zO BK178.out 0).trans rfl
  have hcz135_1 : w120.cell? ⟨gb178,1,none⟩ = some (.int .i64 0) := (zO BK178.out 1).trans rfl
  have hcz135_2 : w120.cell? ⟨gb178,2,none⟩ = some (.string (⟨#[]⟩ : ByteArray)) := (zO BK178.out 2).trans rfl
  have hfz135_0 := zP BK178.out 0
  have hfz135_1 := zP BK178.out 1
  have hfz135_2 := zP BK178.out 2
  have hnb136 := NB157_134.out
  have hnc136 := NB134_157.out
  have hnb137 := NB157_135.out
  have hnc137 := NB135_157.out
  have hnb138 := NB157_158.out
  have hnc138 := NB158_157.out
  have hnb139 := NB157_179.out
  have hnc139 := NB179_157.out
  have hcz140_0 : w120.cell? ⟨gb157,0,none⟩ = some (.int .i64 t147) := (zO BK157.out 0).trans rfl
  have hcz140_1 : w120.cell? ⟨gb157,1,none⟩ = some (.int .i64 t148) := (zO BK157.out 1).trans rfl
  have hcz140_2 : w120.cell? ⟨gb157,2,none⟩ = some (.string t149) := (zO BK157.out 2).trans rfl
  have hfz140_0 := zP BK157.out 0
  have hfz140_1 := zP BK157.out 1
  have hfz140_2 := zP BK157.out 2
  try go_wp2_with (first|((with_reducible refine gate_callee (f := 50) rfl ?_);refine goesL_ (some 42) rfl rfl Try.func50 (by kernel_rfl) rfl #[.agg #[.int .i64 t168,.int .i64 t169,.string t170],.agg #[.int .i64 t147,.int .i64 t148,.string t149]] rfl (by (try simp only [List.map_toArray,List.map_cons,List.map_nil]);first|done|rfl|(simp only [List.length_drop,List.length_take];rfl)) ?_;(with_reducible refine (laws_eqVoice.calls t168 t169 t170 t147 t148 t149 true _ A25.out).mono ?_);rintro e w141 ⟨rfl,hb⟩;refine ⟨_,rfl,?_⟩;have n0_ := Aside0.mk (zK (g := gb134) (o := .cells #[.int .i64 a0_0,.int .i64 a0_1,.string a0_2] 63 (0,0)) (by (with_reducible repeat (first|refine zA ?_ _|refine zC ?_|refine zB ?_ _));refine zT ?_ NB134_179.out _;(with_reducible repeat (first|refine zA ?_ _|refine zC ?_|refine zB ?_ _));refine zT ?_ NB134_179.out _;(with_reducible repeat (first|refine zA ?_ _|refine zC ?_|refine zB ?_ _));refine zT ?_ NB134_179.out _;(with_reducible repeat (first|refine zA ?_ _|refine zC ?_|refine zB ?_ _));refine zT ?_ NB134_179.out _;(with_reducible repeat (first|refine zA ?_ _|refine zC ?_|refine zB ?_ _));refine zT ?_ NB134_179.out _;(with_reducible repeat (first|refine zA ?_ _|refine zC ?_|refine zB ?_ _));refine zT ?_ NB134_179.out _;(with_reducible repeat (first|refine zA ?_ _|refine zC ?_|refine zB ?_ _));refine zT ?_ NB134_178.out _;(with_reducible repeat (first|refine zA ?_ _|refine zC ?_|refine zB ?_ _));refine zT ?_ NB134_178.out _;(with_reducible repeat (first|refine zA ?_ _|refine zC ?_|refine zB ?_ _));refine zT ?_ NB134_178.out _;(with_reducible repeat (first|refine zA ?_ _|refine zC ?_|refine zB ?_ _));exact BK134.out) hb);have n1_ := Aside0.mk (zK (g := gb135) (o := .cells #[.int .i64 a1_0,.int .i64 a1_1,.int .i64 a1_2,.int .i64 a1_3,.int .i64 a1_4,.string a1_5] 64 (0,0)) (by (with_reducible repeat (first|refine zA ?_ _|refine zC ?_|refine zB ?_ _));refine zT ?_ NB135_179.out _;(with_reducible repeat (first|refine zA ?_ _|refine zC ?_|refine zB ?_ _));refine zT ?_ NB135_179.out _;(with_reducible repeat (first|refine zA ?_ _|refine zC ?_|refine zB ?_ _));refine zT ?_ NB135_179.out _;(with_reducible repeat (first|refine zA ?_ _|refine zC ?_|refine zB ?_ _));refine zT ?_ NB135_179.out _;(with_reducible repeat (first|refine zA ?_ _|refine zC ?_|refine zB ?_ _));refine zT ?_ NB135_179.out _;(with_reducible repeat (first|refine zA ?_ _|refine zC ?_|refine zB ?_ _));refine zT ?_ NB135_179.out _;(with_reducible repeat (first|refine zA ?_ _|refine zC ?_|refine zB ?_ _));refine zT ?_ NB135_178.out _;(with_reducible repeat (first|refine zA ?_ _|refine zC ?_|refine zB ?_ _));refine zT ?_ NB135_178.out _;(with_reducible repeat (first|refine zA ?_ _|refine zC ?_|refine zB ?_ _));refine zT ?_ NB135_178.out _;(with_reducible repeat (first|refine zA ?_ _|refine zC ?_|refine zB ?_ _));exact BK135.out) hb);have n2_ := Aside0.mk (zK (g := gb157) (o := .cells #[.int .i64 t147,.int .i64 t148,.string t149] 67 (0,0)) (by (with_reducible repeat (first|refine zA ?_ _|refine zC ?_|refine zB ?_ _));refine zT ?_ NB157_179.out _;(with_reducible repeat (first|refine zA ?_ _|refine zC ?_|refine zB ?_ _));refine zT ?_ NB157_179.out _;(with_reducible repeat (first|refine zA ?_ _|refine zC ?_|refine zB ?_ _));refine zT ?_ NB157_179.out _;(with_reducible repeat (first|refine zA ?_ _|refine zC ?_|refine zB ?_ _));refine zT ?_ NB157_179.out _;(with_reducible repeat (first|refine zA ?_ _|refine zC ?_|refine zB ?_ _));refine zT ?_ NB157_179.out _;(with_reducible repeat (first|refine zA ?_ _|refine zC ?_|refine zB ?_ _));refine zT ?_ NB157_179.out _;(with_reducible repeat (first|refine zA ?_ _|refine zC ?_|refine zB ?_ _));refine zT ?_ NB157_178.out _;(with_reducible repeat (first|refine zA ?_ _|refine zC ?_|refine zB ?_ _));refine zT ?_ NB157_178.out _;(with_reducible repeat (first|refine zA ?_ _|refine zC ?_|refine zB ?_ _));refine zT ?_ NB157_178.out _;(with_reducible repeat (first|refine zA ?_ _|refine zC ?_|refine zB ?_ _));exact BK157.out) hb);have n3_ := Aside0.mk (zK (g := gb158) (o := .cells #[.int .i64 t150,.int .i64 t151,.int .i64 t152,.int .i64 t153,.int .i64 t154,.string t155] 61 (0,0)) (by (with_reducible repeat (first|refine zA ?_ _|refine zC ?_|refine zB ?_ _));refine zT ?_ NB158_179.out _;(with_reducible repeat (first|refine zA ?_ _|refine zC ?_|refine zB ?_ _));refine zT ?_ NB158_179.out _;(with_reducible repeat (first|refine zA ?_ _|refine zC ?_|refine zB ?_ _));refine zT ?_ NB158_179.out _;(with_reducible repeat (first|refine zA ?_ _|refine zC ?_|refine zB ?_ _));refine zT ?_ NB158_179.out _;(with_reducible repeat (first|refine zA ?_ _|refine zC ?_|refine zB ?_ _));refine zT ?_ NB158_179.out _;(with_reducible repeat (first|refine zA ?_ _|refine zC ?_|refine zB ?_ _));refine zT ?_ NB158_179.out _;(with_reducible repeat (first|refine zA ?_ _|refine zC ?_|refine zB ?_ _));refine zT ?_ NB158_178.out _;(with_reducible repeat (first|refine zA ?_ _|refine zC ?_|refine zB ?_ _));refine zT ?_ NB158_178.out _;(with_reducible repeat (first|refine zA ?_ _|refine zC ?_|refine zB ?_ _));refine zT ?_ NB158_178.out _;(with_reducible repeat (first|refine zA ?_ _|refine zC ?_|refine zB ?_ _));exact BK158.out) hb);have n4_ := Aside0.mk (zK (g := gb178) (o := .cells #[.int .i64 t168,.int .i64 t169,.string t170] 67 (0,0)) (by (with_reducible repeat (first|refine zA ?_ _|refine zC ?_|refine zB ?_ _));refine zT ?_ NB178_179.out _;(with_reducible repeat (first|refine zA ?_ _|refine zC ?_|refine zB ?_ _));refine zT ?_ NB178_179.out _;(with_reducible repeat (first|refine zA ?_ _|refine zC ?_|refine zB ?_ _));refine zT ?_ NB178_179.out _;(with_reducible repeat (first|refine zA ?_ _|refine zC ?_|refine zB ?_ _));refine zT ?_ NB178_179.out _;(with_reducible repeat (first|refine zA ?_ _|refine zC ?_|refine zB ?_ _));refine zT ?_ NB178_179.out _;(with_reducible repeat (first|refine zA ?_ _|refine zC ?_|refine zB ?_ _));refine zT ?_ NB178_179.out _;(with_reducible repeat (first|refine zA ?_ _|refine zC ?_|refine zB ?_ _));refine blk_put (cs := #[.int .i64 t168,.int .i64 t169,.string (⟨#[]⟩ : ByteArray)]) ?_ 2 _ rfl;(with_reducible repeat (first|refine zA ?_ _|refine zC ?_|refine zB ?_ _));refine blk_put (cs := #[.int .i64 t168,.int .i64 0,.string (⟨#[]⟩ : ByteArray)]) ?_ 1 _ rfl;(with_reducible repeat (first|refine zA ?_ _|refine zC ?_|refine zB ?_ _));refine blk_put (cs := #[.int .i64 0,.int .i64 0,.string (⟨#[]⟩ : ByteArray)]) ?_ 0 _ rfl;(with_reducible repeat (first|refine zA ?_ _|refine zC ?_|refine zB ?_ _));exact BK178.out) hb);have n5_ := Aside0.mk (zK (g := gb179) (o := .cells #[.int .i64 t171,.int .i64 t172,.int .i64 t173,.int .i64 t174,.int .i64 t175,.string t176] 61 (0,0)) (by (with_reducible repeat (first|refine zA ?_ _|refine zC ?_|refine zB ?_ _));refine blk_put (cs := #[.int .i64 t171,.int .i64 t172,.int .i64 t173,.int .i64 t174,.int .i64 t175,.string (⟨#[]⟩ : ByteArray)]) ?_ 5 _ rfl;(with_reducible repeat (first|refine zA ?_ _|refine zC ?_|refine zB ?_ _));refine blk_put (cs := #[.int .i64 t171,.int .i64 t172,.int .i64 t173,.int .i64 t174,.int .i64 0,.string (⟨#[]⟩ : ByteArray)]) ?_ 4 _ rfl;(with_reducible repeat (first|refine zA ?_ _|refine zC ?_|refine zB ?_ _));refine blk_put (cs := #[.int .i64 t171,.int .i64 t172,.int .i64 t173,.int .i64 0,.int .i64 0,.string (⟨#[]⟩ : ByteArray)]) ?_ 3 _ rfl;(with_reducible repeat (first|refine zA ?_ _|refine zC ?_|refine zB ?_ _));refine blk_put (cs := #[.int .i64 t171,.int .i64 t172,.int .i64 0,.int .i64 0,.int .i64 0,.string (⟨#[]⟩ : ByteArray)]) ?_ 2 _ rfl;(with_reducible repeat (first|refine zA ?_ _|refine zC ?_|refine zB ?_ _));refine blk_put (cs := #[.int .i64 t171,.int .i64 0,.int .i64 0,.int .i64 0,.int .i64 0,.string (⟨#[]⟩ : ByteArray)]) ?_ 1 _ rfl;(with_reducible repeat (first|refine zA ?_ _|refine zC ?_|refine zB ?_ _));refine blk_put (cs := #[.int .i64 0,.int .i64 0,.int .i64 0,.int .i64 0,.int .i64 0,.string (⟨#[]⟩ : ByteArray)]) ?_ 0 _ rfl;(with_reducible repeat (first|refine zA ?_ _|refine zC ?_|refine zB ?_ _));refine zT ?_ NB179_178.out _;(with_reducible repeat (first|refine zA ?_ _|refine zC ?_|refine zB ?_ _));refine zT ?_ NB179_178.out _;(with_reducible repeat (first|refine zA ?_ _|refine zC ?_|refine zB ?_ _));refine zT ?_ NB179_178.out _;(with_reducible repeat (first|refine zA ?_ _|refine zC ?_|refine zB ?_ _));exact BK179.out) hb);have n6_ := Aside0.mk (zN (by repeat (first|(with_reducible first|exact HB.out|apply zI|apply zG|apply zH|refine zJ ?_ GE134.out|refine zJ ?_ GE135.out|refine zJ ?_ GE157.out|refine zJ ?_ GE158.out|refine zJ ?_ GE178.out|refine zJ ?_ GE179.out)|exact HB.out)) hb);clear BK134;clear BK135;clear BK157;clear BK158;clear BK178;clear BK179;clear HB;have BK134 := n0_;have BK135 := n1_;have BK157 := n2_;have BK158 := n3_;have BK178 := n4_;have BK179 := n5_;have HB := n6_;clear n0_ n1_ n2_ n3_ n4_ n5_ n6_;(try clear hb);(try clear hb2);(try clear hk);(try clear hi);have hnb142 := NB179_134.out;have hnc142 := NB134_179.out;have hnb143 := NB179_135.out;have hnc143 := NB135_179.out;have hnb144 := NB179_158.out;have hnc144 := NB158_179.out;have hcz145_0 : w141.cell? ⟨gb179,0,none⟩ = some (.int .i64 t171) := (zO BK179.out 0).trans rfl;have hcz145_1 : w141.cell? ⟨gb179,1,none⟩ = some (.int .i64 t172) := (zO BK179.out 1).trans rfl;have hcz145_2 : w141.cell? ⟨gb179,2,none⟩ = some (.int .i64 t173) := (zO BK179.out 2).trans rfl;have hcz145_3 : w141.cell? ⟨gb179,3,none⟩ = some (.int .i64 t174) := (zO BK179.out 3).trans rfl;have hcz145_4 : w141.cell? ⟨gb179,4,none⟩ = some (.int .i64 t175) := (zO BK179.out 4).trans rfl;have hcz145_5 : w141.cell? ⟨gb179,5,none⟩ = some (.string t176) := (zO BK179.out 5).trans rfl;have hfz145_0 := zP BK179.out 0;have hfz145_1 := zP BK179.out 1;have hfz145_2 := zP BK179.out 2;have hfz145_3 := zP BK179.out 3;have hfz145_4 := zP BK179.out 4;have hfz145_5 := zP BK179.out 5;have hnb146 := NB158_134.out;have hnc146 := NB134_158.out;have hnb147 := NB158_135.out;have hnc147 := NB135_158.out;have hcz148_0 : w141.cell? ⟨gb158,0,none⟩ = some (.int .i64 t150) := (zO BK158.out 0).trans rfl;have hcz148_1 : w141.cell? ⟨gb158,1,none⟩ = some (.int .i64 t151) := (zO BK158.out 1).trans rfl;have hcz148_2 : w141.cell? ⟨gb158,2,none⟩ = some (.int .i64 t152) := (zO BK158.out 2).trans rfl;have hcz148_3 : w141.cell? ⟨gb158,3,none⟩ = some (.int .i64 t153) := (zO BK158.out 3).trans rfl;have hcz148_4 : w141.cell? ⟨gb158,4,none⟩ = some (.int .i64 t154) := (zO BK158.out 4).trans rfl;have hcz148_5 : w141.cell? ⟨gb158,5,none⟩ = some (.string t155) := (zO BK158.out 5).trans rfl;have hfz148_0 := zP BK158.out 0;have hfz148_1 := zP BK158.out 1;have hfz148_2 := zP BK158.out 2;have hfz148_3 := zP BK158.out 3;have hfz148_4 := zP BK158.out 4;have hfz148_5 := zP BK158.out 5)|(go_at_call 51;(with_reducible refine (laws_eqNote.calls t171 t172 t173 t174 t175 t176 t150 t151 t152 t153 t154 t155 true _ A27.out).mono ?_);rintro e w149 ⟨rfl,hb⟩;have n0_ := Aside0.mk (zK (g := gb134) (o := .cells #[.int .i64 a0_0,.int .i64 a0_1,.string a0_2] 63 (0,0)) (by (with_reducible repeat (first|refine zA ?_ _|refine zC ?_|refine zB ?_ _));exact BK134.out) hb);have n1_ := Aside0.mk (zK (g := gb135) (o := .cells #[.int .i64 a1_0,.int .i64 a1_1,.int .i64 a1_2,.int .i64 a1_3,.int .i64 a1_4,.string a1_5] 64 (0,0)) (by (with_reducible repeat (first|refine zA ?_ _|refine zC ?_|refine zB ?_ _));exact BK135.out) hb);have n2_ := Aside0.mk (zK (g := gb157) (o := .cells #[.int .i64 t147,.int .i64 t148,.string t149] 67 (0,0)) (by (with_reducible repeat (first|refine zA ?_ _|refine zC ?_|refine zB ?_ _));exact BK157.out) hb);have n3_ := Aside0.mk (zK (g := gb158) (o := .cells #[.int .i64 t150,.int .i64 t151,.int .i64 t152,.int .i64 t153,.int .i64 t154,.string t155] 61 (0,0)) (by (with_reducible repeat (first|refine zA ?_ _|refine zC ?_|refine zB ?_ _));exact BK158.out) hb);have n4_ := Aside0.mk (zK (g := gb178) (o := .cells #[.int .i64 t168,.int .i64 t169,.string t170] 67 (0,0)) (by (with_reducible repeat (first|refine zA ?_ _|refine zC ?_|refine zB ?_ _));exact BK178.out) hb);have n5_ := Aside0.mk (zK (g := gb179) (o := .cells #[.int .i64 t171,.int .i64 t172,.int .i64 t173,.int .i64 t174,.int .i64 t175,.string t176] 61 (0,0)) (by (with_reducible repeat (first|refine zA ?_ _|refine zC ?_|refine zB ?_ _));exact BK179.out) hb);have n6_ := Aside0.mk (zN (by repeat (first|(with_reducible first|exact HB.out|apply zI|apply zG|apply zH|refine zJ ?_ GE134.out|refine zJ ?_ GE135.out|refine zJ ?_ GE157.out|refine zJ ?_ GE158.out|refine zJ ?_ GE178.out|refine zJ ?_ GE179.out)|exact HB.out)) hb);clear BK134;clear BK135;clear BK157;clear BK158;clear BK178;clear BK179;clear HB;have BK134 := n0_;have BK135 := n1_;have BK157 := n2_;have BK158 := n3_;have BK178 := n4_;have BK179 := n5_;have HB := n6_;clear n0_ n1_ n2_ n3_ n4_ n5_ n6_;(try clear hb);(try clear hb2);(try clear hk);(try clear hi)))
  go_ret
  exact ⟨by first|rfl|(simp [errW_none,errW_some] <;> rfl)|(simp [*,errW_none,errW_some] <;> rfl),by repeat (first|(with_reducible first|exact HB.out|apply zI|apply zG|apply zH|refine zJ ?_ GE134.out|refine zJ ?_ GE135.out|refine zJ ?_ GE157.out|refine zJ ?_ GE158.out|refine zJ ?_ GE178.out|refine zJ ?_ GE179.out)|exact HB.out)⟩
end Go.Proofs.Ytocgakpicmcemaa.PFnExactHearNote
