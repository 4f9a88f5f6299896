/- Walks of callees. -/
import Derived.Test.YtediiolcoilepaaGreatVFnExactKeepKey0
import Derived.Test.YtediiolcoilepaaGreatProg
import Derived.Lib.SliceRun
import Derived.Laws.CopyOwn
import Derived.Maps.Range
import Derived.Ground.NamesProg
import Derived.Shelf.Lay
import Derived.Shelf.Lays
import Derived.Shelf.Sort.Plain
import Derived.Shelf.Slices.In.SortNone
import Derived.Sort.OwnSorted
import Derived.BigRegion
namespace Go.Proofs.YtediiolcoilepaaGreat.GNear
set_option maxHeartbeats 8000000
set_option maxRecDepth 100000
open Go.RowKit YtediiolcoilepaaGreatW.PrintWords YtediiolcoilepaaGreatW.PrintLast YtediiolcoilepaaGreatW.PrintMore
attribute [local go_sem] A4b A4c A5j A5k A3u A3v A4d A4e
theorem B5q:(Tryz.prog.info? 3).map (fun i=>(i.zero,i.size,i.bytes))=some (some (.int .i64 0),1,8):=by kernel_rfl
theorem info4:(Tryz.prog.info? 4).map (fun i=>(i.zero,i.size,i.bytes))=some (some (.bool false),1,1):=by kernel_rfl
theorem A57:(Tryz.prog.info? 9).map (fun i=>(i.zero,i.size,i.bytes))=some (some (.string ⟨#[]⟩),1,16):=by kernel_rfl
theorem B1l:(Tryz.prog.info? 94).map (fun i=>(i.zero,i.size,i.bytes))=some (some (.agg #[(.int .i64 0),(.bool false),(.string ⟨#[]⟩),(.string ⟨#[]⟩),(.int .i64 0)]),5,56):=by kernel_rfl
theorem A4y:(Tryz.prog.info? 151).map (fun i=>(i.zero,i.size,i.bytes))=some (some (.agg #[(.string ⟨#[]⟩),(.int .i64 0)]),2,24):=by kernel_rfl
structure S196 where
 f0:Int
 f1:Bool
 f2:ByteArray
 f3:ByteArray
 f4:Int
def z196:S196:=⟨(0:Int),false,(⟨#[]⟩:ByteArray),(⟨#[]⟩:ByteArray),(0:Int)⟩
def k196:Kd S196:=Kd.iso (Kd.pair (Kd.int .i64) (Kd.pair Kd.bool (Kd.pair Kd.string (Kd.pair Kd.string (Kd.int .i64))))) (fun x:S196=>(x.f0,x.f1,x.f2,x.f3,x.f4))
theorem B3p {w:World} {x:S196} {cs:List Value} (h:k196.K w x cs):cs = [.int .i64 x.f0,.bool x.f1,.string x.f2,.string x.f3,.int .i64 x.f4]:=by
 obtain⟨_,_,rfl,rfl,⟨_,_,rfl,rfl,⟨_,_,rfl,rfl,⟨_,_,rfl,rfl,rfl⟩⟩⟩⟩:=h;exact rfl
def A5d (xs:List S196) (i:Int):S196:=xs.getD i.toNat z196
theorem B3q {w:World} {A:Option Addr} {n:Nat} {xs:List S196} (h:Kd.C k196 w A n xs) (i:Int) (h0:0≤i) (h1:i < n):∃ ad ,A=some ad∧w.cell? (ad.add (i.toNat * 5))=some (.int .i64 (A5d xs i).f0)∧w.cell? ⟨(ad.add (i.toNat * 5)).block,(ad.add (i.toNat * 5)).off+1,none⟩=some (.bool (A5d xs i).f1)∧w.cell? ⟨(ad.add (i.toNat * 5)).block,(ad.add (i.toNat * 5)).off+2,none⟩=some (.string (A5d xs i).f2)∧w.cell? ⟨(ad.add (i.toNat * 5)).block,(ad.add (i.toNat * 5)).off+3,none⟩=some (.string (A5d xs i).f3)∧w.cell? ⟨(ad.add (i.toNat * 5)).block,(ad.add (i.toNat * 5)).off+4,none⟩=some (.int .i64 (A5d xs i).f4):=by
 obtain⟨ad,c,e,_,hK,hc0⟩:=Kd.C_get h z196 i h0 h1;have hc:∀ j u,c[j]? = some u→w.cell? (ad.add (i.toNat * 5+j))=some u:=hc0;obtain rfl:=B3p hK;exact⟨ad,e,hc 0 _ rfl,by rw[← A3k _ _ 1 Zo];exact hc 1 _ rfl,by rw[← A3k _ _ 2 Zo];exact hc 2 _ rfl,by rw[← A3k _ _ 3 Zo];exact hc 3 _ rfl,by rw[← A3k _ _ 4 Zo];exact hc 4 _ rfl⟩
structure S198 where
 f0:ByteArray
 f1:Int
def z198:S198:=⟨(⟨#[]⟩:ByteArray),(0:Int)⟩
def k198:Kd S198:=Kd.iso (Kd.pair Kd.string (Kd.int .i64)) (fun x:S198=>(x.f0,x.f1))
theorem B3r {w:World} {x:S198} {cs:List Value} (h:k198.K w x cs):cs = [.string x.f0,.int .i64 x.f1]:=by
 obtain⟨_,_,rfl,rfl,rfl⟩:=h;exact rfl
def A63 (xs:List S198) (i:Int):S198:=xs.getD i.toNat z198
theorem B3s {w:World} {A:Option Addr} {n:Nat} {xs:List S198} (h:Kd.C k198 w A n xs) (i:Int) (h0:0≤i) (h1:i < n):∃ ad ,A=some ad∧w.cell? (ad.add (i.toNat * 2))=some (.string (A63 xs i).f0)∧w.cell? ⟨(ad.add (i.toNat * 2)).block,(ad.add (i.toNat * 2)).off+1,none⟩=some (.int .i64 (A63 xs i).f1):=by
 obtain⟨ad,c,e,_,hK,hc0⟩:=Kd.C_get h z198 i h0 h1;have hc:∀ j u,c[j]? = some u→w.cell? (ad.add (i.toNat * 2+j))=some u:=hc0;obtain rfl:=B3r hK;exact⟨ad,e,hc 0 _ rfl,by rw[← A3k _ _ 1 Zo];exact hc 1 _ rfl⟩
structure S94 where
 f0:Int
 f1:Bool
 f2:ByteArray
 f3:ByteArray
 f4:Int
def z94:S94:=⟨(0:Int),false,(⟨#[]⟩:ByteArray),(⟨#[]⟩:ByteArray),(0:Int)⟩
def k94:Kd S94:=Kd.iso (Kd.pair (Kd.int .i64) (Kd.pair Kd.bool (Kd.pair Kd.string (Kd.pair Kd.string (Kd.int .i64))))) (fun x:S94=>(x.f0,x.f1,x.f2,x.f3,x.f4))
theorem B1m {w:World} {x:S94} {cs:List Value} (h:k94.K w x cs):cs = [.int .i64 x.f0,.bool x.f1,.string x.f2,.string x.f3,.int .i64 x.f4]:=by
 obtain⟨_,_,rfl,rfl,⟨_,_,rfl,rfl,⟨_,_,rfl,rfl,⟨_,_,rfl,rfl,rfl⟩⟩⟩⟩:=h;exact rfl
theorem A7t {w:World} {base:Nat} {ok:Nat→Prop} {x:S94} {cs:List Value} (h:k94.M w base ok x cs):cs = [.int .i64 x.f0,.bool x.f1,.string x.f2,.string x.f3,.int .i64 x.f4]:=by
 obtain⟨_,_,rfl,rfl,⟨_,_,rfl,rfl,⟨_,_,rfl,rfl,⟨_,_,rfl,rfl,rfl⟩⟩⟩⟩:=h;exact rfl
theorem B9f (w:World) (x:S94) :k94.K w x [.int .i64 x.f0,.bool x.f1,.string x.f2,.string x.f3,.int .i64 x.f4]:=⟨[.int .i64 x.f0],[.bool x.f1,.string x.f2,.string x.f3,.int .i64 x.f4],rfl,rfl,⟨[.bool x.f1],[.string x.f2,.string x.f3,.int .i64 x.f4],rfl,rfl,⟨[.string x.f2],[.string x.f3,.int .i64 x.f4],rfl,rfl,⟨[.string x.f3],[.int .i64 x.f4],rfl,rfl,rfl⟩⟩⟩⟩
theorem A86 (w:World) (base:Nat) (ok:Nat→Prop) (x:S94) :k94.M w base ok x [.int .i64 x.f0,.bool x.f1,.string x.f2,.string x.f3,.int .i64 x.f4]:=⟨[.int .i64 x.f0],[.bool x.f1,.string x.f2,.string x.f3,.int .i64 x.f4],rfl,rfl,⟨[.bool x.f1],[.string x.f2,.string x.f3,.int .i64 x.f4],rfl,rfl,⟨[.string x.f2],[.string x.f3,.int .i64 x.f4],rfl,rfl,⟨[.string x.f3],[.int .i64 x.f4],rfl,rfl,rfl⟩⟩⟩⟩
def A0p (xs:List S94) (i:Int):S94:=xs.getD i.toNat z94
theorem A2d {w:World} {A:Option Addr} {n:Nat} {xs:List S94} (h:Kd.C k94 w A n xs) (i:Int) (h0:0≤i) (h1:i < n):∃ ad ,A=some ad∧w.cell? (ad.add (i.toNat * 5))=some (.int .i64 (A0p xs i).f0)∧w.cell? ⟨(ad.add (i.toNat * 5)).block,(ad.add (i.toNat * 5)).off+1,none⟩=some (.bool (A0p xs i).f1)∧w.cell? ⟨(ad.add (i.toNat * 5)).block,(ad.add (i.toNat * 5)).off+2,none⟩=some (.string (A0p xs i).f2)∧w.cell? ⟨(ad.add (i.toNat * 5)).block,(ad.add (i.toNat * 5)).off+3,none⟩=some (.string (A0p xs i).f3)∧w.cell? ⟨(ad.add (i.toNat * 5)).block,(ad.add (i.toNat * 5)).off+4,none⟩=some (.int .i64 (A0p xs i).f4):=by
 obtain⟨ad,c,e,_,hK,hc0⟩:=Kd.C_get h z94 i h0 h1;have hc:∀ j u,c[j]? = some u→w.cell? (ad.add (i.toNat * 5+j))=some u:=hc0;obtain rfl:=B1m hK;exact⟨ad,e,hc 0 _ rfl,by rw[← A3k _ _ 1 Zo];exact hc 1 _ rfl,by rw[← A3k _ _ 2 Zo];exact hc 2 _ rfl,by rw[← A3k _ _ 3 Zo];exact hc 3 _ rfl,by rw[← A3k _ _ 4 Zo];exact hc 4 _ rfl⟩
structure S151 where
 f0:ByteArray
 f1:Int
def z151:S151:=⟨(⟨#[]⟩:ByteArray),(0:Int)⟩
def k151:Kd S151:=Kd.iso (Kd.pair Kd.string (Kd.int .i64)) (fun x:S151=>(x.f0,x.f1))
theorem A45:Kd.Heap k151:=Kd.heap_iso _ (Kd.heap_pair Kd.heap_string (Kd.heap_int .i64))
theorem A7u {w:World} {x:S151} {cs:List Value} (h:k151.K w x cs):cs = [.string x.f0,.int .i64 x.f1]:=by
 obtain⟨_,_,rfl,rfl,rfl⟩:=h;exact rfl
theorem A8o {w:World} {base:Nat} {ok:Nat→Prop} {x:S151} {cs:List Value} (h:k151.M w base ok x cs):cs = [.string x.f0,.int .i64 x.f1]:=by
 obtain⟨_,_,rfl,rfl,rfl⟩:=h;exact rfl
theorem B3t (w:World) (x:S151) :k151.K w x [.string x.f0,.int .i64 x.f1]:=⟨[.string x.f0],[.int .i64 x.f1],rfl,rfl,rfl⟩
theorem A54 (w:World) (base:Nat) (ok:Nat→Prop) (x:S151) :k151.M w base ok x [.string x.f0,.int .i64 x.f1]:=⟨[.string x.f0],[.int .i64 x.f1],rfl,rfl,rfl⟩
def A0c (xs:List S151) (i:Int):S151:=xs.getD i.toNat z151
theorem A1t {w:World} {A:Option Addr} {n:Nat} {xs:List S151} (h:Kd.C k151 w A n xs) (i:Int) (h0:0≤i) (h1:i < n):∃ ad ,A=some ad∧w.cell? (ad.add (i.toNat * 2))=some (.string (A0c xs i).f0)∧w.cell? ⟨(ad.add (i.toNat * 2)).block,(ad.add (i.toNat * 2)).off+1,none⟩=some (.int .i64 (A0c xs i).f1):=by
 obtain⟨ad,c,e,_,hK,hc0⟩:=Kd.C_get h z151 i h0 h1;have hc:∀ j u,c[j]? = some u→w.cell? (ad.add (i.toNat * 2+j))=some u:=hc0;obtain rfl:=A7u hK;exact⟨ad,e,hc 0 _ rfl,by rw[← A3k _ _ 1 Zo];exact hc 1 _ rfl⟩
set_option linter.defProp false
def zA:=@B0m
def zC:=@A7o
def zG:=@A2q
def zH:=@A2r
def zJ:=@A3l
def zK:=@B0n
def zL:=@Kd.R_far
def zM:=@Kd.R_below
def zN:=@A33
def zO:=@A1h
def zP:=@A1k
def zQ:=@Kd.R_types
def zR:=@Kd.R_mono
def zT:=@B82
theorem zb2 {w:World} {g:Nat} {t:TypeId} {a0 a1:Value} (h:w.heap[g]? = some (.cells #[a0,a1] t (0,0))):w.cell? ⟨g,0,none⟩=some a0∧w.cell? ⟨g,1,none⟩=some a1∧w.frozen? ⟨g,0,none⟩=false∧w.frozen? ⟨g,1,none⟩=false:=⟨(A1h h 0).trans rfl,(A1h h 1).trans rfl,A1k h 0,A1k h 1⟩
theorem zb3 {w:World} {g:Nat} {t:TypeId} {a0 a1 a2:Value} (h:w.heap[g]? = some (.cells #[a0,a1,a2] t (0,0))):w.cell? ⟨g,0,none⟩=some a0∧w.cell? ⟨g,1,none⟩=some a1∧w.cell? ⟨g,2,none⟩=some a2∧w.frozen? ⟨g,0,none⟩=false∧w.frozen? ⟨g,1,none⟩=false∧w.frozen? ⟨g,2,none⟩=false:=⟨(A1h h 0).trans rfl,(A1h h 1).trans rfl,(A1h h 2).trans rfl,A1k h 0,A1k h 1,A1k h 2⟩
theorem zb5 {w:World} {g:Nat} {t:TypeId} {a0 a1 a2 a3 a4:Value} (h:w.heap[g]? = some (.cells #[a0,a1,a2,a3,a4] t (0,0))):w.cell? ⟨g,0,none⟩=some a0∧w.cell? ⟨g,1,none⟩=some a1∧w.cell? ⟨g,2,none⟩=some a2∧w.cell? ⟨g,3,none⟩=some a3∧w.cell? ⟨g,4,none⟩=some a4∧w.frozen? ⟨g,0,none⟩=false∧w.frozen? ⟨g,1,none⟩=false∧w.frozen? ⟨g,2,none⟩=false∧w.frozen? ⟨g,3,none⟩=false∧w.frozen? ⟨g,4,none⟩=false:=⟨(A1h h 0).trans rfl,(A1h h 1).trans rfl,(A1h h 2).trans rfl,(A1h h 3).trans rfl,(A1h h 4).trans rfl,A1k h 0,A1k h 1,A1k h 2,A1k h 3,A1k h 4⟩
theorem yE {P:Program} {ops:Array Oper} {rest:List Oper} {o:Oper} {a:Act} {Q:Exit→Act→World→Prop} {W:World} {N:Tmp} {cs:Array Value} {t:TypeId} (h:∀ g,g=W.heap.size→∀ w1,w1.heap[g]? = some (.cells cs t (0,0))→Below W.heap.size W w1→wpList P ops Q rest (a.put o.dst (.pointer (some ⟨g,0,none⟩))) w1)
  (hd:o.dst=some N:=by rfl) (hgd:o.guard=none:=by rfl) (hrun:(execOp a.eval o).run P W=.ok (.value (.pointer (some ⟨W.heap.size,0,none⟩))) (W.alloc (.cells cs t (0,0))):=by first|(go_simp;done)|(go_simp;rfl)):wpList P ops Q (o :: rest) a W:=A3m hgd hd hrun h
theorem w64n (i:Nat) (h:(i:Int) < 9223372036854775807):wrap64 ((i:Int)+1)=((i+1:Nat):Int):=by unfold wrap64;omega
theorem yX {gb : Nat} {w w1 w2 : World} (hg : gb = w1.heap.size) (hb : Below w1.heap.size w1 w2) (h : Below w.heap.size w w1) : A0a (Below w.heap.size w w2) ∧ A0a (w.heap.size ≤ gb) := ⟨⟨zN h hb⟩, ⟨hg ▸ A02 h⟩⟩
theorem yY {gb g : Nat} {o : Obj} {w1 w2 : World} (hg : gb = w1.heap.size) (hb : Below w1.heap.size w1 w2) (h : w1.heap[g]? = some o) : A0a (w2.heap[g]? = some o) ∧ A0a (g ≠ gb) ∧ A0a (gb ≠ g) := ⟨⟨zK h hb⟩, ⟨hg ▸ Nat.ne_of_lt (A6c h)⟩, ⟨hg ▸ Nat.ne_of_gt (A6c h)⟩⟩
theorem mq {P:Prop} (h:P:=by repeat(with_reducible first|exact HB.o|apply zI|apply zG|apply zH|refine zJ ?_ (A0a.o (by assumption)))):P:=h
theorem ml {P:Prop} (h:P:=by(try simp only [List.map_toArray,List.map_cons,List.map_nil]);first|done|rfl|(simp only [List.length_drop,List.length_take];rfl)):P:=h
theorem mz {p q:Prop} (h:p) (k:p→q:=by intro h;(with_reducible repeat(first|apply zA|apply zC|apply zB));exact h):q:=k h
theorem me {p q:Prop} (h:p) (k:p→q:=by intro h;(with_reducible repeat(first|apply zE|apply zD|apply zF));exact h):q:=k h
theorem mc {p q:Prop} (h:p) (k:p→q:=by intro h;repeat(first|exact(Kd.C_below h HB.o)|(with_reducible refine Kd.C_alloc ?_ _)|(with_reducible refine Kd.C_drewN ?_ _)|(with_reducible refine Kd.C_drew ?_)|exact(Kd.C_below h mq))):q:=k h
theorem mr {P:Prop} (h:P:=by first|rfl|(simp[] <;> rfl)|(simp[*] <;> rfl)):P:=h
theorem md {P:Prop} (h:P:=by repeat(first|exact A2e.refl _|apply A2e.step)):P:=h
theorem mo {p:Prop} [Decidable p] (h:decide p=true:=by assumption):p:=C0b h
theorem mt {P:Prop} (h:P:=by first|rfl|simp[*]):P:=h
theorem B7h (d:Nat) (w:World) (x0 y0:ByteArray) (x1 y1:Int) :
  (Op.equalIn (d+2) 151 (.agg #[.string x0,.int .i64 x1]) (.agg #[.string y0,.int .i64 y1])).run Tryz.prog w=.ok (x0.toList == y0.toList && (x1 == y1)) w:=by
 refine B95 Tryz.underlying151 Zk ?_;refine B7a (by rfl) (by go_simp;rfl) (by go_simp;rfl) (by go_simp) ?_;exact B69 (by rfl) (by go_simp;rfl) (by go_simp;rfl) (by go_simp)
theorem zc3 {w w1:World} {a:Addr} {v:Value} (hb:Below w.heap.size w w1) (h:w.cell? a=some v):w1.cell? a=some v:=(hb.cell (World.block_lt_of_cell? w _ h)).trans h
def A04.l0:Nat→Int→List (S94)→Int→Int→Option (Int)
|0,_,_,_,_=>none
|k+1,x3,x7,x8,x9=>if x9 < x8 then (if 0≤x9 then (if x9 < (x7.length:Int) then (if (A0p x7 x9).f1=true then (A04.l0 k (wrap64 (x3+1)) x7 x8 (wrap64 (x9+1))) else (A04.l0 k x3 x7 x8 (wrap64 (x9+1)))) else (none)) else (none)) else (some x3)
def A04.f (k:Nat) (l0_0:List (S94)) (a0_1:Int):Option (Int):=A04.l0 k 0 l0_0 (l0_0.length:Int) 0
theorem A04.calls (k:Nat) (A0_0:Option Addr) (c0_0:Nat) (l0_0:List (S94)) (a0_1:Int) (r:Int) (w:World) (hr0_0:Kd.C k94 w A0_0 l0_0.length l0_0) (hc0_0:l0_0.length≤c0_0) (h:A04.f k l0_0 a0_1=some r) :
  Calls Tryz.prog 64 #[.agg #[.slice A0_0 l0_0.length c0_0,.int .i64 a0_1]] w fun e w'=>e=.returned (.int .i64 r)∧Below w.heap.size w w':=by
 have hu42:=Tryz.underlying42;have hu94:=Tryz.underlying94;have HR0_0:=B98 hr0_0;have HC0_0:=B98 hc0_0;clear hr0_0 hc0_0;have HB:=B98 (Below.refl w.heap.size w);unfold A04.f at h;have H:=h;clear h;have H':=B98 H;clear H;go_enter Tryz.func64,Tryz.ntmps64;go_wp2_with (first|((with_reducible refine A0b (N:=1) rfl ?_);refine yE (N:=1) (cs:=#[.slice A0_0 l0_0.length c0_0,.int .i64 a0_1]) (t:=42) fun gb329 hg w2 hbox hb=>?_;obtain⟨n0_,n2_⟩:=yX (w:=w) hg hb mq;have n1_:=B98 (hbox);have n3_:=n2_;clear HB;have HB:=n0_;have BK329:=n1_;have GW329:=n2_;have GE329:=n3_;clear n0_ n1_ n2_ n3_;clear hb hbox hg;obtain⟨hcz3_0,hcz3_1,hfz3_0,hfz3_1⟩:=zb2 BK329.o))
 go_loopg [3,9] k (fun kq v3 v9 w'=>∃ (x3_1:Int) (x9_1:Int),v3=.int .i64 x3_1∧v9=.int .i64 x9_1∧A0a (A04.l0 kq x3_1 l0_0 (l0_0.length:Int) x9_1=some r)∧A0a (kq≤k)∧A0a (w'.heap[gb329]? = some (.cells #[(.slice A0_0 l0_0.length c0_0),.int .i64 a0_1] 42 (0,0)))∧A0a (Below w.heap.size w w'))
 case atStart=>exact⟨(0),(0),mt,mt,H',⟨Nat.le_refl _⟩,⟨mz BK329.o⟩,⟨mq⟩⟩
 case round =>
  clear H';obtain⟨x3_1,x9_1,rfl,rfl,HA,HK1,BK329,HB⟩:=hrel;cases gk with
 |zero=>exact absurd HA.o (by simp[A04.l0])
 |succ k1 =>
   have H:=HA.o;clear HA;simp only [A04.l0] at H;by_cases c4:x9_1 < (l0_0.length:Int)
   ·rw[if_pos c4] at H
    have c4b0:decide (x9_1 < (l0_0.length:Int))=true:=B99 c4;clear c4;by_cases c5:0≤x9_1
    ·rw[if_pos c5] at H
     have c5b0:decide (0≤x9_1)=true:=B99 c5;clear c5;by_cases c6:x9_1 < (l0_0.length:Int)
     ·rw[if_pos c6] at H
      have c6b0:decide (x9_1 < (l0_0.length:Int))=true:=B99 c6;clear c6;obtain⟨bq7,hbq7⟩:∃ b_:Bool,b_=((A0p l0_0 x9_1).f1):=⟨_,rfl⟩;rw[← hbq7] at H;have Nbq7:=B98 hbq7;clear hbq7;by_cases c8:bq7=true
      ·subst c8
       rw[if_pos rfl] at H;have H':=B98 H;clear H;have p330:0≤(x9_1:Int):=mo;have q330:x9_1 < (l0_0.length:Int):=mo;obtain⟨ad330,e330,hx330_0,hx330_1,hx330_2,hx330_3,hx330_4⟩:=A2d HR0_0.o x9_1 p330 q330;(try rw[← Nbq7.o] at hx330_1)
       cases e330;replace hx330_0:=zc3 HB.o hx330_0;replace hx330_1:=zc3 HB.o hx330_1;replace hx330_2:=zc3 HB.o hx330_2;replace hx330_3:=zc3 HB.o hx330_3;replace hx330_4:=zc3 HB.o hx330_4;replace p330:=eq_true p330;replace q330:=eq_true q330;go_wp2_with (first|((with_reducible refine A0b (N:=5) rfl ?_);refine yE (N:=5) (cs:=#[.int .i64 0,.bool false,.string (⟨#[]⟩:ByteArray),.string (⟨#[]⟩:ByteArray),.int .i64 0]) (t:=94) fun gb331 hg w9 hbox hb=>?_;obtain⟨n0_,n5_,n6_⟩:=yY hg hb (mz BK329.o);obtain⟨n1_,n3_⟩:=yX (w:=w) hg hb mq;have n2_:=B98 (hbox);have n4_:=n3_;clear BK329;clear HB;have BK329:=n0_;have HB:=n1_;have BK331:=n2_;have GW331:=n3_;have GE331:=n4_;have NB329_331:=n5_;have NB331_329:=n6_;clear n0_ n1_ n2_ n3_ n4_ n5_ n6_;clear hb hbox hg;have hnb10:=NB331_329.o;have hnc10:=NB329_331.o;obtain⟨hcz11_0,hcz11_1,hcz11_2,hcz11_3,hcz11_4,hfz11_0,hfz11_1,hfz11_2,hfz11_3,hfz11_4⟩:=zb5 BK331.o))
       go_roundg k1
       case measure=>have:=HK1.o;omega
       case rel=>exact⟨(wrap64 (x3_1+1)),(wrap64 (x9_1+1)),mt,mt,H',⟨by have:=HK1.o;omega⟩,⟨by(with_reducible repeat(first|apply zA|apply zC|apply zB));refine zT ?_ NB329_331.o _;(with_reducible repeat(first|apply zA|apply zC|apply zB));refine zT ?_ NB329_331.o _;(with_reducible repeat(first|apply zA|apply zC|apply zB));refine zT ?_ NB329_331.o _;(with_reducible repeat(first|apply zA|apply zC|apply zB));refine zT ?_ NB329_331.o _;(with_reducible repeat(first|apply zA|apply zC|apply zB));refine zT ?_ NB329_331.o _;(with_reducible repeat(first|apply zA|apply zC|apply zB));exact BK329.o⟩,⟨mq⟩⟩
      ·replace c8:=Bool.eq_false_iff.mpr c8
       subst c8;rw[if_neg (show ¬ (false=true) by decide)] at H;have H':=B98 H;clear H;have p330:0≤(x9_1:Int):=mo;have q330:x9_1 < (l0_0.length:Int):=mo;obtain⟨ad330,e330,hx330_0,hx330_1,hx330_2,hx330_3,hx330_4⟩:=A2d HR0_0.o x9_1 p330 q330;(try rw[← Nbq7.o] at hx330_1)
       cases e330;replace hx330_0:=zc3 HB.o hx330_0;replace hx330_1:=zc3 HB.o hx330_1;replace hx330_2:=zc3 HB.o hx330_2;replace hx330_3:=zc3 HB.o hx330_3;replace hx330_4:=zc3 HB.o hx330_4;replace p330:=eq_true p330;replace q330:=eq_true q330;go_wp2_with (first|((with_reducible refine A0b (N:=5) rfl ?_);refine yE (N:=5) (cs:=#[.int .i64 0,.bool false,.string (⟨#[]⟩:ByteArray),.string (⟨#[]⟩:ByteArray),.int .i64 0]) (t:=94) fun gb331 hg w12 hbox hb=>?_;obtain⟨n0_,n5_,n6_⟩:=yY hg hb (mz BK329.o);obtain⟨n1_,n3_⟩:=yX (w:=w) hg hb mq;have n2_:=B98 (hbox);have n4_:=n3_;clear BK329;clear HB;have BK329:=n0_;have HB:=n1_;have BK331:=n2_;have GW331:=n3_;have GE331:=n4_;have NB329_331:=n5_;have NB331_329:=n6_;clear n0_ n1_ n2_ n3_ n4_ n5_ n6_;clear hb hbox hg;have hnb13:=NB331_329.o;have hnc13:=NB329_331.o;obtain⟨hcz14_0,hcz14_1,hcz14_2,hcz14_3,hcz14_4,hfz14_0,hfz14_1,hfz14_2,hfz14_3,hfz14_4⟩:=zb5 BK331.o))
       go_roundg k1
       case measure=>have:=HK1.o;omega
       case rel=>exact⟨(x3_1),(wrap64 (x9_1+1)),mt,mt,H',⟨by have:=HK1.o;omega⟩,⟨by(with_reducible repeat(first|apply zA|apply zC|apply zB));refine zT ?_ NB329_331.o _;(with_reducible repeat(first|apply zA|apply zC|apply zB));refine zT ?_ NB329_331.o _;(with_reducible repeat(first|apply zA|apply zC|apply zB));refine zT ?_ NB329_331.o _;(with_reducible repeat(first|apply zA|apply zC|apply zB));refine zT ?_ NB329_331.o _;(with_reducible repeat(first|apply zA|apply zC|apply zB));refine zT ?_ NB329_331.o _;(with_reducible repeat(first|apply zA|apply zC|apply zB));exact BK329.o⟩,⟨mq⟩⟩
     ·rw[if_neg c6] at H
      exact absurd H Zs
    ·rw[if_neg c5] at H
     exact absurd H Zs
   ·rw[if_neg c4] at H
    have c4b0:decide (x9_1 < (l0_0.length:Int))=false:=C0a c4;clear c4;obtain rfl:=C0d H;go_wp2
    go_ret;exact⟨mr,mq⟩
def A0n.f (a0:Int) (a1:Int) (a2:Int):Option (Bool):=if a0 ≥ a1 then (some (decide (a0≤a2))) else (some false)
theorem A0n.calls (a0:Int) (a1:Int) (a2:Int) (r:Bool) (w:World) (h:A0n.f a0 a1 a2=some r) :
  Calls Tryz.prog 89 #[.int .i64 a0,.int .i64 a1,.int .i64 a2] w fun e w'=>e=.returned (.bool r)∧A2e w w':=by
 unfold A0n.f at h;have H:=h;clear h;by_cases c4:a0 ≥ a1
 ·rw[if_pos c4] at H
  have c4b0:decide (a1≤a0)=true:=B99 c4;clear c4;obtain rfl:=C0d H;go_enter Tryz.func89,Tryz.ntmps89
  go_wp2
  go_ret;exact⟨by first|rfl|(simp;done)|(simp[*];done),md⟩
 ·rw[if_neg c4] at H
  have c4b0:decide (a1≤a0)=false:=C0a c4;clear c4;obtain rfl:=C0d H;go_enter Tryz.func89,Tryz.ntmps89
  go_wp2
  go_ret;exact⟨by first|rfl|(simp;done)|(simp[*];done),md⟩
def A1j.f (a0:ByteArray):Option (Bool):=(A0n.f (a0.size:Int) 1 12).bind fun t332=>(some t332)
theorem A1j.calls (a0:ByteArray) (r:Bool) (w:World) (h:A1j.f a0=some r) :
  Calls Tryz.prog 85 #[.string a0] w fun e w'=>e=.returned (.bool r)∧A2e w w':=by
 unfold A1j.f at h;have H:=h;clear h;replace H:=C0f.mp H;obtain⟨t332,A20,H⟩:=H;(try dsimp only at H)
 have A2:=B98 A20;clear A20;obtain rfl:=C0d H;go_enter Tryz.func85,Tryz.ntmps85;go_wp2_with (first|((with_reducible refine A0j (f:=89) rfl ?_);refine A1l (some 5) rfl rfl Tryz.func89 Zk rfl #[.int .i64 (a0.size:Int),.int .i64 1,.int .i64 12] rfl ml ?_;(with_reducible refine(A0n.calls (a0.size:Int) 1 12 t332 _ A2.o).mono ?_);rintro e w' ⟨rfl,⟨nd,rfl⟩⟩;refine⟨_,rfl,?_⟩));go_ret;exact⟨by first|rfl|(simp;done)|(simp[*];done),md⟩
def A3o.f (a0_0:Int) (a0_1:Bool) (a0_2:ByteArray) (a0_3:ByteArray) (a0_4:Int):Option (Bool):=(A0n.f a0_0 0 41666665).bind fun t334=>(if t334=true then (if a0_1=true then ((A1j.f a0_2).bind fun t335=>(if t335=true then (if (a0_3.size:Int)≤20 then (some (a0_4 == 0)) else (some false)) else (some false))) else (if a0_2.toList=([]:List UInt8) then (some (a0_3.toList == ([]:List UInt8))) else (some false))) else (some false))
theorem A3o.calls (a0_0:Int) (a0_1:Bool) (a0_2:ByteArray) (a0_3:ByteArray) (a0_4:Int) (r:Bool) (w:World) (h:A3o.f a0_0 a0_1 a0_2 a0_3 a0_4=some r) :
  Calls Tryz.prog 190 #[.agg #[.int .i64 a0_0,.bool a0_1,.string a0_2,.string a0_3,.int .i64 a0_4]] w fun e w'=>e=.returned (.bool r)∧Below w.heap.size w w':=by
 have hu94:=Tryz.underlying94;have HB:=B98 (Below.refl w.heap.size w);unfold A3o.f at h;have H:=h;clear h;replace H:=C0f.mp H;obtain⟨t334,A20,H⟩:=H;(try dsimp only at H)
 have A2:=B98 A20;clear A20;go_enter Tryz.func190,Tryz.ntmps190;go_wp2_with (first|((with_reducible refine A0b (N:=1) rfl ?_);(try(refine A34 (by rfl) ?_;dsimp only));refine yE (N:=1) (cs:=#[.int .i64 a0_0,.bool a0_1,.string a0_2,.string a0_3,.int .i64 a0_4]) (t:=94) fun gb333 hg w8 hbox hb=>?_;obtain⟨n0_,n2_⟩:=yX (w:=w) hg hb mq;have n1_:=B98 (hbox);have n3_:=n2_;clear HB;have HB:=n0_;have BK333:=n1_;have GW333:=n2_;have GE333:=n3_;clear n0_ n1_ n2_ n3_;clear hb hbox hg;obtain⟨hcz9_0,hcz9_1,hcz9_2,hcz9_3,hcz9_4,hfz9_0,hfz9_1,hfz9_2,hfz9_3,hfz9_4⟩:=zb5 BK333.o)|((with_reducible refine A0j (f:=89) rfl ?_);refine A1l (some 5) rfl rfl Tryz.func89 Zk rfl #[.int .i64 a0_0,.int .i64 0,.int .i64 41666665] rfl ml ?_;(with_reducible refine(A0n.calls a0_0 0 41666665 t334 _ A2.o).mono ?_);rintro e w' ⟨rfl,⟨nd,rfl⟩⟩;refine⟨_,rfl,?_⟩;(refine Classical.byCases (p:=(t334=true)) (fun c3=>?zp42) (fun c3=>?zn42);(case' zn42=>(replace c3:=Bool.eq_false_iff.mpr c3);(subst c3);(have H1:(some false)=some r:=by rw[if_neg (show ¬ (false=true) by decide)] at H;exact H);(clear H);(have H:=H1);(clear H1);(obtain rfl:=C0d H));(case' zp42=>(subst c3);(have H1:(if a0_1=true then ((A1j.f a0_2).bind fun t335=>(if t335=true then (if (a0_3.size:Int)≤20 then (some (a0_4 == 0)) else (some false)) else (some false))) else (if a0_2.toList=([]:List UInt8) then (some (a0_3.toList == ([]:List UInt8))) else (some false)))=some r:=by rw[if_pos rfl] at H;exact H);(clear H);(have H:=H1);(clear H1);(refine Classical.byCases (p:=(a0_1=true)) (fun c4=>?zp41) (fun c4=>?zn41);(case' zn41=>(replace c4:=Bool.eq_false_iff.mpr c4);(subst c4);(have H1:(if a0_2.toList=([]:List UInt8) then (some (a0_3.toList == ([]:List UInt8))) else (some false))=some r:=by rw[if_neg (show ¬ (false=true) by decide)] at H;exact H);(clear H);(have H:=H1);(clear H1);(refine Classical.byCases (p:=(a0_2.toList=([]:List UInt8))) (fun c14=>?zp40) (fun c14=>?zn40);(case' zn40=>(rw[if_neg c14] at H);(have c14b0:(a0_2.toList == ([]:List UInt8))=false:=C0g.mpr c14);(have c14b1:(a0_2.toList != ([]:List UInt8))=true:=bne_iff_ne.mpr c14);(obtain rfl:=C0d H));(case' zp40=>(rw[if_pos c14] at H);(have c14b0:(a0_2.toList == ([]:List UInt8))=true:=beq_iff_eq.mpr c14);(have c14b1:(a0_2.toList != ([]:List UInt8))=false:=bne_eq_false_iff_eq.mpr c14);(clear c14);(obtain rfl:=C0d H))));(case' zp41=>(subst c4);(have H1:((A1j.f a0_2).bind fun t335=>(if t335=true then (if (a0_3.size:Int)≤20 then (some (a0_4 == 0)) else (some false)) else (some false)))=some r:=by rw[if_pos rfl] at H;exact H);(clear H);(have H:=H1);(clear H1);(replace H:=C0f.mp H);(obtain⟨t335,A50,H⟩:=H);(replace H:(if t335=true then (if (a0_3.size:Int)≤20 then (some (a0_4 == 0)) else (some false)) else (some false))=some r:=H);(have A5:=B98 A50);(clear A50))))))|((with_reducible refine A0j (f:=85) rfl ?_);refine A1l (some 11) rfl rfl Tryz.func85 Zk rfl #[.string a0_2] rfl ml ?_;(with_reducible refine(A1j.calls a0_2 t335 _ A5.o).mono ?_);rintro e w' ⟨rfl,⟨nd,rfl⟩⟩;refine⟨_,rfl,?_⟩;(refine Classical.byCases (p:=(t335=true)) (fun c6=>?zp39) (fun c6=>?zn39);(case' zn39=>(replace c6:=Bool.eq_false_iff.mpr c6);(subst c6);(have H1:(some false)=some r:=by rw[if_neg (show ¬ (false=true) by decide)] at H;exact H);(clear H);(have H:=H1);(clear H1);(obtain rfl:=C0d H));(case' zp39=>(subst c6);(have H1:(if (a0_3.size:Int)≤20 then (some (a0_4 == 0)) else (some false))=some r:=by rw[if_pos rfl] at H;exact H);(clear H);(have H:=H1);(clear H1);(refine Classical.byCases (p:=((a0_3.size:Int)≤20)) (fun c7=>?zp38) (fun c7=>?zn38);(case' zn38=>(rw[if_neg c7] at H);(have c7b0:decide ((a0_3.size:Int)≤20)=false:=C0a c7);(have c7b1:decide (a0_3.size≤20)=false:=C0a Zo);(clear c7);(obtain rfl:=C0d H));(case' zp38=>(rw[if_pos c7] at H);(have c7b0:decide ((a0_3.size:Int)≤20)=true:=B99 c7);(have c7b1:decide (a0_3.size≤20)=true:=B99 Zo);(clear c7);(obtain rfl:=C0d H)))))))
 ·go_ret
  exact⟨mr,mq⟩
 ·go_ret
  exact⟨mr,mq⟩
 ·go_ret
  exact⟨mr,mq⟩
 ·go_ret
  exact⟨mr,mq⟩
 ·go_ret
  exact⟨mr,mq⟩
 ·go_ret
  exact⟨mr,mq⟩
def A00.l0:Nat→Int→Int→List (S94)→Int→Option (Int)
|0,_,_,_,_=>none
|k+1,x3,x4,x337000,x337001=>if x4=(-1) then (some x3) else ((A0n.f x4 0 (wrap64 ((x337000.length:Int) - 1))).bind fun t337=>(if t337=true then (if 0≤x4 then (if x4 < (x337000.length:Int) then (if (A0p x337000 x4).f1=true then (some (-1)) else (if x3=(x337000.length:Int) then (some (-1)) else (A00.l0 k (wrap64 (x3+1)) ((A0p x337000 x4).f4) x337000 x337001))) else (none)) else (none)) else (some (-1))))
def A00.f (k:Nat) (l0_0:List (S94)) (a0_1:Int):Option (Int):=A00.l0 k 0 a0_1 l0_0 a0_1
theorem A00.calls (k:Nat) (A0_0:Option Addr) (c0_0:Nat) (l0_0:List (S94)) (a0_1:Int) (r:Int) (w:World) (hr0_0:Kd.C k94 w A0_0 l0_0.length l0_0) (hc0_0:l0_0.length≤c0_0) (h:A00.f k l0_0 a0_1=some r) :
  Calls Tryz.prog 191 #[.agg #[.slice A0_0 l0_0.length c0_0,.int .i64 a0_1]] w fun e w'=>e=.returned (.int .i64 r)∧Below w.heap.size w w':=by
 have hu42:=Tryz.underlying42;have HR0_0:=B98 hr0_0;have HC0_0:=B98 hc0_0;clear hr0_0 hc0_0;have HB:=B98 (Below.refl w.heap.size w);unfold A00.f at h;have H:=h;clear h;have H':=B98 H;clear H;go_enter Tryz.func191,Tryz.ntmps191;go_wp2_with (first|((with_reducible refine A0b (N:=1) rfl ?_);(try(refine A34 (by rfl) ?_;dsimp only));refine yE (N:=1) (cs:=#[.slice A0_0 l0_0.length c0_0,.int .i64 a0_1]) (t:=42) fun gb336 hg w2 hbox hb=>?_;obtain⟨n0_,n2_⟩:=yX (w:=w) hg hb mq;have n1_:=B98 (hbox);have n3_:=n2_;clear HB;have HB:=n0_;have BK336:=n1_;have GW336:=n2_;have GE336:=n3_;clear n0_ n1_ n2_ n3_;clear hb hbox hg;obtain⟨hcz3_0,hcz3_1,hfz3_0,hfz3_1⟩:=zb2 BK336.o))
 go_loopg [3,4] k (fun kq v3 v4 w'=>∃ (x3_1:Int) (x4_1:Int),v3=.int .i64 x3_1∧v4=.int .i64 x4_1∧A0a (A00.l0 kq x3_1 x4_1 l0_0 a0_1=some r)∧A0a (kq≤k)∧A0a (w'.heap[gb336]? = some (.cells #[(.slice A0_0 l0_0.length c0_0),.int .i64 a0_1] 42 (0,0)))∧A0a (Below w.heap.size w w'))
 case atStart=>exact⟨(0),(a0_1),mt,mt,H',⟨Nat.le_refl _⟩,⟨mz BK336.o⟩,⟨mq⟩⟩
 case round =>
  clear H';obtain⟨x3_1,x4_1,rfl,rfl,HA,HK1,BK336,HB⟩:=hrel;cases gk with
 |zero=>exact absurd HA.o (by simp[A00.l0])
 |succ k1 =>
   have H:=HA.o;clear HA;simp only [A00.l0] at H;by_cases c4:x4_1=(-1)
   ·rw[if_pos c4] at H
    have c4b0:(x4_1 == (-1))=true:=beq_iff_eq.mpr c4;have c4b1:(x4_1 != (-1))=false:=bne_eq_false_iff_eq.mpr c4;clear c4;obtain rfl:=C0d H;go_wp2
    go_ret;exact⟨mr,mq⟩
   ·rw[if_neg c4] at H
    have c4b0:(x4_1 == (-1))=false:=C0g.mpr c4;have c4b1:(x4_1 != (-1))=true:=bne_iff_ne.mpr c4;replace H:=C0f.mp H;obtain⟨t337,A50,H⟩:=H;(try dsimp only at H)
    have A5:=B98 A50;clear A50;by_cases c6:t337=true
    ·subst c6
     rw[if_pos rfl] at H;by_cases c7:0≤x4_1
     ·rw[if_pos c7] at H
      have c7b0:decide (0≤x4_1)=true:=B99 c7;clear c7;by_cases c8:x4_1 < (l0_0.length:Int)
      ·rw[if_pos c8] at H
       have c8b0:decide (x4_1 < (l0_0.length:Int))=true:=B99 c8;clear c8;obtain⟨bq9,hbq9⟩:∃ b_:Bool,b_=((A0p l0_0 x4_1).f1):=⟨_,rfl⟩;rw[← hbq9] at H;have Nbq9:=B98 hbq9;clear hbq9;by_cases c10:bq9=true
       ·subst c10
        rw[if_pos rfl] at H;obtain rfl:=C0d H;obtain⟨hcz11_0,hcz11_1,hfz11_0,hfz11_1⟩:=zb2 BK336.o;go_wp2_with (first|((with_reducible refine A0j (f:=89) rfl ?_);refine A1l (some 20) rfl rfl Tryz.func89 Zk rfl #[.int .i64 x4_1,.int .i64 0,.int .i64 (wrap64 ((l0_0.length:Int) - 1))] rfl ml ?_;(with_reducible refine(A0n.calls x4_1 0 (wrap64 ((l0_0.length:Int) - 1)) true _ A5.o).mono ?_);rintro e w' ⟨rfl,⟨nd,rfl⟩⟩;refine⟨_,rfl,?_⟩;have p338:0≤(x4_1:Int):=mo;have q338:x4_1 < (l0_0.length:Int):=mo;obtain⟨ad338,e338,hx338_0,hx338_1,hx338_2,hx338_3,hx338_4⟩:=A2d HR0_0.o x4_1 p338 q338;(try rw[← Nbq9.o] at hx338_1);cases e338;replace hx338_0:=zc3 HB.o hx338_0;replace hx338_1:=zc3 HB.o hx338_1;replace hx338_2:=zc3 HB.o hx338_2;replace hx338_3:=zc3 HB.o hx338_3;replace hx338_4:=zc3 HB.o hx338_4;replace p338:=eq_true p338;replace q338:=eq_true q338));go_ret;exact⟨mr,mq⟩
       ·replace c10:=Bool.eq_false_iff.mpr c10
        subst c10;rw[if_neg (show ¬ (false=true) by decide)] at H;by_cases c12:x3_1=(l0_0.length:Int)
        ·rw[if_pos c12] at H
         have c12b0:(x3_1 == (l0_0.length:Int))=true:=beq_iff_eq.mpr c12;have c12b1:(x3_1 != (l0_0.length:Int))=false:=bne_eq_false_iff_eq.mpr c12;clear c12;obtain rfl:=C0d H;obtain⟨hcz13_0,hcz13_1,hfz13_0,hfz13_1⟩:=zb2 BK336.o;go_wp2_with (first|((with_reducible refine A0j (f:=89) rfl ?_);refine A1l (some 20) rfl rfl Tryz.func89 Zk rfl #[.int .i64 x4_1,.int .i64 0,.int .i64 (wrap64 ((l0_0.length:Int) - 1))] rfl ml ?_;(with_reducible refine(A0n.calls x4_1 0 (wrap64 ((l0_0.length:Int) - 1)) true _ A5.o).mono ?_);rintro e w' ⟨rfl,⟨nd,rfl⟩⟩;refine⟨_,rfl,?_⟩;have p338:0≤(x4_1:Int):=mo;have q338:x4_1 < (l0_0.length:Int):=mo;obtain⟨ad338,e338,hx338_0,hx338_1,hx338_2,hx338_3,hx338_4⟩:=A2d HR0_0.o x4_1 p338 q338;(try rw[← Nbq9.o] at hx338_1);cases e338;replace hx338_0:=zc3 HB.o hx338_0;replace hx338_1:=zc3 HB.o hx338_1;replace hx338_2:=zc3 HB.o hx338_2;replace hx338_3:=zc3 HB.o hx338_3;replace hx338_4:=zc3 HB.o hx338_4;replace p338:=eq_true p338;replace q338:=eq_true q338));go_ret;exact⟨mr,mq⟩
        ·rw[if_neg c12] at H
         have c12b0:(x3_1 == (l0_0.length:Int))=false:=C0g.mpr c12;have c12b1:(x3_1 != (l0_0.length:Int))=true:=bne_iff_ne.mpr c12;have H':=B98 H;clear H;obtain⟨hcz14_0,hcz14_1,hfz14_0,hfz14_1⟩:=zb2 BK336.o;go_wp2_with (first|((with_reducible refine A0j (f:=89) rfl ?_);refine A1l (some 20) rfl rfl Tryz.func89 Zk rfl #[.int .i64 x4_1,.int .i64 0,.int .i64 (wrap64 ((l0_0.length:Int) - 1))] rfl ml ?_;(with_reducible refine(A0n.calls x4_1 0 (wrap64 ((l0_0.length:Int) - 1)) true _ A5.o).mono ?_);rintro e w' ⟨rfl,⟨nd,rfl⟩⟩;refine⟨_,rfl,?_⟩;have p338:0≤(x4_1:Int):=mo;have q338:x4_1 < (l0_0.length:Int):=mo;obtain⟨ad338,e338,hx338_0,hx338_1,hx338_2,hx338_3,hx338_4⟩:=A2d HR0_0.o x4_1 p338 q338;(try rw[← Nbq9.o] at hx338_1);cases e338;replace hx338_0:=zc3 HB.o hx338_0;replace hx338_1:=zc3 HB.o hx338_1;replace hx338_2:=zc3 HB.o hx338_2;replace hx338_3:=zc3 HB.o hx338_3;replace hx338_4:=zc3 HB.o hx338_4;replace p338:=eq_true p338;replace q338:=eq_true q338;have p339:0≤(x4_1:Int):=mo;have q339:x4_1 < (l0_0.length:Int):=mo;obtain⟨ad339,e339,hx339_0,hx339_1,hx339_2,hx339_3,hx339_4⟩:=A2d HR0_0.o x4_1 p339 q339;(try rw[← Nbq9.o] at hx339_1);obtain rfl:ad338=ad339:=(by injection e339);replace hx339_0:=zc3 HB.o hx339_0;replace hx339_1:=zc3 HB.o hx339_1;replace hx339_2:=zc3 HB.o hx339_2;replace hx339_3:=zc3 HB.o hx339_3;replace hx339_4:=zc3 HB.o hx339_4;replace p339:=eq_true p339;replace q339:=eq_true q339))
         go_roundg k1
         case measure=>have:=HK1.o;omega
         case rel=>exact⟨(wrap64 (x3_1+1)),((A0p l0_0 x4_1).f4),mt,mt,H',⟨by have:=HK1.o;omega⟩,⟨mz BK336.o⟩,⟨mq⟩⟩
      ·rw[if_neg c8] at H
       exact absurd H Zs
     ·rw[if_neg c7] at H
      exact absurd H Zs
    ·replace c6:=Bool.eq_false_iff.mpr c6
     subst c6;rw[if_neg (show ¬ (false=true) by decide)] at H;obtain rfl:=C0d H;obtain⟨hcz15_0,hcz15_1,hfz15_0,hfz15_1⟩:=zb2 BK336.o;go_wp2_with (first|((with_reducible refine A0j (f:=89) rfl ?_);refine A1l (some 20) rfl rfl Tryz.func89 Zk rfl #[.int .i64 x4_1,.int .i64 0,.int .i64 (wrap64 ((l0_0.length:Int) - 1))] rfl ml ?_;(with_reducible refine(A0n.calls x4_1 0 (wrap64 ((l0_0.length:Int) - 1)) false _ A5.o).mono ?_);rintro e w' ⟨rfl,⟨nd,rfl⟩⟩;refine⟨_,rfl,?_⟩));go_ret;exact⟨mr,mq⟩
end Go.Proofs.YtediiolcoilepaaGreat.GNear
