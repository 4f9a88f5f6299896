/- Walks of callees. -/
import Derived.Test.YtediiolcoilepaaGreatNbH
namespace Go.Proofs.YtediiolcoilepaaGreat.Nb
set_option maxHeartbeats 8000000
set_option maxRecDepth 100000
open Go.RowKit YtediiolcoilepaaGreat.GNear YtediiolcoilepaaGreatW.PrintWords YtediiolcoilepaaGreatW.PrintLast YtediiolcoilepaaGreatW.PrintMore
theorem B9h (x:List S196) (i:Nat) (h:i < x.length):A5d x (i:Int)=x[i]:=by
 unfold A5d;rw[C0j,C0k,C0c h];rfl
theorem B9i (x:List S198) (i:Nat) (h:i < x.length):A63 x (i:Int)=x[i]:=by
 unfold A63;rw[C0j,C0k,C0c h];rfl
def A6m (s:S196):S94:=⟨s.f0,s.f1,s.f2,s.f3,s.f4⟩
def A46 (s:S198):S151:=⟨s.f0,s.f1⟩
def A27 (w:World) (a:Int) (P:Prop) (e:Ending) (w':World):Prop:=∃ r,e=.returned (.int .i64 r)∧r≤a∧-1≤r∧(0≤r→P)∧Below w.heap.size w w'
theorem A27.no {w w':World} {a:Int} {P:Prop} (hb:Below w.heap.size w w') (h:0≤a):A27 w a P (.returned (.int .i64 (-1))) w':=⟨-1,rfl,by omega,by omega,fun h=>absurd h Zo,hb⟩
theorem A27.yes {w w':World} {a r:Int} {P:Prop} (hb:Below w.heap.size w w') (h:r≤a) (h0:¬ r < 0) (p:P):A27 w a P (.returned (.int .i64 r)) w':=⟨r,rfl,h,by omega,fun _=>p,hb⟩
theorem zsub {a:Int} {n:Nat} (h0:0≤a) (h1:a≤1048576) (hn:n≤maxLen):wrap64 (a - (n:Int))=a - n:=by unfold maxLen at hn;unfold wrap64;omega
theorem B75 (x:S196) (a:Int) (h0:0≤a) (h1:a≤1048576) (hs:x.f2.size≤maxLen∧x.f3.size≤maxLen) (w:World):Calls Tryz.prog 184 #[.agg #[.int .i64 x.f0,.bool x.f1,.string x.f2,.string x.f3,.int .i64 x.f4],.int .i64 a] w (A27 w a (x.f2.size≤1048576∧x.f3.size≤1048576)):=by
 have HS:=B98 (St.start w);have H0:=B98 h0;have H1:=B98 h1;have HX:=B98 hs;clear h0 h1 hs;go_enter Tryz.func184,Tryz.ntmps184;go_upto_region 1 with (first|((with_reducible refine A0b (N:=2) rfl ?_);refine boxS HS (N:=2) fun g2 w2 S=>?_;clear HS;have HS:=B98 S;obtain⟨hc2_0,hc2_1,hc2_2,hc2_3,hc2_4⟩:=S.cells5 0 rfl;clear S));obtain⟨r,hr⟩:∃ z_,z_=a - (x.f2.size:Int):=⟨_,rfl⟩;have qr:wrap64 (a - (x.f2.size:Int))=r:=by rw[hr];exact zsub (by have:=H0.o;omega) (by have:=H1.o;omega) (HX.o.1)
 have Nr:=B98 hr;clear hr;by_cases cr:r < 0
 case pos =>
  have tr:decide (r < 0)=true:=B99 cr;go_wp2_with fail;go_ret;exact A27.no HS.o.below H0.o
 have tr:decide (r < 0)=false:=C0a cr;have Cr:=B98 cr;clear cr;obtain⟨s,hs⟩:∃ z_,z_=r - (x.f3.size:Int):=⟨_,rfl⟩;have qs:wrap64 (r - (x.f3.size:Int))=s:=by rw[hs];exact zsub (by have:=Cr.o;omega) (by have:=H1.o;have:=Nr.o;omega) (HX.o.2)
 have Ns:=B98 hs;clear hs;by_cases cs:s < 0
 case pos =>
  have ts:decide (s < 0)=true:=B99 cs;go_wp2_with fail;go_ret;exact A27.no HS.o.below H0.o
 have ts:decide (s < 0)=false:=C0a cs;have Cs:=B98 cs;clear cs;go_wp2_with fail;go_ret;exact A27.yes HS.o.below (by have:=H0.o;have:=H1.o;have:=Nr.o;have:=Cr.o;have:=Ns.o;have:=Cs.o;omega) (by have:=Cs.o;omega) (by have:=H0.o;have:=H1.o;have:=Nr.o;have:=Cr.o;have:=Ns.o;have:=Cs.o;omega)
theorem B76 (x:S198) (a:Int) (h0:0≤a) (h1:a≤1048576) (hs:x.f0.size≤maxLen) (w:World):Calls Tryz.prog 185 #[.agg #[.string x.f0,.int .i64 x.f1],.int .i64 a] w (A27 w a (x.f0.size≤1048576)):=by
 have HS:=B98 (St.start w);have H0:=B98 h0;have H1:=B98 h1;have HX:=B98 hs;clear h0 h1 hs;go_enter Tryz.func185,Tryz.ntmps185;go_upto_region 1 with (first|((with_reducible refine A0b (N:=2) rfl ?_);refine boxS HS (N:=2) fun g2 w2 S=>?_;clear HS;have HS:=B98 S;obtain⟨hc2_0,hc2_1⟩:=S.cells2 0 rfl;clear S));obtain⟨r,hr⟩:∃ z_,z_=a - (x.f0.size:Int):=⟨_,rfl⟩;have qr:wrap64 (a - (x.f0.size:Int))=r:=by rw[hr];exact zsub (by have:=H0.o;omega) (by have:=H1.o;omega) (HX.o)
 have Nr:=B98 hr;clear hr;by_cases cr:r < 0
 case pos =>
  have tr:decide (r < 0)=true:=B99 cr;go_wp2_with fail;go_ret;exact A27.no HS.o.below H0.o
 have tr:decide (r < 0)=false:=C0a cr;have Cr:=B98 cr;clear cr;go_wp2_with fail;go_ret;exact A27.yes HS.o.below (by have:=H0.o;have:=H1.o;have:=Nr.o;have:=Cr.o;omega) (by have:=Cr.o;omega) (by have:=H0.o;have:=H1.o;have:=Nr.o;have:=Cr.o;omega)
theorem B5v {A:Option Addr} {c:Nat} (l:List S196) (a:Int) (h0:0≤a) (h1:a≤1048576) (hl:l.length≤maxLen) (hs:∀ x ∈ l,x.f2.size≤maxLen∧x.f3.size≤maxLen) (w:World) (hA:Kd.C k196 w A l.length l):Calls Tryz.prog 109 #[.slice A l.length c,.int .i64 a] w (A27 w a (l.length≤1048576∧∀ x ∈ l,True)):=by
 have hu:=Tryz.underlying196;have HA:=B98 hA;have H0:=B98 h0;have H1:=B98 h1;have HX:=B98 hs;have HL:=B98 hl;clear hA h0 h1 hs hl;have HW:=B98 (Below.refl w.heap.size w);go_enter Tryz.func109,Tryz.ntmps109;obtain⟨r,hr⟩:∃ z_,z_=a - (l.length:Int):=⟨_,rfl⟩;have qr:wrap64 (a - (l.length:Int))=r:=by rw[hr];exact zsub H0.o H1.o HL.o
 have Nr:=B98 hr;clear hr;by_cases cr:r < 0
 case pos =>
  have tr:decide (r < 0)=true:=B99 cr;go_wp2_with fail;go_ret;exact A27.no (by first|exact HW.o|exact HW.o.drew|exact(HW.o.drew).drew) H0.o
 have tr:decide (r < 0)=false:=C0a cr;have Cr:=B98 cr;clear cr;go_wp2_with fail;clear tr qr;have HR:=B98 (show r≤a∧0≤r∧l.length≤1048576 by have:=H0.o;have:=H1.o;have:=Nr.o;have:=Cr.o;omega);go_loopw [1,5] (fun v1 v5 w'=>∃ (i:Nat) (y:Int),v1=.int .i64 y∧v5=.int .i64 i∧A0a (i≤l.length)∧A0a (0≤y∧y≤a)∧A0a (∀ x ∈ l.take i,True)∧A0a (Below w.heap.size w w')) (fun _ v5 _=>l.length - (intOf v5).toNat)
 case atStart=>exact⟨0,r,rfl,rfl,⟨Nat.zero_le _⟩,⟨HR.o.2.1,HR.o.1⟩,⟨by simp⟩,⟨by first|exact HW.o|exact HW.o.drew|exact(HW.o.drew).drew⟩⟩
 case round =>
  clear HW Nr Cr;obtain⟨i,y,rfl,rfl,HI,HY,HG,HW⟩:=hrel;by_cases c1:i < l.length
  ·have c1b:decide ((i:Int) < (l.length:Int))=true:=B99 Zo
   have p5:(0:Int)≤(i:Int):=by omega
   have q5:(i:Int) < (l.length:Int):=by omega
   obtain⟨ad,e5,hx0,hx1,hx2,hx3,hx4⟩:=B3q (Kd.C_below HA.o HW.o) (i:Int) p5 q5;cases e5;obtain⟨x,hx⟩:∃ x,x=A5d l (i:Int):=⟨_,rfl⟩;rw[← hx] at hx0 hx1 hx2 hx3 hx4;rw[C0k] at hx0 hx1 hx2 hx3 hx4;have hi:l[i]? = some x:=by rw[hx];rw[B9h l i c1];exact C0c c1
   have HX2:=B98 (HX.o x (C0h hi));have HT:=B98 (show l.take (i+1)=l.take i ++ [x] by rw[List.take_add_one,hi];rfl);clear c1 hx hi;replace p5:=eq_true p5;replace q5:=eq_true q5;have p6:i < 1048576:=by have:=HR.o;have h_:=of_eq_true q5;omega
   go_wp2_with fail;refine(B75 x y (by have:=HY.o;omega) (by have:=HY.o;have:=H1.o;omega) HX2.o _).mono ?_;rintro e w2 ⟨z,rfl,hz1,hz2,hz3,hb⟩;have HW2:=B98 (A33 HW.o hb);clear hb HW hx0 hx1 hx2 hx3 hx4;have HW:=HW2;clear HW2;have Nz:=B98 hz1;have H3:=B98 hz3;clear hz1 hz2 hz3;by_cases cz:z < 0
   case pos =>
    have tz:decide (z < 0)=true:=B99 cz;go_wp2_with fail;go_ret;exact A27.no HW.o H0.o
   have tz:decide (z < 0)=false:=C0a cz;have Cz:=B98 cz;clear cz;go_wp2_with fail;go_roundw
   case rel=>exact⟨i+1,z,by first|rfl|rw[qz],by go_num,⟨by have h_:=of_eq_true q5;omega⟩,⟨by have:=HY.o;have:=Cz.o;have:=Nz.o;omega⟩,⟨by rw[HT.o];intro u hu;rcases List.mem_append.1 hu with hu|hu;exact HG.o u hu;trivial⟩,⟨by first|exact HW.o|exact HW.o.drew|exact(HW.o.drew).drew⟩⟩
   case measure=>have h_:=of_eq_true q5;simp only [intOf];omega
  ·have c1b:decide ((i:Int) < (l.length:Int))=false:=C0a Zo
   have c1c:decide (i < l.length)=false:=C0a c1;have HE:=B98 (show l.take i=l from List.take_of_length_le Zo);clear c1;go_wp2_with fail;go_ret;exact A27.yes (by first|exact HW.o|exact HW.o.drew|exact(HW.o.drew).drew) HY.o.2 (by have:=HY.o;omega) ⟨HR.o.2.2,by have h_:=HG.o;rw[HE.o] at h_;exact h_⟩
theorem B1n {A:Option Addr} {c:Nat} (l:List S198) (a:Int) (h0:0≤a) (h1:a≤1048576) (hl:l.length≤maxLen) (hs:∀ x ∈ l,x.f0.size≤maxLen) (w:World) (hA:Kd.C k198 w A l.length l):Calls Tryz.prog 110 #[.slice A l.length c,.int .i64 a] w (A27 w a (l.length≤1048576∧∀ x ∈ l,x.f0.size≤1048576)):=by
 have hu:=Tryz.underlying198;have HA:=B98 hA;have H0:=B98 h0;have H1:=B98 h1;have HX:=B98 hs;have HL:=B98 hl;clear hA h0 h1 hs hl;have HW:=B98 (Below.refl w.heap.size w);go_enter Tryz.func110,Tryz.ntmps110;obtain⟨r,hr⟩:∃ z_,z_=a - (l.length:Int):=⟨_,rfl⟩;have qr:wrap64 (a - (l.length:Int))=r:=by rw[hr];exact zsub H0.o H1.o HL.o
 have Nr:=B98 hr;clear hr;by_cases cr:r < 0
 case pos =>
  have tr:decide (r < 0)=true:=B99 cr;go_wp2_with fail;go_ret;exact A27.no (by first|exact HW.o|exact HW.o.drew|exact(HW.o.drew).drew) H0.o
 have tr:decide (r < 0)=false:=C0a cr;have Cr:=B98 cr;clear cr;go_wp2_with fail;clear tr qr;have HR:=B98 (show r≤a∧0≤r∧l.length≤1048576 by have:=H0.o;have:=H1.o;have:=Nr.o;have:=Cr.o;omega);go_loopw [1,5] (fun v1 v5 w'=>∃ (i:Nat) (y:Int),v1=.int .i64 y∧v5=.int .i64 i∧A0a (i≤l.length)∧A0a (0≤y∧y≤a)∧A0a (∀ x ∈ l.take i,x.f0.size≤1048576)∧A0a (Below w.heap.size w w')) (fun _ v5 _=>l.length - (intOf v5).toNat)
 case atStart=>exact⟨0,r,rfl,rfl,⟨Nat.zero_le _⟩,⟨HR.o.2.1,HR.o.1⟩,⟨by simp⟩,⟨by first|exact HW.o|exact HW.o.drew|exact(HW.o.drew).drew⟩⟩
 case round =>
  clear HW Nr Cr;obtain⟨i,y,rfl,rfl,HI,HY,HG,HW⟩:=hrel;by_cases c1:i < l.length
  ·have c1b:decide ((i:Int) < (l.length:Int))=true:=B99 Zo
   have p5:(0:Int)≤(i:Int):=by omega
   have q5:(i:Int) < (l.length:Int):=by omega
   obtain⟨ad,e5,hx0,hx1⟩:=B3s (Kd.C_below HA.o HW.o) (i:Int) p5 q5;cases e5;obtain⟨x,hx⟩:∃ x,x=A63 l (i:Int):=⟨_,rfl⟩;rw[← hx] at hx0 hx1;rw[C0k] at hx0 hx1;have hi:l[i]? = some x:=by rw[hx];rw[B9i l i c1];exact C0c c1
   have HX2:=B98 (HX.o x (C0h hi));have HT:=B98 (show l.take (i+1)=l.take i ++ [x] by rw[List.take_add_one,hi];rfl);clear c1 hx hi;replace p5:=eq_true p5;replace q5:=eq_true q5;have p6:i < 1048576:=by have:=HR.o;have h_:=of_eq_true q5;omega
   go_wp2_with fail;refine(B76 x y (by have:=HY.o;omega) (by have:=HY.o;have:=H1.o;omega) HX2.o _).mono ?_;rintro e w2 ⟨z,rfl,hz1,hz2,hz3,hb⟩;have HW2:=B98 (A33 HW.o hb);clear hb HW hx0 hx1;have HW:=HW2;clear HW2;have Nz:=B98 hz1;have H3:=B98 hz3;clear hz1 hz2 hz3;by_cases cz:z < 0
   case pos =>
    have tz:decide (z < 0)=true:=B99 cz;go_wp2_with fail;go_ret;exact A27.no HW.o H0.o
   have tz:decide (z < 0)=false:=C0a cz;have Cz:=B98 cz;clear cz;go_wp2_with fail;go_roundw
   case rel=>exact⟨i+1,z,by first|rfl|rw[qz],by go_num,⟨by have h_:=of_eq_true q5;omega⟩,⟨by have:=HY.o;have:=Cz.o;have:=Nz.o;omega⟩,⟨by rw[HT.o];intro u hu;rcases List.mem_append.1 hu with hu|hu;exact HG.o u hu;rw[List.mem_singleton.1 hu];exact H3.o (by have:=Cz.o;omega)⟩,⟨by first|exact HW.o|exact HW.o.drew|exact(HW.o.drew).drew⟩⟩
   case measure=>have h_:=of_eq_true q5;simp only [intOf];omega
  ·have c1b:decide ((i:Int) < (l.length:Int))=false:=C0a Zo
   have c1c:decide (i < l.length)=false:=C0a c1;have HE:=B98 (show l.take i=l from List.take_of_length_le Zo);clear c1;go_wp2_with fail;go_ret;exact A27.yes (by first|exact HW.o|exact HW.o.drew|exact(HW.o.drew).drew) HY.o.2 (by have:=HY.o;omega) ⟨HR.o.2.2,by have h_:=HG.o;rw[HE.o] at h_;exact h_⟩
theorem B2c {A:Option Addr} {c:Nat} (l:List ByteArray) (a:Int) (h0:0≤a) (h1:a≤1048576) (hl:l.length≤maxLen) (hs:∀ x ∈ l,x.size≤maxLen) (w:World) (hA:Kd.C Kd.string w A l.length l):Calls Tryz.prog 111 #[.slice A l.length c,.int .i64 a] w (A27 w a (l.length≤1048576∧∀ x ∈ l,True)):=by
 have HA:=B98 hA;have H0:=B98 h0;have H1:=B98 h1;have HX:=B98 hs;have HL:=B98 hl;clear hA h0 h1 hs hl;have HW:=B98 (Below.refl w.heap.size w);go_enter Tryz.func111,Tryz.ntmps111;obtain⟨r,hr⟩:∃ z_,z_=a - (l.length:Int):=⟨_,rfl⟩;have qr:wrap64 (a - (l.length:Int))=r:=by rw[hr];exact zsub H0.o H1.o HL.o
 have Nr:=B98 hr;clear hr;by_cases cr:r < 0
 case pos =>
  have tr:decide (r < 0)=true:=B99 cr;go_wp2_with fail;go_ret;exact A27.no (by first|exact HW.o|exact HW.o.drew|exact(HW.o.drew).drew) H0.o
 have tr:decide (r < 0)=false:=C0a cr;have Cr:=B98 cr;clear cr;go_wp2_with fail;clear tr qr;have HR:=B98 (show r≤a∧0≤r∧l.length≤1048576 by have:=H0.o;have:=H1.o;have:=Nr.o;have:=Cr.o;omega);go_loopw [1,5] (fun v1 v5 w'=>∃ (i:Nat) (y:Int),v1=.int .i64 y∧v5=.int .i64 i∧A0a (i≤l.length)∧A0a (0≤y∧y≤a)∧A0a (∀ x ∈ l.take i,True)∧A0a (Below w.heap.size w w')) (fun _ v5 _=>l.length - (intOf v5).toNat)
 case atStart=>exact⟨0,r,rfl,rfl,⟨Nat.zero_le _⟩,⟨HR.o.2.1,HR.o.1⟩,⟨by simp⟩,⟨by first|exact HW.o|exact HW.o.drew|exact(HW.o.drew).drew⟩⟩
 case round =>
  clear HW Nr Cr;obtain⟨i,y,rfl,rfl,HI,HY,HG,HW⟩:=hrel;by_cases c1:i < l.length
  ·have c1b:decide ((i:Int) < (l.length:Int))=true:=B99 Zo
   have p5:(0:Int)≤(i:Int):=by omega
   have q5:(i:Int) < (l.length:Int):=by omega
   obtain⟨ad,e5,hx0⟩:=Kd.at_string (Kd.C_below HA.o HW.o) (i:Int) p5 q5;cases e5;obtain⟨x,hx⟩:∃ x,x=rdOf ByteArray.empty l (i:Int):=⟨_,rfl⟩;rw[← hx] at hx0;rw[C0k] at hx0;have hi:l[i]? = some x:=by rw[hx];rw[A2g l i c1];exact C0c c1
   have HX2:=B98 (HX.o x (C0h hi));have HT:=B98 (show l.take (i+1)=l.take i ++ [x] by rw[List.take_add_one,hi];rfl);clear c1 hx hi;replace p5:=eq_true p5;replace q5:=eq_true q5;have p6:i < 1048576:=by have:=HR.o;have h_:=of_eq_true q5;omega
   obtain⟨z,hz⟩:∃ z_,z_=y - (x.size:Int):=⟨_,rfl⟩;have qz:wrap64 (y - (x.size:Int))=z:=by rw[hz];exact zsub HY.o.1 (by have:=HY.o;have:=H1.o;omega) HX2.o
   have Nz:=B98 hz;clear hz;by_cases cz:z < 0
   case pos =>
    have tz:decide (z < 0)=true:=B99 cz;go_wp2_with fail;go_ret;exact A27.no (by first|exact HW.o|exact HW.o.drew|exact(HW.o.drew).drew) H0.o
   have tz:decide (z < 0)=false:=C0a cz;have Cz:=B98 cz;clear cz;go_wp2_with fail;go_roundw
   case rel=>exact⟨i+1,z,by first|rfl|rw[qz],by go_num,⟨by have h_:=of_eq_true q5;omega⟩,⟨by have:=HY.o;have:=Cz.o;have:=Nz.o;omega⟩,⟨by rw[HT.o];intro u hu;rcases List.mem_append.1 hu with hu|hu;exact HG.o u hu;trivial⟩,⟨by first|exact HW.o|exact HW.o.drew|exact(HW.o.drew).drew⟩⟩
   case measure=>have h_:=of_eq_true q5;simp only [intOf];omega
  ·have c1b:decide ((i:Int) < (l.length:Int))=false:=C0a Zo
   have c1c:decide (i < l.length)=false:=C0a c1;have HE:=B98 (show l.take i=l from List.take_of_length_le Zo);clear c1;go_wp2_with fail;go_ret;exact A27.yes (by first|exact HW.o|exact HW.o.drew|exact(HW.o.drew).drew) HY.o.2 (by have:=HY.o;omega) ⟨HR.o.2.2,by have h_:=HG.o;rw[HE.o] at h_;exact h_⟩
theorem B77 {A:Option Addr} {c:Nat} (l:List Int) (a:Int) (h0:0≤a) (h1:a≤1048576) (hl:l.length≤maxLen) (w:World):Calls Tryz.prog 112 #[.slice A l.length c,.int .i64 a] w (A27 w a (l.length≤1048576)):=by
 have H0:=B98 h0;have H1:=B98 h1;have HL:=B98 hl;clear h0 h1 hl;have HW:=B98 (Below.refl w.heap.size w);go_enter Tryz.func112,Tryz.ntmps112;obtain⟨r,hr⟩:∃ z_,z_=a - (l.length:Int):=⟨_,rfl⟩;have qr:wrap64 (a - (l.length:Int))=r:=by rw[hr];exact zsub H0.o H1.o HL.o
 have Nr:=B98 hr;clear hr;by_cases cr:r < 0
 case pos =>
  have tr:decide (r < 0)=true:=B99 cr;go_wp2_with fail;go_ret;exact A27.no (by first|exact HW.o|exact HW.o.drew|exact(HW.o.drew).drew) H0.o
 have tr:decide (r < 0)=false:=C0a cr;have Cr:=B98 cr;clear cr;go_wp2_with fail;go_ret;exact A27.yes (by first|exact HW.o|exact HW.o.drew|exact(HW.o.drew).drew) (by have:=Nr.o;omega) (by have:=Cr.o;omega) (by have:=H1.o;have:=Nr.o;have:=Cr.o;omega)
theorem B5w {A0:Option Addr} {c0:Nat} (l0:List S196) (s0:l0.length≤maxLen) (k0:∀ x ∈ l0,x.f2.size≤maxLen∧x.f3.size≤maxLen) (a1:Int) (a:Int) (h0:0≤a) (h1:a≤1048576) (w:World) (hA0:Kd.C k196 w A0 l0.length l0):Calls Tryz.prog 36 #[.agg #[.slice A0 l0.length c0,.int .i64 a1],.int .i64 a] w (A27 w a ((l0.length≤1048576∧∀ x ∈ l0,True))):=by
 have HA0:=B98 hA0;clear hA0;have H0:=B98 h0;have H1:=B98 h1;clear h0 h1;have HS:=B98 (St.start w);go_enter Tryz.func36,Tryz.ntmps36;go_wp2_with (first|((with_reducible refine A0b (N:=2) rfl ?_);refine boxS HS (N:=2) fun g2 w2 S=>?_;clear HS;have HS:=B98 S;obtain⟨hc2_0,hc2_1⟩:=S.cells2 0 rfl;clear S));have hb:=HS.o.below;refine(B5v l0 a (by have:=H0.o;omega) (by have:=H1.o;omega) s0 k0 _ (Kd.C_below HA0.o hb)).mono ?_;clear hb;rintro e w5 ⟨r,rfl,hz1,hz2,hz3,hb⟩;have S:=HS.o.step hb;clear hb HS hc2_0 hc2_1;have HS:=B98 S;obtain⟨hc2_0,hc2_1⟩:=S.cells2 0 rfl;clear S;have Nr:=B98 hz1;have Gr:=B98 hz3;clear hz1 hz2 hz3;by_cases cr:r < 0
 case pos =>
  have tr:decide (r < 0)=true:=B99 cr;go_wp2_with fail;go_ret;exact A27.no HS.o.below H0.o
 have tr:decide (r < 0)=false:=C0a cr;have Cr:=B98 cr;clear cr;go_wp2_with fail;go_ret;exact A27.yes HS.o.below (by have:=Nr.o;omega) (by have:=Cr.o;omega) (Gr.o (by have:=Cr.o;omega))
theorem B5x {A0:Option Addr} {c0:Nat} (l0:List S198) (s0:l0.length≤maxLen) (k0:∀ x ∈ l0,x.f0.size≤maxLen) {A1:Option Addr} {c1:Nat} (l1:List S198) (s1:l1.length≤maxLen) (k1:∀ x ∈ l1,x.f0.size≤maxLen) (a2:Int) (a:Int) (h0:0≤a) (h1:a≤1048576) (w:World) (hA0:Kd.C k198 w A0 l0.length l0) (hA1:Kd.C k198 w A1 l1.length l1):Calls Tryz.prog 37 #[.agg #[.slice A0 l0.length c0,.slice A1 l1.length c1,.int .i64 a2],.int .i64 a] w (A27 w a ((l0.length≤1048576∧∀ x ∈ l0,x.f0.size≤1048576)∧(l1.length≤1048576∧∀ x ∈ l1,x.f0.size≤1048576))):=by
 have HA0:=B98 hA0;clear hA0;have HA1:=B98 hA1;clear hA1;have H0:=B98 h0;have H1:=B98 h1;clear h0 h1;have HS:=B98 (St.start w);go_enter Tryz.func37,Tryz.ntmps37;go_wp2_with (first|((with_reducible refine A0b (N:=2) rfl ?_);refine boxS HS (N:=2) fun g2 w2 S=>?_;clear HS;have HS:=B98 S;obtain⟨hc2_0,hc2_1,hc2_2⟩:=S.cells3 0 rfl;clear S));have hb:=HS.o.below;refine(B1n l0 a (by have:=H0.o;omega) (by have:=H1.o;omega) s0 k0 _ (Kd.C_below HA0.o hb)).mono ?_;clear hb;rintro e w5 ⟨r,rfl,hz1,hz2,hz3,hb⟩;have S:=HS.o.step hb;clear hb HS hc2_0 hc2_1 hc2_2;have HS:=B98 S;obtain⟨hc2_0,hc2_1,hc2_2⟩:=S.cells3 0 rfl;clear S;have Nr:=B98 hz1;have Gr:=B98 hz3;clear hz1 hz2 hz3;by_cases cr:r < 0
 case pos =>
  have tr:decide (r < 0)=true:=B99 cr;go_wp2_with fail;go_ret;exact A27.no HS.o.below H0.o
 have tr:decide (r < 0)=false:=C0a cr;have Cr:=B98 cr;clear cr;go_wp2_with fail;have hb:=HS.o.below;refine(B1n l1 r (by have:=H0.o;have:=Cr.o;omega) (by have:=H1.o;have:=Nr.o;omega) s1 k1 _ (Kd.C_below HA1.o hb)).mono ?_;clear hb;rintro e w6 ⟨s,rfl,hz1,hz2,hz3,hb⟩;have S:=HS.o.step hb;clear hb HS hc2_0 hc2_1 hc2_2;have HS:=B98 S;obtain⟨hc2_0,hc2_1,hc2_2⟩:=S.cells3 0 rfl;clear S;have Ns:=B98 hz1;have Gs:=B98 hz3;clear hz1 hz2 hz3;by_cases cs:s < 0
 case pos =>
  have ts:decide (s < 0)=true:=B99 cs;go_wp2_with fail;go_ret;exact A27.no HS.o.below H0.o
 have ts:decide (s < 0)=false:=C0a cs;have Cs:=B98 cs;clear cs;go_wp2_with fail;go_ret;exact A27.yes HS.o.below (by have:=Nr.o;have:=Ns.o;omega) (by have:=Cs.o;omega) ⟨Gr.o (by have:=Cr.o;omega),Gs.o (by have:=Cs.o;omega)⟩
theorem A87 (a0:Int) {A1:Option Addr} {c1:Nat} (l1:List ByteArray) (s1:l1.length≤maxLen) (k1:∀ x ∈ l1,x.size≤maxLen) (a:Int) (h0:0≤a) (h1:a≤1048576) (w:World) (hA1:Kd.C Kd.string w A1 l1.length l1):Calls Tryz.prog 38 #[.agg #[.int .i64 a0,.slice A1 l1.length c1],.int .i64 a] w (A27 w a ((l1.length≤1048576∧∀ x ∈ l1,True))):=by
 have HA1:=B98 hA1;clear hA1;have H0:=B98 h0;have H1:=B98 h1;clear h0 h1;have HS:=B98 (St.start w);go_enter Tryz.func38,Tryz.ntmps38;go_wp2_with (first|((with_reducible refine A0b (N:=2) rfl ?_);refine boxS HS (N:=2) fun g2 w2 S=>?_;clear HS;have HS:=B98 S;obtain⟨hc2_0,hc2_1⟩:=S.cells2 0 rfl;clear S));have hb:=HS.o.below;refine(B2c l1 a (by have:=H0.o;omega) (by have:=H1.o;omega) s1 k1 _ (Kd.C_below HA1.o hb)).mono ?_;clear hb;rintro e w5 ⟨r,rfl,hz1,hz2,hz3,hb⟩;have S:=HS.o.step hb;clear hb HS hc2_0 hc2_1;have HS:=B98 S;obtain⟨hc2_0,hc2_1⟩:=S.cells2 0 rfl;clear S;have Nr:=B98 hz1;have Gr:=B98 hz3;clear hz1 hz2 hz3;by_cases cr:r < 0
 case pos =>
  have tr:decide (r < 0)=true:=B99 cr;go_wp2_with fail;go_ret;exact A27.no HS.o.below H0.o
 have tr:decide (r < 0)=false:=C0a cr;have Cr:=B98 cr;clear cr;go_wp2_with fail;go_ret;exact A27.yes HS.o.below (by have:=Nr.o;omega) (by have:=Cr.o;omega) (Gr.o (by have:=Cr.o;omega))
theorem B3x {A0:Option Addr} {c0:Nat} (l0:List Int) (s0:l0.length≤maxLen) (a1:Int) (a:Int) (h0:0≤a) (h1:a≤1048576) (w:World) (hA0:Kd.C (Kd.int .i64) w A0 l0.length l0):Calls Tryz.prog 39 #[.agg #[.slice A0 l0.length c0,.int .i64 a1],.int .i64 a] w (A27 w a ((l0.length≤1048576))):=by
 have HA0:=B98 hA0;clear hA0;have H0:=B98 h0;have H1:=B98 h1;clear h0 h1;have HS:=B98 (St.start w);go_enter Tryz.func39,Tryz.ntmps39;go_wp2_with (first|((with_reducible refine A0b (N:=2) rfl ?_);refine boxS HS (N:=2) fun g2 w2 S=>?_;clear HS;have HS:=B98 S;obtain⟨hc2_0,hc2_1⟩:=S.cells2 0 rfl;clear S));have hb:=HS.o.below;refine(B77 l0 a (by have:=H0.o;omega) (by have:=H1.o;omega) s0 _).mono ?_;clear hb;rintro e w5 ⟨r,rfl,hz1,hz2,hz3,hb⟩;have S:=HS.o.step hb;clear hb HS hc2_0 hc2_1;have HS:=B98 S;obtain⟨hc2_0,hc2_1⟩:=S.cells2 0 rfl;clear S;have Nr:=B98 hz1;have Gr:=B98 hz3;clear hz1 hz2 hz3;by_cases cr:r < 0
 case pos =>
  have tr:decide (r < 0)=true:=B99 cr;go_wp2_with fail;go_ret;exact A27.no HS.o.below H0.o
 have tr:decide (r < 0)=false:=C0a cr;have Cr:=B98 cr;clear cr;go_wp2_with fail;go_ret;exact A27.yes HS.o.below (by have:=Nr.o;omega) (by have:=Cr.o;omega) (Gr.o (by have:=Cr.o;omega))
structure Lr where
 sl:List S196
 fr:Int
 ce:List S198
 old:List S198
 mv:Int
 wm:Int
 wk:List ByteArray
 tm:Int
 tk:List ByteArray
 sm:Int
 sk:List ByteArray
 ct:List Int
 ad:Int
 db:Int
structure LrC (w:World) (v:NV) (n:Lr):Prop where
 r0:RowC k196 w v.v0 n.sl
 r2:RowC k198 w v.v2 n.ce
 r3:RowC k198 w v.v3 n.old
 r6:RowC Kd.string w v.v6 n.wk
 r8:RowC Kd.string w v.v8 n.tk
 r10:RowC Kd.string w v.v10 n.sk
 r11:RowC (Kd.int .i64) w v.v11 n.ct
structure LrF (w:World) (n:Lr) (A0 A2 A3 A6 A8 A10 A11:Option Addr) (c0 c2 c3 c6 c8 c10 c11:Nat):Prop where
 h0:Kd.C k196 w A0 n.sl.length n.sl
 h2:Kd.C k198 w A2 n.ce.length n.ce
 h3:Kd.C k198 w A3 n.old.length n.old
 h6:Kd.C Kd.string w A6 n.wk.length n.wk
 h8:Kd.C Kd.string w A8 n.tk.length n.tk
 h10:Kd.C Kd.string w A10 n.sk.length n.sk
 h11:Kd.C (Kd.int .i64) w A11 n.ct.length n.ct
 l0:n.sl.length≤c0
 l2:n.ce.length≤c2
 l3:n.old.length≤c3
 l6:n.wk.length≤c6
 l8:n.tk.length≤c8
 l10:n.sk.length≤c10
 l11:n.ct.length≤c11
theorem LrC.open_ {w:World} {v:NV} {n:Lr} (h:LrC w v n):∃ A0 c0 A2 c2 A3 c3 A6 c6 A8 c8 A10 c10 A11 c11,v=⟨.slice A0 n.sl.length c0,.slice A2 n.ce.length c2,.slice A3 n.old.length c3,.slice A6 n.wk.length c6,.slice A8 n.tk.length c8,.slice A10 n.sk.length c10,.slice A11 n.ct.length c11⟩∧LrF w n A0 A2 A3 A6 A8 A10 A11 c0 c2 c3 c6 c8 c10 c11:=by
 obtain⟨v0,v2,v3,v6,v8,v10,v11⟩:=v;obtain⟨⟨A0,c0,e0,l0,h0⟩,⟨A2,c2,e2,l2,h2⟩,⟨A3,c3,e3,l3,h3⟩,⟨A6,c6,e6,l6,h6⟩,⟨A8,c8,e8,l8,h8⟩,⟨A10,c10,e10,l10,h10⟩,⟨A11,c11,e11,l11,h11⟩⟩:=h;subst e0 e2 e3 e6 e8 e10 e11;exact⟨A0,c0,A2,c2,A3,c3,A6,c6,A8,c8,A10,c10,A11,c11,rfl,h0,h2,h3,h6,h8,h10,h11,l0,l2,l3,l6,l8,l10,l11⟩
theorem LrF.below {w w':World} {n:Lr} {A0 A2 A3 A6 A8 A10 A11:Option Addr} {c0 c2 c3 c6 c8 c10 c11:Nat} (h:LrF w n A0 A2 A3 A6 A8 A10 A11 c0 c2 c3 c6 c8 c10 c11) (hb:Below w.heap.size w w'):LrF w' n A0 A2 A3 A6 A8 A10 A11 c0 c2 c3 c6 c8 c10 c11 :=
 ⟨Kd.C_below h.h0 hb,Kd.C_below h.h2 hb,Kd.C_below h.h3 hb,Kd.C_below h.h6 hb,Kd.C_below h.h8 hb,Kd.C_below h.h10 hb,Kd.C_below h.h11 hb,h.l0,h.l2,h.l3,h.l6,h.l8,h.l10,h.l11⟩
def NV.cellsL (v:NV) (n:Lr):Array Value:=#[v.v0,.int .i64 n.fr,v.v2,v.v3,.int .i64 n.mv,.int .i64 n.wm,v.v6,.int .i64 n.tm,v.v8,.int .i64 n.sm,v.v10,v.v11,.int .i64 n.ad,.int .i64 n.db]
def Lr.to (n:Lr):Nr:=⟨n.sl.map A6m,n.fr,n.ce.map A46,n.old.map A46,n.mv,n.wm,n.wk,n.tm,n.tk,n.sm,n.sk,n.ct,n.ad,n.db⟩
structure Lr.ok (n:Lr):Prop where
 l0:n.sl.length≤maxLen
 l2:n.ce.length≤maxLen
 l3:n.old.length≤maxLen
 l6:n.wk.length≤maxLen
 l8:n.tk.length≤maxLen
 l10:n.sk.length≤maxLen
 l11:n.ct.length≤maxLen
 k0:∀ s ∈ n.sl,s.f2.size≤maxLen∧s.f3.size≤maxLen
 k2:∀ s ∈ n.ce,s.f0.size≤maxLen
 k3:∀ s ∈ n.old,s.f0.size≤maxLen
 k6:∀ s ∈ n.wk,s.size≤maxLen
 k8:∀ s ∈ n.tk,s.size≤maxLen
 k10:∀ s ∈ n.sk,s.size≤maxLen
 r2:∀ c ∈ n.ce,c.f1≤9223372036854775807
structure Lr.few (n:Lr):Prop where
 s0:n.sl.length≤1048576
 s2:n.ce.length≤1048576
 s3:n.old.length≤1048576
 s6:n.wk.length≤1048576
 s8:n.tk.length≤1048576
 s10:n.sk.length≤1048576
 s11:n.ct.length≤1048576
 k2:∀ s ∈ n.ce,s.f0.size≤1048576
 k3:∀ s ∈ n.old,s.f0.size≤1048576
theorem Lr.few.small {n:Lr} (h:n.few):n.to.small:=by
 refine⟨by simpa [Lr.to] using h.s0,by simpa [Lr.to] using h.s2,by simpa [Lr.to] using h.s3,h.s6,h.s8,h.s10,h.s11,fun x hx=>?_,fun x hx=>?_⟩
 ·obtain⟨y,hy,rfl⟩:=List.mem_map.1 hx
  show y.f0.size≤_;have:=h.k2 y hy;omega
 ·obtain⟨y,hy,rfl⟩:=List.mem_map.1 hx
  show y.f0.size≤_;have:=h.k3 y hy;omega
theorem Lr.ok.high {n:Lr} (ho:n.ok):∀ c ∈ n.to.ce,c.f1≤9223372036854775807:=fun x hx=>by
 obtain⟨y,hy,rfl⟩:=List.mem_map.1 hx;exact ho.r2 y hy
def A5m (w:World) (m:Lr) (e:Ending) (w':World):Prop:=∃ r,e=.returned (.int .i64 r)∧(0≤r→m.few)∧Below w.heap.size w w'
theorem A5m.no {w w':World} {m:Lr} (hb:Below w.heap.size w w'):A5m w m (.returned (.int .i64 (-1))) w':=⟨-1,rfl,fun h=>absurd h Zo,hb⟩
theorem A5m.yes {w w':World} {m:Lr} {r:Int} (hb:Below w.heap.size w w') (h:m.few):A5m w m (.returned (.int .i64 r)) w':=⟨r,rfl,fun _=>h,hb⟩
theorem B78 (w:World) (v:NV) (n:Lr) (hn:n.ok) (hC:LrC w v n) :
  Calls Tryz.prog 12 #[.agg (v.cellsL n),.int .i64 1048576] w (A5m w n):=by
 obtain⟨A0,c0,A2,c2,A3,c3,A6,c6,A8,c8,A10,c10,A11,c11,rfl,hF⟩:=hC.open_;have HF:=B98 hF;clear hC hF;dsimp only [NV.cellsL];have HS:=B98 (St.start w);have HN:=B98 hn;clear hn;go_enter Tryz.func12,Tryz.ntmps12;go_wp2_with fail;have S:=HS.o.alloc #[.slice A0 n.sl.length c0,.int .i64 n.fr,.slice A2 n.ce.length c2,.slice A3 n.old.length c3,.int .i64 n.mv,.int .i64 n.wm,.slice A6 n.wk.length c6,.int .i64 n.tm,.slice A8 n.tk.length c8,.int .i64 n.sm,.slice A10 n.sk.length c10,.slice A11 n.ct.length c11,.int .i64 n.ad,.int .i64 n.db] 37;clear HS;have HS:=B98 S;obtain⟨L0,hL0⟩:∃ x,x=(1048576:Int):=⟨_,rfl⟩;rw[← hL0];have HG0:=B98 (show 0≤L0∧L0≤1048576 by omega);clear hL0;have hbb:=HS.o.below;refine(B5w n.sl HN.o.l0 HN.o.k0 n.fr L0 HG0.o.1 HG0.o.2 _ (HF.o.below hbb).h0).mono ?_;rintro e w1 ⟨L1,rfl,g1,g2,g3,hb⟩;have S:=HS.o.step hb;clear HS hb hbb;have HS:=B98 S;have hc2:=S.at_cell 0 rfl 2 rfl;have hc3:=S.at_cell 0 rfl 3 rfl;have hc4:=S.at_cell 0 rfl 4 rfl;clear S;have HQ1:=B98 g3;clear g3;by_cases c:L1 < 0
 case pos =>
  obtain rfl:L1 = -1:=by omega
  clear g1 g2;go_wp2_with fail;go_ret;exact A5m.no HS.o.below
 have c1:decide (L1 < 0)=false:=C0a c;have HG1:=B98 (show 0≤L1∧L1≤1048576 by have:=HG0.o;omega);clear g1 g2;go_wp2_with fail;have hbb:=HS.o.below;refine(B5x n.ce HN.o.l2 HN.o.k2 n.old HN.o.l3 HN.o.k3 n.mv L1 HG1.o.1 HG1.o.2 _ (HF.o.below hbb).h2 (HF.o.below hbb).h3).mono ?_;rintro e w2 ⟨L2,rfl,g1,g2,g3,hb⟩;have S:=HS.o.step hb;clear HS hb hbb;clear hc2 hc3 hc4;have HS:=B98 S;have hc5:=S.at_cell 0 rfl 5 rfl;have hc6:=S.at_cell 0 rfl 6 rfl;clear S;have HQ2:=B98 g3;clear g3;by_cases c:L2 < 0
 case pos =>
  obtain rfl:L2 = -1:=by omega
  clear g1 g2;go_wp2_with fail;go_ret;exact A5m.no HS.o.below
 have c1:decide (L2 < 0)=false:=C0a c;have HG2:=B98 (show 0≤L2∧L2≤1048576 by have:=HG1.o;omega);clear g1 g2;go_wp2_with fail;have hbb:=HS.o.below;refine(A87 n.wm n.wk HN.o.l6 HN.o.k6 L2 HG2.o.1 HG2.o.2 _ (HF.o.below hbb).h6).mono ?_;rintro e w3 ⟨L3,rfl,g1,g2,g3,hb⟩;have S:=HS.o.step hb;clear HS hb hbb;clear hc5 hc6;have HS:=B98 S;have hc7:=S.at_cell 0 rfl 7 rfl;have hc8:=S.at_cell 0 rfl 8 rfl;clear S;have HQ3:=B98 g3;clear g3;by_cases c:L3 < 0
 case pos =>
  obtain rfl:L3 = -1:=by omega
  clear g1 g2;go_wp2_with fail;go_ret;exact A5m.no HS.o.below
 have c1:decide (L3 < 0)=false:=C0a c;have HG3:=B98 (show 0≤L3∧L3≤1048576 by have:=HG2.o;omega);clear g1 g2;go_wp2_with fail;have hbb:=HS.o.below;refine(A87 n.tm n.tk HN.o.l8 HN.o.k8 L3 HG3.o.1 HG3.o.2 _ (HF.o.below hbb).h8).mono ?_;rintro e w4 ⟨L4,rfl,g1,g2,g3,hb⟩;have S:=HS.o.step hb;clear HS hb hbb;clear hc7 hc8;have HS:=B98 S;have hc9:=S.at_cell 0 rfl 9 rfl;have hc10:=S.at_cell 0 rfl 10 rfl;clear S;have HQ4:=B98 g3;clear g3;by_cases c:L4 < 0
 case pos =>
  obtain rfl:L4 = -1:=by omega
  clear g1 g2;go_wp2_with fail;go_ret;exact A5m.no HS.o.below
 have c1:decide (L4 < 0)=false:=C0a c;have HG4:=B98 (show 0≤L4∧L4≤1048576 by have:=HG3.o;omega);clear g1 g2;go_wp2_with fail;have hbb:=HS.o.below;refine(A87 n.sm n.sk HN.o.l10 HN.o.k10 L4 HG4.o.1 HG4.o.2 _ (HF.o.below hbb).h10).mono ?_;rintro e w5 ⟨L5,rfl,g1,g2,g3,hb⟩;have S:=HS.o.step hb;clear HS hb hbb;clear hc9 hc10;have HS:=B98 S;have hc11:=S.at_cell 0 rfl 11 rfl;have hc12:=S.at_cell 0 rfl 12 rfl;clear S;have HQ5:=B98 g3;clear g3;by_cases c:L5 < 0
 case pos =>
  obtain rfl:L5 = -1:=by omega
  clear g1 g2;go_wp2_with fail;go_ret;exact A5m.no HS.o.below
 have c1:decide (L5 < 0)=false:=C0a c;have HG5:=B98 (show 0≤L5∧L5≤1048576 by have:=HG4.o;omega);clear g1 g2;go_wp2_with fail;have hbb:=HS.o.below;refine(B3x n.ct HN.o.l11 n.ad L5 HG5.o.1 HG5.o.2 _ (HF.o.below hbb).h11).mono ?_;rintro e w6 ⟨L6,rfl,g1,g2,g3,hb⟩;have S:=HS.o.step hb;clear HS hb hbb;clear hc11 hc12;have HS:=B98 S;clear S;have HQ6:=B98 g3;clear g3;by_cases c:L6 < 0
 case pos =>
  obtain rfl:L6 = -1:=by omega
  clear g1 g2;go_wp2_with fail;go_ret;exact A5m.no HS.o.below
 have c1:decide (L6 < 0)=false:=C0a c;have HG6:=B98 (show 0≤L6∧L6≤1048576 by have:=HG5.o;omega);clear g1 g2;go_wp2_with fail;go_ret;exact A5m.yes HS.o.below ⟨(HQ1.o HG1.o.1).1,(HQ2.o HG2.o.1).1.1,(HQ2.o HG2.o.1).2.1,(HQ3.o HG3.o.1).1,(HQ4.o HG4.o.1).1,(HQ5.o HG5.o.1).1,HQ6.o HG6.o.1,(HQ2.o HG2.o.1).1.2,(HQ2.o HG2.o.1).2.2⟩
end Go.Proofs.YtediiolcoilepaaGreat.Nb
