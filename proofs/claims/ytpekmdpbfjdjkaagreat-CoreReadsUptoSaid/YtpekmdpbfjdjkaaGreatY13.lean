/- Part 13 of the proof that reading bytes answers as the document does. No condition. -/
import Derived.Test.YtpekmdpbfjdjkaaGreatY12
set_option maxHeartbeats 16000000
set_option maxRecDepth 100000
set_option linter.all false
namespace Go.Proofs.YtpekmdpbfjdjkaaGreat.dO
open Go Go.RowKit ag.ax ag.aV ag.aU aD fr iK
def qO (n:Nat):Bool:=decide ((1:Int)≤(n:Int))&&decide ((n:Int)≤3072)
theorem uR (A:Option Addr) (c n:Nat) (w:World):Calls Tryz.prog 130 #[.slice A n c] w fun e w'=>e = .returned (.bool (qO n))∧w'=w:=by
 unfold qO;by_cases h:(1:Int)≤(n:Int)
 ·rw [decide_eq_true h];go_in;have hb:decide ((1:Int)≤(n:Int))=true:=decide_eq_true h;clear h;go_wp2_with fail;go_ret;exact ⟨by simp,rfl⟩
 ·rw [decide_eq_false h];have hb:decide ((1:Int)≤(n:Int))=false:=decide_eq_false h;clear h;go_in;go_wp2_with fail;go_ret;exact ⟨by simp,rfl⟩
theorem Cm (A:Option Addr) (c n:Nat) (w:World):Calls Tryz.prog 129 #[.slice A n c] w fun e w'=>e = .returned (.bool (!qO n))∧w'=w:=by
 have HS:=aa (uR A c n w);go_in;go_wp2_with fail;refine HS.1.mono ?_;rintro r w2 ⟨rfl,rfl⟩;go_wp2_with fail;go_ret;exact ⟨rfl,rfl⟩
def kI (l:List (List Int)):Bool:=l.any fun x=> !qO x.length
theorem Bh (A:Option Addr) (c:Nat) (l:List (List Int)) (w:World) (hl:Kd.C (Kd.slice 5 (Kd.int .u8)) w A l.length l) (hc:l.length≤c) (hL:l.length≤100000000) :
 Calls Tryz.prog 154 #[.slice A l.length c, .func (.func 129) #[] #[]] w fun e w'=>∃r:Int,e = .returned (.int .i64 r)∧decide (0≤r)=kI l∧w'=w:=by
 have HC:=aa hl;have HS:=aa Cm;generalize hO:kI l=o;have HO:=aa hO;clear hl hO;go_in;go_wp2_with fail;go_loopw [8] (fun v8 wr=>∃(i:Nat),i≤l.length∧v8 = .int .i64 i∧af (kI (l.drop i)=o)∧af (wr=w)) (fun v _=>l.length - (intOf v).toNat)
 case atStart=>exact ⟨0,aI _,rfl,HO,⟨rfl⟩⟩
 case round=>
  obtain ⟨i,hi,rfl,HU,⟨rfl⟩⟩:=hrel;clear HO;by_cases hlt:i<l.length
  ·obtain ⟨ad,c1,e1,_,hK,hc0⟩:=Kd.fw HC.1 [] (i:Int) (by omega) (by omega);obtain ⟨A1,cc,rfl,hcc,hC1⟩:=hK;have hx0:=hc0 0 _ rfl;subst e1;simp only [Int.toNat_natCast,show (Kd.slice 5 (Kd.int .u8)).sz=1 from rfl,Nat.mul_one,Nat.add_zero,List.getD_eq_getElem?_getD,List.getElem?_eq_getElem hlt,Option.getD_some] at hx0;have U:=HU.1;rw [ap hlt,kI,List.any_cons] at U;generalize l[i]=x at hx0 U;have U2:=aa U;clear HU U hC1 hc0 hcc;go_wp2_with fail;refine (HS.1 A1 cc x.length wr).mono ?_;rintro r w2 ⟨rfl,rfl⟩;cases hz:qO x.length with
   | true=>
    have U3:=aa (show kI (l.drop (i+1))=o by have U:=U2.1;rw [hz] at U;exact U);clear U2 hz;go_wp2_with fail;go_roundw
    case rel=>exact ⟨i+1,by omega,by go_num,U3,⟨by trivial⟩⟩
    case measure=>
     show l.length - ((i:Int)+1).toNat<l.length - (i:Int).toNat;omega
   | false=>
    have U3:=aa (show true=o by have U:=U2.1;rw [hz] at U;exact U);clear U2 hz;go_wp2_with fail;go_ret;exact ⟨_,rfl,by rw [←U3.1];exact decide_eq_true (by omega),rfl⟩
  ·have U3:=aa (show false=o by have U:=HU.1;rw [List.drop_eq_nil_of_le (by omega)] at U;exact U);go_wp2_with fail;go_ret;exact ⟨_,rfl,by rw [←U3.1];rfl,rfl⟩
theorem uq (A:Option Addr) (c:Nat) (l:List (List Int)) (w:World) (hl:Kd.C (Kd.slice 5 (Kd.int .u8)) w A l.length l) (hc:l.length≤c) (hL:l.length≤100000000) :
 Calls Tryz.prog 128 #[.slice A l.length c, .func (.func 129) #[] #[]] w fun e w'=>e = .returned (.bool (kI l))∧w'=w:=by
 have HS:=aa (Bh A c l w hl hc hL);clear hl;go_in;go_wp2_with fail;refine HS.1.mono ?_;rintro r w2 ⟨r,rfl,hr,rfl⟩;have HR:=aa hr;clear hr;go_wp2_with fail;go_ret;exact ⟨by rw [←HR.1];rfl,rfl⟩
def mS (sent seq mask:Int):Bool:=(mask != 0)&&decide (IntKind.u64.wrap (sent - seq)<(Lib.bitLen mask.toNat:Int)+1)
theorem bitLenAux_le (f:Nat):∀n,Lib.bitLenAux f n≤f:=by
 induction f with
 | zero=>intro n;exact Nat.le_refl _
 | succ f ih=>
  intro n;rw [Lib.bitLenAux];split
  ·omega
  ·have:=ih (n / 2);omega
theorem xP (b:Nat) (sent seq mask:Int) (W:World) (hs:W.cell? ⟨b,3,none⟩=some (.int .u64 sent)) (h0:0≤mask) (h1:mask≤18446744073709551615) :
 Calls Tryz.prog 127 #[.pointer (some ⟨b,0,none⟩), .int .u64 seq, .int .u64 mask] W fun e w'=>e = .returned (.bool (mS sent seq mask))∧∃n,w'=W.drewN n:=by
 have HL:=aa (fun (W1:World)=>Ci mask W1 h0 h1);have hn:Lib.bitLen mask.toNat≤64:=bitLenAux_le 64 _;generalize hO:mS sent seq mask=o;unfold mS at hO;have HO:=aa hO;clear hO h0 h1;generalize Lib.bitLen mask.toNat=n at HL HO hn;by_cases g:mask=0
 ·have gb:(mask != 0)=false:=by simpa using g
  have HO2:=aa (show o=false by rw [←HO.1,gb];rfl);clear HO HL g;go_in;go_wp2_with fail;go_quiet (fail);go_wp2_with fail;go_ret;exact ⟨by rw [HO2.1];rfl,_,rfl⟩
 ·have gb:(mask != 0)=true:=by simpa using g
  have HO2:=aa (show decide (IntKind.u64.wrap (sent - seq)<(n:Int)+1)=o by rw [←HO.1,gb];rfl);clear HO g;have w1:IntKind.i64.wrap ((n:Int)+1)=(n:Int)+1:=aA _ (by omega);have w2:IntKind.u64.wrap ((n:Int)+1)=(n:Int)+1:=IntWalk.u64_in _ (by omega);go_in;go_wp2_with fail;go_quiet ((go_at_call 153;exact dA ((HL.1 _).mono fun _ _ h=>h)));go_wp2_with fail;go_ret;exact ⟨by rw [←HO2.1];rfl,_,rfl⟩
end Go.Proofs.YtpekmdpbfjdjkaaGreat.dO
namespace Go.Proofs.YtpekmdpbfjdjkaaGreat.dO
open Go.RowKit ag.ax ag.aV ag.aU aD
def fi (W:World) (base B:Nat) (limit:Int) (L:List eW):Prop:=
 ∃v,W.heap[B]? = some (.cells #[.int .i64 limit,v] 176 (0,0))∧Kd.R jo 76 W base (fun _=>True) v L
theorem fi.move {T:Nat} {W W':World} {base B:Nat} {limit:Int} {L:List eW} (h:fi W base B limit L) (hm:jf T W W') (h1:T≠176) (h2:T≠76):fi W' base B limit L:=by
 obtain ⟨v,hB,hR⟩:=h;exact ⟨v,(hm B _ _ hB (Ne.symm h1)).trans hB,yf hR hm (fun q hq=>by
  rcases List.mem_cons.1 hq with rfl|hq
  ·exact Ne.symm h2
  ·exact absurd hq (by simp [jo,Kd.Ah,Kd.pair,Kd.int,Kd.scalar]))⟩
theorem fi.below {W W':World} {base B:Nat} {limit:Int} {L:List eW} (h:fi W base B limit L) (hb:Below W.heap.size W W'):fi W' base B limit L:=
 h.move (T:=0) (jf.below hb) (by decide) (by decide)
theorem fi.reads {W:World} {base B:Nat} {limit:Int} {L:List eW} (h:fi W base B limit L):∃A c,W.heap[B]? = some (.cells #[.int .i64 limit, .slice A L.length c] 176 (0,0))∧L.length≤c∧Kd.C jo W A L.length L:=by
 obtain ⟨v,hB,hR⟩:=h;obtain ⟨A,c,rfl,hl,hC⟩:=Kd.jW hR;exact ⟨A,c,hB,hl,hC⟩
def jD (L:List eW) (i:Nat):Int:=(bg L (i:Int)).f1
theorem xG (L:List eW) (base B b1 b2:Nat) (limit key:Int) (i:Nat) (W:World) (hi:i<L.length) (hT:fi W base B limit L)
 (h1:W.cell? ⟨b1,0,none⟩=some (.pointer (some ⟨B,0,none⟩))) (h2:W.cell? ⟨b2,0,none⟩=some (.int .u64 key)) :
 Calls Tryz.prog 165 #[.int .i64 i, .pointer (some ⟨b1,0,none⟩), .pointer (some ⟨b2,0,none⟩)] W fun e w'=>e = .returned (.bool (decide (key≤jD L i)))∧∃m,w'=W.drewN m:=by
 obtain ⟨A,c,hh,hc,hC⟩:=hT.reads;have hs:W.cell? ⟨B,1,none⟩=some (.slice A L.length c):=by rw [ju hh 1];rfl
 obtain ⟨ad,e1,hx0,hx1,hx2⟩:=gd hC (i:Int) (by omega) (by omega);subst e1;simp only [Int.toNat_natCast] at hx0 hx1 hx2;have p1:(0:Int)≤(i:Int):=by omega
 have q1:(i:Int)<(L.length:Int):=by omega
 clear hh hC hc;go_in;go_wp2_with fail;go_quiet (fail);go_wp2_with fail;go_ret;exact ⟨rfl,_,rfl⟩
theorem ud {P:Program} {f:FuncId} {args:Array Value} {w:World} {R:Ending→World→Prop} (h:∀W,W=w→Calls P f args W R):Calls P f args w R:=h w rfl
def qD (L:List eW):Prop:=∀i j,i≤j→j<L.length→jD L i≤jD L j
def lO (L:List eW) (key:Int) (r:Nat):Prop:=r≤L.length∧(∀k,k<r→jD L k<key)∧(r<L.length→key≤jD L r)
theorem rY (L:List eW) (base B b1 b2:Nat) (limit key:Int) (w:World) (hl:L.length≤4611686018427387903) (hT:fi w base B limit L) (hR:qD L)
 (h1:w.cell? ⟨b1,0,none⟩=some (.pointer (some ⟨B,0,none⟩))) (h2:w.cell? ⟨b2,0,none⟩=some (.int .u64 key)) :
 Calls Tryz.prog 164 #[.int .i64 L.length, .func (.func 165) #[] #[.pointer (some ⟨b1,0,none⟩), .pointer (some ⟨b2,0,none⟩)]] w fun e w'=>
  ∃r:Nat,e = .returned (.int .i64 r)∧lO L key r∧∃m,w'=w.drewN m:=by
 have C1:=aa (fun (i m:Nat) (hi:i<L.length)=>xG L base B b1 b2 limit key i (w.drewN m) hi (hT.below (ai (Below.refl _ _) m)) h1 h2);have HR:=aa hR;clear hT h1 h2 hR;go_in;go_wp2_with fail;go_loopw [5,6] (fun v5 v6 wr=>∃i j:Nat,i≤j∧j≤L.length∧v5 = .int .i64 i∧v6 = .int .i64 j∧af (∀k,k<i→jD L k<key)∧af (j<L.length→key≤jD L j)∧af (∃m,wr=w.drewN m)) (fun v5 v6 _=>(intOf v6).toNat - (intOf v5).toNat)
 case atStart=>exact ⟨0,L.length,aI _,Nat.le_refl _,rfl,rfl,⟨fun k hk=>absurd hk (by omega)⟩,⟨fun hk=>absurd hk (by omega)⟩,⟨0,rfl⟩⟩
 case round=>
  obtain ⟨i,j,hij,hj,rfl,rfl,HI,HJ,⟨m,rfl⟩⟩:=hrel;by_cases hlt:i<j
  ·have hh:((i:Int)+j) / 2=(((i+j) / 2:Nat):Int):=by omega
   have hlo:i≤(i+j) / 2:=by omega
   have hhi:(i+j) / 2<j:=by omega
   have hs0:(0:Int)≤(i:Int)+j:=by omega
   have hs1:(i:Int)+j≤9223372036854775806:=by omega
   go_wp2_with fail;obtain ⟨t,ht0⟩:∃t:Int,(i:Int)+(j:Int)=t:=⟨_,rfl⟩;rw [ht0];rw [ht0] at hs0 hs1;have HSUM:=aa ht0;clear ht0 hh;go_wp2_with fail;obtain ⟨mid,hmid⟩:∃mid:Nat,mid=(i+j) / 2:=⟨_,rfl⟩;have ht:t / 2=(mid:Int):=by have:=HSUM.1;omega
   have hlo':i≤mid:=by omega
   have hhi':mid<j:=by omega
   rw [ht];clear ht hmid hlo hhi hs0 hs1 HSUM;refine (C1.1 mid _ (by omega)).mono ?_;rintro e w' ⟨rfl,m2,rfl⟩;by_cases hk:key≤jD L mid
   ·have hd:decide (key≤jD L mid)=true:=decide_eq_true hk;have HKEY:=aa hk;clear hk;go_wp2_with fail;go_roundw
    case rel=>exact ⟨i,mid,hlo',by omega,rfl,rfl,HI,⟨fun _=>HKEY.1⟩,⟨m+m2,rfl⟩⟩
    case measure=>simp [intOf];omega
   ·have hd:decide (key≤jD L mid)=false:=decide_eq_false hk;have HKEY:=aa hk;clear hk;go_wp2_with fail;go_roundw
    case rel=>exact ⟨mid+1,j,by omega,hj,by go_num,rfl,⟨fun k hk=>by have:=HR.1 k mid (by omega) (by omega);have:=HKEY.1;omega⟩,HJ,⟨m+m2,rfl⟩⟩
    case measure=>simp [intOf];omega
  ·obtain rfl:i=j:=by omega
   go_wp2_with fail;go_ret;exact ⟨_,rfl,⟨hj,HI.1,HJ.1⟩,m,rfl⟩
theorem Bi (L:List eW) (base B:Nat) (limit key:Int) (w:World) (hl:L.length≤4611686018427387903) (hT:fi w base B limit L) (hR:qD L) :
 Calls Tryz.prog 145 #[.pointer (some ⟨B,0,none⟩), .int .u64 key] w fun e w'=>∃r:Nat,e = .returned (.int .i64 r)∧lO L key r∧Below w.heap.size w w':=by
 obtain ⟨A,c,hh,hc,hC⟩:=hT.reads;have hBl:B<w.heap.size:=(Array.getElem?_eq_some_iff.1 hh).1;have hs:w.cell? ⟨B,1,none⟩=some (.slice A L.length c):=ju hh 1;have HT:=aa hT;have HR:=aa hR;clear hh hc hC hT hR;go_in;go_wp2_with fail;refine ud (fun W hW=>?_);obtain ⟨h1,h2,hb⟩:=tH hW;have e1:W.cell? ⟨w.heap.size,0,none⟩=some (.pointer (some ⟨B,0,none⟩)):=ju h1 0;have e2:W.cell? ⟨w.heap.size+1,0,none⟩=some (.int .u64 key):=ju h2 0;have HB:=aa hb;clear hW hb;refine (rY L base B _ _ limit key W hl (HT.1.below HB.1) HR.1 e1 e2).mono ?_;rintro e w' ⟨r,rfl,hF,m,rfl⟩;have HF:=aa hF;clear hF;go_wp2_with fail;go_ret;exact ⟨r,rfl,HF.1,ai HB.1 m⟩
end Go.Proofs.YtpekmdpbfjdjkaaGreat.dO
namespace Go.Proofs.YtpekmdpbfjdjkaaGreat.dO
open Go Go.RowKit ag.ax ag.aV ag.aU aD fr
def dS (l:List eW) (s:eW):List eW:=
 if 0<l.length∧(bg l ((l.length - 1:Nat):Int)).f2=s.f2 then l.set (l.length - 1) ⟨(bg l ((l.length - 1:Nat):Int)).f0,s.f1,(bg l ((l.length - 1:Nat):Int)).f2⟩ else l++[s]
theorem oF (l:List eW) (s:eW):(dS l s).length≤l.length+1:=by
 unfold dS;split
 ·rw [b9];omega
 ·simp
theorem oE {P:Program} {ops:Array Oper} {rest:List Oper} {o:Oper} {a:Act} {Q:Exit→Act→World→Prop} {W0 W:World} {base:Nat} {ok:Nat→Prop} {g n cap:Nat} {xs:List eW} (hN:o.dst=none) (hgd:o.guard=none) (t:TypeId) (p x:Operand) (ho:o.op = .store t p x) (ht:(P.info? t).map (·.size)=some 1)
 (i:Nat) (hi:i<n) (y:Int) (haddr:a.eval p = .pointer (some ⟨g,i*3+1,none⟩)) (hx:a.eval x = .int .u64 y) (HO:Kd.R jo 76 W base ok (.slice (some ⟨g,0,none⟩) n cap) xs) (HB:Below base W0 W)
 (h:∀w1,Kd.R jo 76 w1 base ok (.slice (some ⟨g,0,none⟩) n cap) (xs.set i ⟨(bg xs (i:Int)).f0,y,(bg xs (i:Int)).f2⟩)→Below base W0 w1→W.grownBy w1 (some g)→wpList P ops Q rest a w1):wpList P ops Q (o::rest) a W:=by
 obtain ⟨hn,_,hC⟩:=Kd.bI HO;obtain ⟨ad,e,m0,m1,m2⟩:=gd hC (i:Int) (by omega) (by omega);injection e with e;subst e;rw [Int.toNat_natCast,Addr.add_lit,fg] at m0 m1 m2;refine Kd.xj jo (w0:=W0) base hN hgd t p x ho 76 (i:Int) 1 xs ⟨(bg xs (i:Int)).f0,y,(bg xs (i:Int)).f2⟩ (.int .u64 y) [.int .u64 y] [.int .u64 (bg xs (i:Int)).f0, .int .u64 (bg xs (i:Int)).f1, .int .u8 (bg xs (i:Int)).f2] ok (fun _=>False)
  haddr (by rw [Int.toNat_natCast];rfl) hx rfl ht (by intro q hq;rw [List.mem_singleton] at hq;subst hq;rfl) HO (Int.natCast_nonneg _) (by omega) rfl ?_ (by show 1+1≤3;omega) (nk _ _ _ _) (fun _ h=>h.elim) HB ?_
 ·intro j u hu;rw [Int.toNat_natCast];match j,hu with
  | 0,hu=>cases hu;exact m0
  | 1,hu=>cases hu;exact m1
  | 2,hu=>cases hu;exact m2
 ·rw [Int.toNat_natCast];exact h
def lm (l:List eW) (s:eW):Bool:=decide (0<l.length∧(bg l ((l.length - 1:Nat):Int)).f2=s.f2)
theorem CT (W0 w:World) (M:Nat→Prop) (u:Value) (l:List eW) (s:eW) (hB:Below W0.heap.size W0 w) (hR:Kd.R jo 76 w W0.heap.size M u l) (hL:l.length≤100000000) :
 Calls Tryz.prog 134 #[u, .agg #[.int .u64 s.f0, .int .u64 s.f1, .int .u8 s.f2]] w fun e w'=>∃v,e = .returned v∧Kd.R jo 76 w' W0.heap.size (fun k=>M k∨w.heap.size≤k) v (dS l s)∧Below W0.heap.size W0 w'∧Kept w w' M:=by
 have hu76:=Tryz.underlying76;obtain ⟨A,c,rfl⟩:=Kd.aG hR;have R0:=aa (Kd.cM (Kd.bZ (Kd.bS hR) (fun k hk=>(⟨Or.inl hk.1,Nat.ne_of_lt hk.2.2.1⟩:(M k∨w.heap.size≤k)∧k≠w.heap.size))) (.cells #[.int .u64 s.f0, .int .u64 s.f1, .int .u8 s.f2] 76));have X0:=aa (aJ w (.cells #[.int .u64 s.f0, .int .u64 s.f1, .int .u8 s.f2] 76));have B0:=aa (ah hB (.cells #[.int .u64 s.f0, .int .u64 s.f1, .int .u8 s.f2] 76));have K0:=aa ((Kept.refl w M).alloc (.cells #[.int .u64 s.f0, .int .u64 s.f1, .int .u8 s.f2] 76));clear hB hR;go_in;go_upto_region 2 with (fail);generalize World.alloc w _=w1 at R0 X0 B0 K0 ⊢;go_cut [20] (fun s20 wx=>s20 = .bool (lm l s)∧af (∃n,wx=w1.drewN n))
 case first=>
  have x2:w1.cell? ⟨w.heap.size,2,none⟩=some (.int .u8 s.f2):=cell_of X0.1 2;by_cases h0:0<l.length
  ·obtain ⟨ad,rfl,m0,m1,m2⟩:=gd (Kd.bI R0.1).2.2 ((l.length - 1:Nat):Int) (by omega) (by omega);rw [Int.toNat_natCast] at m2;have hc:lm l s=((bg l ((l.length - 1:Nat):Int)).f2 == s.f2):=by
    unfold lm;by_cases q:(bg l ((l.length - 1:Nat):Int)).f2=s.f2
    ·rw [decide_eq_true ⟨h0,q⟩,gw.2 q]
    ·rw [decide_eq_false (fun h=>q h.2),bi.2 q]
   have HC:=aa hc;clear m0 m1 hc;generalize (bg l ((l.length - 1:Nat):Int)).f2=y at m2 HC;have hp2:decide (0<l.length)=true:=decide_eq_true h0;have hsub:wrap64 ((l.length:Int) - 1)=((l.length - 1:Nat):Int):=by rw [IntWalk.wrap64_in _ (by omega)];omega
   have hsub2:IntKind.i64.wrap ((l.length:Int) - 1)=((l.length - 1:Nat):Int):=by rw [aA _ (by omega)];omega
   have hq:(((l.length - 1:Nat):Nat):Int)<(l.length:Int):=by omega
   have hw:IntKind.i64.wrap ((l.length - 1:Nat):Int)=((l.length - 1:Nat):Int):=aA _ (by omega);have hw2:wrap64 ((l.length - 1:Nat):Int)=((l.length - 1:Nat):Int):=IntWalk.wrap64_in _ (by omega);generalize l.length - 1=m at *;have hm0:(0:Int)≤(m:Int):=by omega
   go_quiet (fail);go_wp2_with fail;go_meet;exact ⟨by rw [HC.1],⟨_,rfl⟩⟩
  ·have hp:decide (0<l.length)=false:=decide_eq_false h0;have HC:=aa (show lm l s=false from decide_eq_false (fun h=>h0 h.1));clear h0;go_quiet (fail);go_wp2_with fail;go_meet;exact ⟨by rw [HC.1],⟨_,rfl⟩⟩
 case rest=>
  obtain ⟨rfl,n,rfl⟩:=hcut;have R1:=aa (Kd.cQ R0.1 n);have X1:=aa (show (w1.drewN n).heap[w.heap.size]? = some (.cells #[.int .u64 s.f0, .int .u64 s.f1, .int .u8 s.f2] 76 (0,0)) from X0.1);have B1:=aa (ai B0.1 n);have K1:=aa (K0.1.drewN n);clear R0 X0 B0 K0;generalize w1.drewN n=w2 at R1 X1 B1 K1 ⊢;have x1:w2.cell? ⟨w.heap.size,1,none⟩=some (.int .u64 s.f1):=cell_of X1.1 1;have SZ:=aa K1.1.1;have LB:=aa (ak X1.1);cases hc:lm l s with
  | true=>
   have hd:=of_decide_eq_true hc;have PT:=aa (show dS l s=l.set (l.length - 1) ⟨(bg l ((l.length - 1:Nat):Int)).f0,s.f1,(bg l ((l.length - 1:Nat):Int)).f2⟩ by unfold dS;rw [if_pos hd]);obtain ⟨inner,_,⟨_,q0⟩|⟨g,cap,cur,he,_,_,_,_⟩⟩:=Kd.kB R1.1
   ·omega
   injection he with he _ hcap;subst he;subst hcap;have hsub:wrap64 ((l.length:Int) - 1)=((l.length - 1:Nat):Int):=by rw [IntWalk.wrap64_in _ (by omega)];omega
   have hq:(((l.length - 1:Nat):Nat):Int)<(l.length:Int):=by omega
   have hq2:l.length - 1<l.length:=by omega
   clear hc hd;go_wp2_with ((with_reducible refine gS 27 25 rfl ?_);refine oE (W0:=W0) (base:=W0.heap.size) rfl rfl 57 (.tmp 27) (.tmp 25) rfl (by kernel_rfl) (l.length - 1) hq2 s.f1 rfl rfl R1.1 B1.1 ?_;intro w3 hR hB hG;have R2:=aa hR;have B2:=aa hB;have K2:=aa (Kept.fx hG K1.1 (fun k e=>(R1.1.1 k e).1));clear hR hB hG);go_ret;exact ⟨_,rfl,by rw [PT.1];exact Kd.bZ R2.1 (fun k hk=>hk.1),B2.1,K2.1⟩
  | false=>
   have hd:=of_decide_eq_false hc;have PT:=aa (show dS l s=l++[s] by unfold dS;rw [if_neg hd]);clear hc hd;go_wp2_with (first|((with_reducible refine az (N:=30) rfl ?_);refine lB X1.1 Tryz.underlying76 ?_)|((with_reducible refine aM (b:= .append) (xs:=#[.tmp 29, .tmp 31]) rfl ?_);at_builtin;refine Kd.cG jo (w0:=W0) W0.heap.size rfl (.tmp 29) (.tmp 31) 23 76 (.agg #[.int .u64 0, .int .u64 0, .int .u8 0]) 24 rfl Tryz.underlying23 nF rfl (by decide) (by omega) (.slice A l.length c) l s [.int .u64 s.f0, .int .u64 s.f1, .int .u8 s.f2] (fun k=>(M k∨w.heap.size≤k)∧k≠w.heap.size) (fun _=>False) rfl rfl (nk _ _ _ _) (fun _ h=>h.elim) (fun k hk=>by have h1:=SZ.1;have h2:=LB.1;exact ⟨Or.inr (by omega),by omega⟩) R1.1 B1.1 B1.1.size (by omega) ?_;intro vz w3 hR hB hG _;have R2:=aa hR;have B2:=aa hB;have K2:=aa (Kept.fx hG K1.1 (fun k e=>(R1.1.1 k e).1));clear hR hB hG));go_ret;exact ⟨_,rfl,by rw [PT.1];exact Kd.bZ R2.1 (fun k hk=>hk.1),B2.1,K2.1⟩
def jn:List eW→List eW→Int→Bool→Option (List eW)
 | [],out,_,full=>if full=true then some out else none
 | s::r,out,next,full=>if full=true then none else if s.f0=next then if s.f0≤s.f1 then if s.f2≤15 then jn r (dS out s) (IntKind.u64.wrap (s.f1+1)) (s.f1 == 18446744073709551615) else none else none else none
theorem yT:(Tryz.prog.info? 76).map (fun i=>(i.zero,i.size,i.bytes))=some (some (.agg #[.int .u64 0, .int .u64 0, .int .u8 0]),3,24):=by kernel_rfl
def yI (w:World) (o:Option (List eW)) (e:Ending) (w':World):Prop:=∃v i er,e = .returned (.tuple #[v, .int .i64 i, .int .i64 er])∧Below w.heap.size w w'∧
 match o with
 | none=>er≠0
 | some out=>er=0∧Kd.R jo 76 w' w.heap.size (fun _=>True) v out
theorem yI.no {w w':World} {o:Option (List eW)} {v:Value} {i er:Int} (ho:o=none) (he:er≠0) (hb:Below w.heap.size w w'):yI w o (.returned (.tuple #[v, .int .i64 i, .int .i64 er])) w':=by
 subst ho;exact ⟨v,i,er,rfl,hb,he⟩
theorem yI.ok {w w':World} {o:Option (List eW)} {v:Value} {i:Int} {out:List eW} (ho:o=some out) (hb:Below w.heap.size w w') (hr:Kd.R jo 76 w' w.heap.size (fun _=>True) v out):yI w o (.returned (.tuple #[v, .int .i64 i, .int .i64 0])) w':=by
 subst ho;exact ⟨v,i,0,rfl,hb,rfl,hr⟩
theorem xm (A:Option Addr) (c:Nat) (l:List eW) (w:World) (hl:Kd.C jo w A l.length l) (hc:l.length≤c) (hL:l.length≤10000000) :
 Calls Tryz.prog 101 #[.slice A l.length c] w (yI w (jn l [] 0 false)):=by
 obtain ⟨i0,hi,hz0,hz1,hz2⟩:=info_parts yT;have HC:=aa hl;generalize hO:jn l [] 0 false=o;have HO:=aa hO;clear hl hO;go_in;go_wp2_with (at_make;refine wpList_make_own _ rfl _ _ 23 rfl w.heap.size 76 i0 (.agg #[.int .u64 0, .int .u64 0, .int .u8 0]) 3 Tryz.underlying23 hi hz0 hz1 .i64 .i64 (l.length:Int) l.length rfl rfl rfl ?b2 ?b3 ?b4 ?_;(case b2=>rw [hz2];omega);(case b3=>unfold maxLen;omega);(case b4=>simp);intro wm hown hgrow;have R0:=aa (show Kd.R jo 76 wm w.heap.size (fun _=>True) (.slice (some ⟨w.heap.size,0,none⟩) 0 l.length) [] from ⟨fun _ _=>trivial,[],hown,dn.none _ _⟩);have B0:=aa ((Below.refl w.heap.size w).grown hgrow (Nat.le_refl _) (fun k e=>by cases e));clear hown hgrow hi hz0 hz1 hz2);go_loopw [5,6,7,15] (fun v5 v6 v7 v15 wr=>∃(i:Nat) (out:List eW) (next:Int) (full:Bool),i≤l.length∧v15 = .int .i64 i∧v6 = .int .u64 next∧v7 = .bool full∧af (out.length≤i)∧af (jn (l.drop i) out next full=o)∧af (Kd.R jo 76 wr w.heap.size (fun _=>True) v5 out)∧af (Below w.heap.size w wr)) (fun _ _ _ v _=>l.length - (intOf v).toNat)
 case atStart=>exact ⟨0,[],0,false,aI _,rfl,rfl,rfl,⟨Nat.le_refl _⟩,HO,R0,B0⟩
 case round=>
  obtain ⟨i,out,next,full,hi,rfl,rfl,rfl,HN,HJ,HR,HB⟩:=hrel;clear R0 B0 HO;by_cases hlt:i<l.length
  ·have hli:l.drop i=bg l (i:Int)::l.drop (i+1):=by
    rw [ap hlt];congr 1;simp [bg,List.getD_eq_getElem?_getD,hlt]
   have J:=HJ.1;rw [hli,jn] at J;obtain ⟨ad,e1,hx0,hx1,hx2⟩:=gd (Kd.aN HC.1 HB.1) (i:Int) (by omega) (by omega);subst e1;simp only [Int.toNat_natCast] at hx0 hx1 hx2;generalize bg l (i:Int)=s at J hx0 hx1 hx2;clear HJ;have HJ:=aa J;clear J hli;have NO:∀{i_ er:Int} {W:World},o=none→er≠0→Below w.heap.size w W→yI w o (.returned (.tuple #[.slice none 0 0, .int .i64 i_, .int .i64 er])) W:=fun h1 h2 h3=>yI.no h1 h2 h3;cases full with
   | true=>
    go_wp2_with fail;go_ret3;exact NO HJ.1.symm (by decide) (ah HB.1 _)
   | false=>
   by_cases g1:s.f0=next
   case neg=>
    have g1b:(s.f0 != next)=true:=by simpa using g1
    have HJ2:=aa (show o=none by have J:=HJ.1;rw [if_neg (by decide),if_neg g1] at J;exact J.symm);clear HJ g1;go_wp2_with fail;go_ret3;exact NO HJ2.1 (by decide) (ah HB.1 _)
   have g1b:(s.f0 != next)=false:=by simpa using g1
   by_cases g2:s.f0≤s.f1
   case neg=>
    have g2b:decide (s.f1<s.f0)=true:=decide_eq_true (by omega);have HJ2:=aa (show o=none by have J:=HJ.1;rw [if_neg (by decide),if_pos g1,if_neg g2] at J;exact J.symm);clear HJ g1 g2;go_wp2_with fail;go_ret3;exact NO HJ2.1 (by decide) (ah HB.1 _)
   have g2b:decide (s.f1<s.f0)=false:=decide_eq_false (by omega);have HJ2:=aa (show (if s.f2≤15 then jn (List.drop (i+1) l) (dS out s) (IntKind.u64.wrap (s.f1+1)) (s.f1 == 18446744073709551615) else none)=o by have J:=HJ.1;rw [if_neg (by decide),if_pos g1,if_pos g2] at J;exact J);have HI:=aa (ix.calls s.f2 _ · (show ix.f s.f2=some (decide (s.f2<16)) from rfl));clear HJ g1 g2;go_wp2_with fail;refine (HI.1 _).mono ?_;rintro r w2 ⟨rfl,⟨n2,rfl⟩⟩;have B2:=aa (ai (ah HB.1 (.cells #[.int .u64 s.f0, .int .u64 s.f1, .int .u8 s.f2] 76)) n2);have BK:=aa (aJ wr (.cells #[.int .u64 s.f0, .int .u64 s.f1, .int .u8 s.f2] 76));have R2:=aa (Kd.bR (Kd.pW HR.1 wr.heap.size (Nat.le_refl _)) (ai (ah (Below.refl _ _) (.cells #[.int .u64 s.f0, .int .u64 s.f1, .int .u8 s.f2] 76)) n2));have SB:=aa HB.1.size;generalize hW2:World.drewN (World.alloc wr _) n2=W2 at B2 R2 ⊢;have BK2:=aa (show W2.heap[wr.heap.size]? = some (.cells #[.int .u64 s.f0, .int .u64 s.f1, .int .u8 s.f2] 76 (0,0)) by rw [←hW2];exact BK.1);clear hW2 BK HR HB hx0 hx1 hx2 HI;generalize wr.heap.size=b at BK2 R2 SB ⊢;have c0:W2.cell? ⟨b,0,none⟩=some (.int .u64 s.f0):=cell_of BK2.1 0;have c1:W2.cell? ⟨b,1,none⟩=some (.int .u64 s.f1):=cell_of BK2.1 1;have c2:W2.cell? ⟨b,2,none⟩=some (.int .u8 s.f2):=cell_of BK2.1 2;by_cases g3:s.f2≤15
   case neg=>
    rw [show decide (s.f2<16)=false from decide_eq_false (by omega)];have HJ3:=aa (show o=none by have J:=HJ2.1;rw [if_neg g3] at J;exact J.symm);clear HJ2 g3;go_wp2_with fail;go_ret3;exact NO HJ3.1 (by decide) B2.1
   rw [show decide (s.f2<16)=true from decide_eq_true (by omega)];have HJ3:=aa (show jn (List.drop (i+1) l) (dS out s) (IntKind.u64.wrap (s.f1+1)) (s.f1 == 18446744073709551615)=o by have J:=HJ2.1;rw [if_pos g3] at J;exact J);have HP:=aa (CT w W2 (fun k=>True∧k≠b) u5 out s B2.1 R2.1 (by have:=HN.1;omega));clear HJ2 g3;go_wp2_with fail;refine HP.1.mono ?_;rintro r w3 ⟨v3,rfl,hR3,hB3,hK3⟩;have R3:=aa (Kd.bZ (ok':=fun _=>True) hR3 (fun _ _=>trivial));have B3:=aa hB3;have BK3:=aa (gu BK2.1 hK3 (fun h=>h.2 rfl));have d1:w3.cell? ⟨b,1,none⟩=some (.int .u64 s.f1):=cell_of BK3.1 1;have NL:=aa (Nat.le_trans (oF out s) (Nat.succ_le_succ HN.1));clear hR3 hB3 hK3 c0 c1 c2 R2 B2 BK2 HP HN;go_wp2_with fail;go_quiet (fail);go_wp2_with fail;go_roundw
   case rel=>exact ⟨i+1,dS out s,_,_,by omega,by go_num,rfl,rfl,NL,HJ3,⟨Kd.cQ R3.1 _⟩,⟨ai B3.1 _⟩⟩
   case measure=>
    show l.length - ((i:Int)+1).toNat<l.length - (i:Int).toNat;omega
  ·have J:=HJ.1;rw [List.drop_eq_nil_of_le (by omega),jn] at J;cases full with
   | true=>
    rw [if_pos rfl] at J;have HJ2:=aa J.symm;clear HJ J;go_wp2_with fail;go_ret3;exact yI.ok HJ2.1 HB.1 HR.1
   | false=>
    rw [if_neg (by decide)] at J;have HJ2:=aa J.symm;clear HJ J;go_wp2_with fail;go_ret3;exact yI.no HJ2.1 (by decide) HB.1
def yW (w:World) (limit:Int) (o:Option (List eW)) (e:Ending) (w':World):Prop:=Below w.heap.size w w'∧
 match o with
 | none=>∃v er,e = .returned (.tuple #[v, .int .i64 er])∧er≠0
 | some out=>∃B,e = .returned (.tuple #[.pointer (some ⟨B,0,none⟩), .int .i64 0])∧fi w' w.heap.size B limit out
theorem yW.no {w w':World} {limit:Int} {o:Option (List eW)} {v:Value} {er:Int} (ho:o=none) (he:er≠0) (hb:Below w.heap.size w w'):yW w limit o (.returned (.tuple #[v, .int .i64 er])) w':=by
 subst ho;exact ⟨hb,v,er,rfl,he⟩
theorem yW.ok {w w':World} {limit:Int} {o:Option (List eW)} {B:Nat} {out:List eW} (ho:o=some out) (hb:Below w.heap.size w w') (ht:fi w' w.heap.size B limit out):yW w limit o (.returned (.tuple #[.pointer (some ⟨B,0,none⟩), .int .i64 0])) w':=by
 subst ho;exact ⟨hb,B,rfl,ht⟩
theorem Cx (A:Option Addr) (c:Nat) (l:List eW) (limit:Int) (w:World) (hl:Kd.C jo w A l.length l) (hc:l.length≤c) (hL:l.length≤10000000) (h1:1≤limit) (h2:limit≤8192) :
 Calls Tryz.prog 56 #[.slice A l.length c, .int .i64 limit] w (yW w limit ((jn l [] 0 false).bind fun out=>if (out.length:Int)≤limit then some out else none)):=by
 have hu:=Tryz.underlying176;have HG:=aa (fS.calls limit true · (by unfold fS.f;rw [if_pos (by omega)];simp;omega));have HJ:=aa (fun (n:Nat)=>xm A c l (w.drewN n) (Kd.dZ hl n) hc hL);generalize jn l [] 0 false=o at HJ;generalize hO:Option.bind _ _=oo;have HO:=aa hO;clear hl hO;go_in;go_wp2_with fail;refine (HG.1 _).mono ?_;rintro r w1 ⟨rfl,⟨n1,rfl⟩⟩;go_wp2_with fail;refine (HJ.1 n1).mono ?_;rintro r w2 ⟨v,i,er,rfl,hB,hr⟩;have B2:=aa ((ai (Below.refl w.heap.size w) n1).trans hB);clear HJ HG hB;cases o with
 | none=>
  have HO2:=aa (show oo=none from HO.1.symm);have her:(er != 0)=true:=by simpa using hr
  have HE:=aa hr;clear hr HO;go_wp2_with fail;go_ret2;exact yW.no HO2.1 HE.1 B2.1
 | some out=>
  obtain ⟨rfl,hR⟩:=hr;obtain ⟨A3,c3,rfl⟩:=Kd.aG hR;have HR:=aa hR;have HO1:=HO.1;rw [aj] at HO1;clear hR HO;by_cases g:(out.length:Int)≤limit
  case neg=>
   have gb:decide (limit<(out.length:Int))=true:=decide_eq_true (by omega);rw [if_neg g] at HO1;have HO2:=aa HO1.symm;clear g HO1;go_wp2_with fail;go_ret2;exact yW.no HO2.1 (by decide) B2.1
  have gb:decide (limit<(out.length:Int))=false:=decide_eq_false (by omega);rw [if_pos g] at HO1;have HO2:=aa HO1.symm;clear g HO1;go_wp2_with fail;go_ret2;exact yW.ok HO2.1 (ah B2.1 _) ⟨_,aJ w2 _,Kd.cM HR.1 _⟩
theorem Dg (base B:Nat) (limit:Int) (L:List eW) (w:World) (hT:fi w base B limit L):Calls Tryz.prog 67 #[.pointer (some ⟨B,0,none⟩)] w fun e w'=>e = .returned (.int .i64 L.length)∧w'=w:=by
 obtain ⟨A,c,hh,hc,hC⟩:=hT.reads;have hs:w.cell? ⟨B,1,none⟩=some (.slice A L.length c):=ju hh 1;clear hh hc hC hT;go_in;go_wp2_with fail;go_ret;exact ⟨rfl,rfl⟩
end Go.Proofs.YtpekmdpbfjdjkaaGreat.dO
namespace Go.Proofs.YtpekmdpbfjdjkaaGreat.dO
open Go Go.RowKit ag.ax ag.aV ag.aU aD fr iK
theorem y9 {W:World} {a:Addr} {v:Value} (h:W.cell? a=some v):∀o:Obj,(W.alloc o).cell? a=some v:=fun o=>an (ah (Below.refl _ _) o) h
def yQ (A:Option Addr) (L:List eW) (B c:Nat) (W:World):Prop:=W.cell? ⟨B,1,none⟩=some (.slice A L.length c)∧Kd.C jo W A L.length L
theorem vO (base B:Nat) (limit key:Int) (L:List eW) (w:World) (hT:fi w base B limit L) (hR:qD L) (hl:L.length≤100000000) (h0:0<L.length) (hlast:key≤jD L (L.length - 1)) :
 Calls Tryz.prog 116 #[.pointer (some ⟨B,0,none⟩), .int .u64 key] w fun e w'=>∃r:Nat,r<L.length∧lO L key r∧e = .returned (.agg #[.int .u64 (bg L (r:Int)).f0, .int .u64 (bg L (r:Int)).f1, .int .u8 (bg L (r:Int)).f2])∧Below w.heap.size w w':=by
 obtain ⟨A,c,hh,hc,hC⟩:=hT.reads;have hs:w.cell? ⟨B,1,none⟩=some (.slice A L.length c):=ju hh 1;have HB:=aa (Array.getElem?_eq_some_iff.1 hh).1;have AT:=aa (fun (W1:World) (hb:Below w.heap.size w W1)=>Bi L base B limit key W1 (by omega) (hT.below hb) hR);have HS:=aa (show yQ A L B c w from ⟨hs,hC⟩);have HL:=aa hlast;have hs1:=y9 hs;have hz:((L.length:Int) == 0)=false:=by rw [bi];omega
 have hLi:(L.length:Int)≤100000000:=by omega
 clear hC hT hR hlast hh;go_in;go_wp2_with fail;have BW:=aa (ah (Below.refl _ w) (.cells #[.int .u64 0, .int .u64 0, .int .u8 0] 76));have BN:=aa (aJ w (.cells #[.int .u64 0, .int .u64 0, .int .u8 0] 76));have HS1:=aa (show yQ A L B c (w.alloc (.cells #[.int .u64 0, .int .u64 0, .int .u8 0] 76)) from ⟨hs1 _,Kd.aN HS.1.2 BW.1⟩);refine hY (yQ A L B c) 9 [(0,0),(1,0),(2,0),(3,1),(4,0),(5,0),(6,2),(7,0),(8,1)] (by kernel_rfl) (by kernel_rfl) (fun _ _ _ _ _ h=>h) HS1.1 ?_;iterate 3 (refine eF ?_;simp only [cS,Act.put])
 iterate 1 (refine aQ (v:=?_) rfl rfl ?_ ?_;rotate_left 1;(focus (intro w hSw;replace hSw:=hSw.1;go_simp;try (with_reducible rfl)));simp only [cS,Act.put])
 iterate 2 (refine eF ?_;simp only [cS,Act.put])
 refine aT rfl ?_;go_wp2_with fail;refine (AT.1 _ BW.1.drew).mono ?_;rintro e w2 ⟨r,rfl,hF,hB⟩;have hr:r<L.length:=by
  rcases dg r L.length with h|h
  ·exact h
  ·have h2:=hF.2.1 (L.length - 1) (by omega);have h3:=HL.1;omega
 obtain ⟨ad,rfl⟩:∃ad,A=some ad:=by
  obtain ⟨ad,e1,_⟩:=gd HS.1.2 (r:Int) (by omega) (by omega);exact ⟨ad,e1⟩
 have HF:=aa hF;have B2:=aa ((BW.1.drew).trans (hB.mono BW.1.size));have HS2:=aa (show yQ (some ad) L B c w2 from ⟨an hB HS1.1.1,Kd.aN HS1.1.2 ((Below.refl _ _).drew.trans hB)⟩);have BN2:=aa ((hB.block w.heap.size (by have:=ak BN.1;exact this)).trans BN.1);clear hF hB hs1 HS HS1 BN BW;go_wp2_with fail;refine bB.mk HS2.1 (fun hSw=>?_);clear hSw;have hri:(r:Int)<(L.length:Int):=by omega
 iterate 1 (refine eF ?_;simp only [cS,Act.put])
 (refine aQ (v:= .agg #[.int .u64 (bg L (r:Int)).f0, .int .u64 (bg L (r:Int)).f1, .int .u8 (bg L (r:Int)).f2]) rfl rfl ?_ ?_;(focus (intro w hSw;obtain ⟨ad',e1,q0,q1,q2⟩:=gd hSw.2 (r:Int) (by omega) (by omega);injection e1 with e1;subst e1;simp only [Int.toNat_natCast] at q0 q1 q2;go_simp;try (with_reducible rfl)));simp only [cS,Act.put]);refine bC ?_;simp only [aC,List.drop_zero];have hu:=Tryz.underlying76;go_wp2_with ((with_reducible refine gS 4 24 rfl ?_);refine dl (t:=76) (p:= .tmp 4) (x:= .tmp 24) (u:= .agg #[.int .u64 (bg L (r:Int)).f0, .int .u64 (bg L (r:Int)).f1, .int .u8 (bg L (r:Int)).f2]) rfl rfl rfl [.int .u64 (bg L (r:Int)).f0, .int .u64 (bg L (r:Int)).f1, .int .u8 (bg L (r:Int)).f2] ?addr ?ex BN2.1 ?eu ?ht ?hf ?h1 ?_;(case addr=>rfl);(case ex=>rfl);(case eu=>rfl);(case ht=>kernel_rfl);(case hf=>rfl);(case h1=>simp [Value.oneCell']);intro w3 hW hG;have W3:=aa hW;have G3:=aa hG;clear hW hG);refine gO (results_cell_row rfl _ _ w.heap.size _ _ _ _ rfl W3.1 hu rfl (by kernel_rfl)) rfl ?_;exact ⟨r,hr,HF.1,rfl,B2.1.grown G3.1 B2.1.size (fun k e=>by injection e with e;omega)⟩
theorem sU (base B:Nat) (limit key:Int) (L:List eW) (w:World) (hT:fi w base B limit L) (hR:qD L) (hl:L.length≤100000000) (h0:0<L.length) (hlast:key≤jD L (L.length - 1)) :
 Calls Tryz.prog 68 #[.pointer (some ⟨B,0,none⟩), .int .u64 key] w fun e w'=>∃r:Nat,r<L.length∧lO L key r∧e = .returned (.int .u8 (bg L (r:Int)).f2)∧Below w.heap.size w w':=by
 have HS:=aa (vO base B limit key L w hT hR hl h0 hlast);have hf:∀(x y z:Value) (W:World),(Instr.field 76 (.agg #[x,y,z]) 2).run Tryz.prog W = .ok z W:=fun _ _ _ _=>by kernel_rfl
 clear hT hR hlast;go_in;go_wp2_with fail;refine HS.1.mono ?_;rintro e w2 ⟨r,hr,hF,rfl,hB⟩;have F2:=aa hF;have B2:=aa hB;clear hF hB HS;go_wp2_with fail;go_ret;exact ⟨r,hr,F2.1,rfl,B2.1⟩
def lf (x:gX) (q:Int):Bool:=if x.f0<x.f1 then false else if q<(x.f2.length:Int) then false else if (x.f2.length:Int)≠IntKind.u64.wrap (x.f0 - x.f1) then false else !mS x.f0 x.f1 x.f3&& !kI x.f2
def ew (x:gX) (A2 A5:Option Addr) (c2 c5:Nat):Array Value:=#[.int .u64 x.f0, .int .u64 x.f1, .slice A2 x.f2.length c2, .int .u64 x.f3, .int .u64 x.f4, .slice A5 x.f5.length c5]
def mw (h q win s a:Int) (v:Value) (m:Int):Array Value:=#[.int .u8 h, .int .i64 q, .int .i64 win, .int .u64 s, .int .u64 a,v, .int .u64 m, .int .u8 h, .int .u64 win, .int .u64 0, .slice none 0 0]
def r9 (W:World) (b:Nat) (h q win:Int) (o:Bool) (e:Ending) (w':World):Prop:=e = .returned (.bool o)∧Below b W w'∧Kept W w' (fun k=>k=b)∧∃s a v m,w'.heap[b]? = some (.cells (mw h q win s a v m) 168 (0,0))
theorem r9.same {W w':World} {b:Nat} {h q win:Int} {o:Bool} (hb:W.heap[b]? = some (.cells (fU h q win) 168 (0,0))) (hB:Below W.heap.size W w') (ho:false=o):r9 W b h q win o (.returned (.bool false)) w':=by
 subst ho;exact ⟨rfl,hB.mono (eJ (ak hb)),Kept.cH hB _,0,0, .slice none 0 0,0,(hB.block b (ak hb)).trans hb⟩
structure LS (W w:World) (b bb:Nat) (cs bx:Array Value) (v:Value) (base:Nat) (l:List (List Int)):Prop where
 hb:w.heap[b]? = some (.cells cs 168 (0,0))
 bx:w.heap[bb]? = some (.cells bx 68 (0,0))
 row:Kd.R (Kd.slice 5 (Kd.int .u8)) 32 w base (fun k=>k≠b) v l
 bel:Below b W w
 kept:Kept W w (fun k=>k=b)
theorem LS.store {W w w':World} {b bb:Nat} {cs cs' bx:Array Value} {v:Value} {base:Nat} {l:List (List Int)} (h:LS W w b bb cs bx v base l) (nb:b≠bb) (hW:w'.heap[b]? = some (.cells cs' 168 (0,0))) (hG:w.grownBy w' (some b)):LS W w' b bb cs' bx v base l:=
 ⟨hW,(hG.block bb (ak h.bx) (fun e=>nb (by injection e with e;exact e.symm))).trans h.bx,Kd.eL h.row hG (fun k hk e=>hk (by injection e)),h.bel.grown hG (eJ (ak h.hb)) (fun k e=>by injection e with e;omega),h.kept.fx hG (fun k e=> .inl (by injection e with e;exact e.symm))⟩
theorem Dr (b:Nat) (h q win:Int) (x:gX) (A2 A5:Option Addr) (c2 c5:Nat) (W:World) (hb:W.heap[b]? = some (.cells (fU h q win) 168 (0,0)))
 (h2:Kd.C (Kd.slice 5 (Kd.int .u8)) W A2 x.f2.length x.f2) (l2:x.f2.length≤c2) (hL:x.f2.length≤100000000) (hB:Bl x.f2) (m0:0≤x.f3) (m1:x.f3≤18446744073709551615) :
 Calls Tryz.prog 95 #[.pointer (some ⟨b,0,none⟩), .agg (ew x A2 A5 c2 c5)] W (r9 W b h q win (lf x q)):=by
 have HB:=aa hb;have k1:W.cell? ⟨b,1,none⟩=some (.int .i64 q):=cell_of hb 1;have k1a:=y9 k1;have H2:=aa h2;have HL:=aa hB;have M0:=aa m0;have M1:=aa m1;generalize hO:lf x q=o;unfold lf at hO;have HO:=aa hO;clear hb h2 hB m0 m1 hO;have hwl:IntKind.u64.wrap (x.f2.length:Int)=(x.f2.length:Int):=IntWalk.u64_in _ (by omega);unfold ew;go_in;go_wp2_with fail;have BX:=aa (aJ W (.cells #[.int .u64 x.f0, .int .u64 x.f1, .slice A2 x.f2.length c2, .int .u64 x.f3, .int .u64 x.f4, .slice A5 x.f5.length c5] 68));have B1:=aa (ah (Below.refl _ W) (.cells #[.int .u64 x.f0, .int .u64 x.f1, .slice A2 x.f2.length c2, .int .u64 x.f3, .int .u64 x.f4, .slice A5 x.f5.length c5] 68));have LB:=aa (ak HB.1);generalize World.alloc W _=W1 at BX B1 ⊢;generalize hbb:W.heap.size=bb at BX ⊢;have NB:=aa (show b≠bb by have:=LB.1;omega);have HB1:=aa ((B1.1.block b LB.1).trans HB.1);have k1b:W1.cell? ⟨b,1,none⟩=some (.int .i64 q):=cell_of HB1.1 1;have e0:W1.cell? ⟨bb,0,none⟩=some (.int .u64 x.f0):=cell_of BX.1 0;have e1:W1.cell? ⟨bb,1,none⟩=some (.int .u64 x.f1):=cell_of BX.1 1;have e2:W1.cell? ⟨bb,2,none⟩=some (.slice A2 x.f2.length c2):=cell_of BX.1 2;have e3:W1.cell? ⟨bb,3,none⟩=some (.int .u64 x.f3):=cell_of BX.1 3;clear k1 k1a hbb;by_cases g1:x.f0<x.f1
 ·have g1b:decide (x.f0<x.f1)=true:=decide_eq_true g1;have HO2:=aa (show false=o by rw [←HO.1,if_pos g1]);clear HO g1;go_quiet (fail);go_wp2_with fail;go_ret;exact r9.same HB.1 (ai B1.1 _) HO2.1
 have g1b:decide (x.f0<x.f1)=false:=decide_eq_false g1;by_cases g2:q<(x.f2.length:Int)
 ·have g2b:decide (q<(x.f2.length:Int))=true:=decide_eq_true g2;have HO2:=aa (show false=o by rw [←HO.1,if_neg g1,if_pos g2]);clear HO g1 g2;go_quiet (fail);go_wp2_with fail;go_ret;exact r9.same HB.1 (ai B1.1 _) HO2.1
 have g2b:decide (q<(x.f2.length:Int))=false:=decide_eq_false g2;obtain ⟨n,hn⟩:∃n:Int,(x.f2.length:Int)=n:=⟨_,rfl⟩;obtain ⟨d,hd⟩:∃d:Int,IntKind.u64.wrap (x.f0 - x.f1)=d:=⟨_,rfl⟩;by_cases g3:(x.f2.length:Int)≠IntKind.u64.wrap (x.f0 - x.f1)
 ·have g3b:((x.f2.length:Int) != IntKind.u64.wrap (x.f0 - x.f1))=true:=by simpa using g3
  have HO2:=aa (show false=o by rw [←HO.1,if_neg g1,if_neg g2,if_pos g3]);clear HO g1 g2 g3 hn hd;go_quiet (fail);go_wp2_with fail;go_ret;exact r9.same HB.1 (ai B1.1 _) HO2.1
 have g3b:((x.f2.length:Int) != IntKind.u64.wrap (x.f0 - x.f1))=false:=by simpa using g3
 have HO2:=aa (show (!mS x.f0 x.f1 x.f3&& !kI x.f2)=o by rw [←HO.1,if_neg g1,if_neg g2,if_neg g3]);clear HO g1 g2 g3 hn hd;go_quiet (fail);clear g1b g2b g3b hwl e0 e1 e2 e3 k1b;go_wp2_with fail;have BX1:=aa (show (W1.drewN nq).heap[bb]? = some (.cells #[.int .u64 x.f0, .int .u64 x.f1, .slice A2 x.f2.length c2, .int .u64 x.f3, .int .u64 x.f4, .slice A5 x.f5.length c5] 68 (0,0)) from BX.1);have HB2:=aa (show (W1.drewN nq).heap[b]? = some (.cells (fU h q win) 168 (0,0)) from HB1.1);have B2:=aa (ai B1.1 nq);have CK:=aa (xb A2 c2 x.f2 (W1.drewN nq).drew (Kd.aN H2.1 B2.1.drew) l2 hL HL.1);generalize World.drewN W1 nq=w1 at BX1 HB2 B2 CK ⊢;clear BX HB1 B1;refine hY (fun W'=>W'.heap[bb]? = some (.cells #[.int .u64 x.f0, .int .u64 x.f1, .slice A2 x.f2.length c2, .int .u64 x.f3, .int .u64 x.f4, .slice A5 x.f5.length c5] 68 (0,0))) 19 [(0,0),(1,0),(2,0),(3,0),(4,0),(5,1),(6,0),(7,1),(8,0),(9,1),(10,0),(11,2),(12,2),(13,0),(14,0),(15,2),(16,0),(17,0),(18,2)] (by kernel_rfl) (by kernel_rfl) (fun _ _ _ _ _ h=>h) BX1.1 ?_;iterate 5 (refine eF ?_;simp only [cS,Act.put])
 iterate 1 (refine aQ (v:=?_) rfl rfl ?_ ?_;rotate_left 1;(focus (intro w hSw;have hq0:w.cell? ⟨bb,0,none⟩=some (.int .u64 x.f0):=cell_of hSw 0;have hq1:w.cell? ⟨bb,1,none⟩=some (.int .u64 x.f1):=cell_of hSw 1;have hq2:w.cell? ⟨bb,2,none⟩=some (.slice A2 x.f2.length c2):=cell_of hSw 2;have hq3:w.cell? ⟨bb,3,none⟩=some (.int .u64 x.f3):=cell_of hSw 3;clear hSw;go_simp;try (with_reducible rfl)));simp only [cS,Act.put])
 iterate 1 (refine eF ?_;simp only [cS,Act.put])
 iterate 1 (refine aQ (v:=?_) rfl rfl ?_ ?_;rotate_left 1;(focus (intro w hSw;have hq0:w.cell? ⟨bb,0,none⟩=some (.int .u64 x.f0):=cell_of hSw 0;have hq1:w.cell? ⟨bb,1,none⟩=some (.int .u64 x.f1):=cell_of hSw 1;have hq2:w.cell? ⟨bb,2,none⟩=some (.slice A2 x.f2.length c2):=cell_of hSw 2;have hq3:w.cell? ⟨bb,3,none⟩=some (.int .u64 x.f3):=cell_of hSw 3;clear hSw;go_simp;try (with_reducible rfl)));simp only [cS,Act.put])
 iterate 1 (refine eF ?_;simp only [cS,Act.put])
 iterate 1 (refine aQ (v:=?_) rfl rfl ?_ ?_;rotate_left 1;(focus (intro w hSw;have hq0:w.cell? ⟨bb,0,none⟩=some (.int .u64 x.f0):=cell_of hSw 0;have hq1:w.cell? ⟨bb,1,none⟩=some (.int .u64 x.f1):=cell_of hSw 1;have hq2:w.cell? ⟨bb,2,none⟩=some (.slice A2 x.f2.length c2):=cell_of hSw 2;have hq3:w.cell? ⟨bb,3,none⟩=some (.int .u64 x.f3):=cell_of hSw 3;clear hSw;go_simp;try (with_reducible rfl)));simp only [cS,Act.put])
 iterate 1 (refine eF ?_;simp only [cS,Act.put])
 refine aT rfl ?_;have e2:w1.drew.cell? ⟨bb,2,none⟩=some (.slice A2 x.f2.length c2):=cell_of BX1.1 2;go_wp2_with fail;refine bB.mk BX1.1 (fun hSw=>?_);clear hSw e2;refine aT rfl ?_;go_wp2_with fail;refine CK.1.mono ?_;rintro e w2 ⟨v2,rfl,hR2,hB2⟩;obtain ⟨Av,cv,rfl⟩:=Kd.aG hR2;have LW:=aa (show b<w1.heap.size from Nat.lt_of_lt_of_le LB.1 B2.1.size);have R3:=aa (Kd.bZ (Kd.bS hR2) (ok':=fun k=>k≠b) (fun k hk e=>by have h1:=hk.2.1;have h2:=LW.1;have h3:w1.heap.size≤k:=h1;omega));have BX3:=aa ((hB2.block bb (ak BX1.1)).trans BX1.1);have HB3:=aa ((hB2.block b LW.1).trans HB2.1);have B3:=aa (B2.1.drew.trans (hB2.mono B2.1.size));clear hR2 hB2 CK BX1 HB2 B2;go_wp2_with fail;refine bB.mk BX3.1 (fun hSw=>?_);clear hSw;iterate 2 (refine eF ?_;simp only [cS,Act.put])
 have LS0:=aa (show LS W w2 b bb (fU h q win) #[.int .u64 x.f0, .int .u64 x.f1, .slice A2 x.f2.length c2, .int .u64 x.f3, .int .u64 x.f4, .slice A5 x.f5.length c5] (.slice Av x.f2.length cv) w1.drew.heap.size x.f2 from ⟨HB3.1,BX3.1,R3.1,B3.1.mono (eJ LB.1),Kept.cH B3.1 _⟩);clear R3 BX3 HB3 B3;refine aT rfl ?_;refine jk (j:=3) (u:= .int .u64 x.f0) (cur':=mw h q win x.f0 0 (.slice none 0 0) 0) rfl rfl (t:=57) (p:= .tmp 46) (x:= .tmp 37) rfl ?addr ?ex LS0.1.hb ?hj rfl rfl ?ht rfl ?_
 case addr=>rfl
 case ex=>rfl
 case hj=>exact (by decide:3<11)
 case ht=>kernel_rfl
 intro s1 hW hG;have S1:=aa (LS0.1.store NB.1 hW hG);clear hW hG;refine wpList_nil ?_;refine bB.mk S1.1.bx (fun hSw=>?_);clear hSw;iterate 2 (refine eF ?_;simp only [cS,Act.put])
 refine aT rfl ?_;refine jk (j:=4) (u:= .int .u64 x.f1) (cur':=mw h q win x.f0 x.f1 (.slice none 0 0) 0) rfl rfl (t:=57) (p:= .tmp 48) (x:= .tmp 39) rfl ?addr ?ex S1.1.hb ?hj rfl rfl ?ht rfl ?_
 case addr=>rfl
 case ex=>rfl
 case hj=>exact (by decide:4<11)
 case ht=>kernel_rfl
 intro s2 hW hG;have S2:=aa (S1.1.store NB.1 hW hG);clear hW hG;refine wpList_nil ?_;refine bB.mk S2.1.bx (fun hSw=>?_);clear hSw;refine bC ?_;simp only [aC,List.drop_zero];go_wp2_with (first
  | ((with_reducible refine gS 50 41 rfl ?_);refine sC 6 (.int .u64 x.f3) (mw h q win x.f0 x.f1 (.slice none 0 0) x.f3) S2.1.hb ?_;intro s3 hW hG;have S3:=aa (S2.1.store NB.1 hW.1 hG.1))
  | ((with_reducible refine gS 52 44 rfl ?_);refine sC 5 (.slice Av x.f2.length cv) (mw h q win x.f0 x.f1 (.slice Av x.f2.length cv) x.f3) S3.1.hb ?_;intro s4 hW hG;have S4:=aa (S3.1.store NB.1 hW.1 hG.1);have f1:s4.cell? ⟨bb,1,none⟩=some (.int .u64 x.f1):=cell_of S4.1.bx 1;have f3:s4.cell? ⟨bb,3,none⟩=some (.int .u64 x.f3):=cell_of S4.1.bx 3))
 have BY:=aa (xP b x.f0 x.f1 x.f3 s4 (cell_of S4.1.hb 3) M0.1 M1.1);clear LS0 S1 S2 S3 f1 f3;refine BY.1.mono ?_;rintro e s5 ⟨rfl,m5,rfl⟩;have f5:(s4.drewN m5).cell? ⟨b,5,none⟩=some (.slice Av x.f2.length cv):=cell_of S4.1.hb 5;obtain ⟨_,_,ev,hcv,hCv⟩:=Kd.jW S4.1.row;injection ev with ev1 ev2 ev3;subst ev1;subst ev3;have CN:=aa (uq Av cv x.f2 (s4.drewN m5) (Kd.dZ hCv m5) hcv hL);have FIN:=aa (show ∀o':Bool,o'=o→r9 W b h q win o (.returned (.bool o')) (s4.drewN m5) from fun o' e=>by subst e;exact ⟨rfl,ai S4.1.bel m5,S4.1.kept.drewN m5,_,_,_,_,S4.1.hb⟩);clear BY hcv hCv S4;cases hbd:mS x.f0 x.f1 x.f3 with
 | true=>
  have HO3:=aa (show false=o by have O:=HO2.1;rw [hbd] at O;exact O);clear hbd HO2;go_wp2_with fail;go_ret;exact FIN.1 _ HO3.1
 | false=>
  have HO3:=aa (show (!kI x.f2)=o by have O:=HO2.1;rw [hbd] at O;exact O);clear hbd HO2;go_wp2_with fail;refine CN.1.mono ?_;rintro e s6 ⟨rfl,rfl⟩;go_wp2_with fail;go_ret;exact FIN.1 _ HO3.1
def kp (del reach:Int):List jE→Int→Bool
 | [],_=>true
 | f::r,last=>if f.f0≤del then false else if IntKind.u64.wrap (f.f0 - del)≤last then false else if reach<IntKind.u64.wrap (f.f0 - del) then false else if qO f.f1.length=true then kp del reach r (IntKind.u64.wrap (f.f0 - del)) else false
def Dt (W:World) (b:Nat) (o:Bool) (e:Ending) (w':World):Prop:=e = .returned (.bool o)∧Below b W w'∧Kept W w' (fun k=>k=b)
theorem sG (b:Nat) (h q win s a:Int) (v:Value) (m:Int) (x:gX) (A2 A5:Option Addr) (c2 c5:Nat) (W:World) (hb:W.heap[b]? = some (.cells (mw h q win s a v m) 168 (0,0)))
 (h5:Kd.C jC W A5 x.f5.length x.f5) (l5:x.f5.length≤c5) (hL:x.f5.length≤100000000) (hF:Fl x.f5) :
 Calls Tryz.prog 96 #[.pointer (some ⟨b,7,none⟩), .agg (ew x A2 A5 c2 c5)] W (Dt W b (kp x.f4 win x.f5 1)):=by
 have hu99:=Tryz.underlying99;have HB:=aa hb;have H5:=aa h5;have HF:=aa hF;have SZ:=aa uR;generalize hO:kp x.f4 win x.f5 1=o;have HO:=aa hO;clear hb h5 hF hO;unfold ew;go_in;go_wp2_with fail;have BX:=aa (aJ W (.cells #[.int .u64 x.f0, .int .u64 x.f1, .slice A2 x.f2.length c2, .int .u64 x.f3, .int .u64 x.f4, .slice A5 x.f5.length c5] 68));have B1:=aa (ah (Below.refl _ W) (.cells #[.int .u64 x.f0, .int .u64 x.f1, .slice A2 x.f2.length c2, .int .u64 x.f3, .int .u64 x.f4, .slice A5 x.f5.length c5] 68));have LB:=aa (ak HB.1);have e5:(W.alloc (.cells #[.int .u64 x.f0, .int .u64 x.f1, .slice A2 x.f2.length c2, .int .u64 x.f3, .int .u64 x.f4, .slice A5 x.f5.length c5] 68)).cell? ⟨W.heap.size,5,none⟩=some (.slice A5 x.f5.length c5):=cell_of BX.1 5;generalize World.alloc W _=W1 at BX B1 e5 ⊢;generalize hbb:W.heap.size=bb at BX e5 ⊢;have NB:=aa (show b≠bb by have:=LB.1;omega);have BL:=aa (show bb<W1.heap.size from ak BX.1);clear hbb;go_wp2_with fail;go_loopw [5,11] (fun v5 v11 wr=>∃(i:Nat) (last:Int),i≤x.f5.length∧v5 = .int .u64 last∧v11 = .int .i64 i∧af (kp x.f4 win (x.f5.drop i) last=o)∧af (Below W1.heap.size W1 wr)) (fun _ v _=>x.f5.length - (intOf v).toNat)
 case atStart=>exact ⟨0,1,aI _,rfl,rfl,HO,⟨Below.refl _ _⟩⟩
 case round=>
  obtain ⟨i,last,hi,rfl,rfl,HK,HW⟩:=hrel;clear HO;have HWW:=aa (B1.1.trans (HW.1.mono B1.1.size));by_cases hlt:i<x.f5.length
  ·obtain ⟨ad,c1,e1,_,hK,hc0⟩:=Kd.fw (Kd.aN H5.1 HWW.1) sI (i:Int) (by omega) (by omega);obtain ⟨A1,cc,rfl,hcc,hC1⟩:=gn hK;have hx0:=hc0 0 _ rfl;have hx1:=hc0 1 _ rfl;subst e1;simp only [Int.toNat_natCast,show jC.sz=2 from rfl,Nat.add_zero,List.getD_eq_getElem?_getD,List.getElem?_eq_getElem hlt,Option.getD_some] at hx0 hx1 hcc hC1;rw [dw _ _ 1 (by omega)] at hx1;have J:=HK.1;rw [ap hlt,kp] at J;generalize x.f5[i]=f at hx0 hx1 hcc hC1 J;have HJ:=aa J;clear hC1 hc0 hK J HK hcc;go_wp2_with fail;have BN:=aa (aJ wr (.cells #[.int .u64 f.f0, .slice A1 f.f1.length cc] 99));have W2B:=aa (HW.1.trans ((ah (Below.refl _ wr) (.cells #[.int .u64 f.f0, .slice A1 f.f1.length cc] 99)).mono HW.1.size));have BX2:=aa ((W2B.1.block bb BL.1).trans BX.1);clear HW HWW hx0 hx1;generalize World.alloc wr _=w2 at BN W2B BX2 ⊢;generalize wr.heap.size=fb at BN ⊢;have q0:w2.cell? ⟨fb,0,none⟩=some (.int .u64 f.f0):=cell_of BN.1 0;have q1:w2.cell? ⟨fb,1,none⟩=some (.slice A1 f.f1.length cc):=cell_of BN.1 1;have q4:w2.cell? ⟨bb,4,none⟩=some (.int .u64 x.f4):=cell_of BX2.1 4;have HB2:=aa ((W2B.1.block b (Nat.lt_of_lt_of_le LB.1 B1.1.size)).trans ((B1.1.block b LB.1).trans HB.1));have q8:w2.cell? ⟨b,8,none⟩=some (.int .u64 win):=cell_of HB2.1 8;have NO:=aa (show ∀n,false=o→Dt W b o (.returned (.bool false)) (w2.drewN n) from fun n e=>by subst e;exact ⟨rfl,ai ((B1.1.mono (eJ LB.1)).trans (W2B.1.mono (eJ (Nat.lt_of_lt_of_le LB.1 B1.1.size)))) n,(Kept.cH (B1.1.trans (W2B.1.mono B1.1.size)) _).drewN n⟩);by_cases g1:f.f0≤x.f4
   ·have g1b:decide (f.f0≤x.f4)=true:=decide_eq_true g1;have HO2:=aa (show false=o by have J:=HJ.1;rw [if_pos g1] at J;exact J);clear HJ g1;go_quiet (fail);go_wp2_with fail;go_ret;exact NO.1 _ HO2.1
   have g1b:decide (f.f0≤x.f4)=false:=decide_eq_false g1;by_cases g2:IntKind.u64.wrap (f.f0 - x.f4)≤last
   ·have g2b:decide (IntKind.u64.wrap (f.f0 - x.f4)≤last)=true:=decide_eq_true g2;have HO2:=aa (show false=o by have J:=HJ.1;rw [if_neg g1,if_pos g2] at J;exact J);clear HJ g1 g2;go_quiet (fail);go_wp2_with fail;go_ret;exact NO.1 _ HO2.1
   have g2b:decide (IntKind.u64.wrap (f.f0 - x.f4)≤last)=false:=decide_eq_false g2;by_cases g3:win<IntKind.u64.wrap (f.f0 - x.f4)
   ·have g3b:decide (win<IntKind.u64.wrap (f.f0 - x.f4))=true:=decide_eq_true g3;have HO2:=aa (show false=o by have J:=HJ.1;rw [if_neg g1,if_neg g2,if_pos g3] at J;exact J);clear HJ g1 g2 g3;go_quiet (fail);go_wp2_with fail;go_ret;exact NO.1 _ HO2.1
   have g3b:decide (win<IntKind.u64.wrap (f.f0 - x.f4))=false:=decide_eq_false g3;have HJ2:=aa (show (if qO f.f1.length=true then kp x.f4 win (x.f5.drop (i+1)) (IntKind.u64.wrap (f.f0 - x.f4)) else false)=o by have J:=HJ.1;rw [if_neg g1,if_neg g2,if_neg g3] at J;exact J);clear HJ g1 g2 g3;cases hz:qO f.f1.length with
   | false=>
    have HO2:=aa (show false=o by have J:=HJ2.1;rw [hz] at J;exact J);have SZ2:=aa (fun (W_:World)=>by have h:=SZ.1 A1 cc f.f1.length W_;rw [hz] at h;exact h);clear HJ2 hz;go_quiet ((go_at_call 130;exact dA ((SZ2.1 _).mono fun _ _ h=>h)));go_wp2_with fail;go_ret;exact NO.1 _ HO2.1
   | true=>
    have HO2:=aa (show kp x.f4 win (x.f5.drop (i+1)) (IntKind.u64.wrap (f.f0 - x.f4))=o by have J:=HJ2.1;rw [hz] at J;exact J);have SZ2:=aa (fun (W_:World)=>by have h:=SZ.1 A1 cc f.f1.length W_;rw [hz] at h;exact h);clear HJ2 hz;go_quiet ((go_at_call 130;exact dA ((SZ2.1 _).mono fun _ _ h=>h)));go_wp2_with fail;go_roundw
    case rel=>exact ⟨i+1,_,by omega,rfl,by go_num,HO2,⟨ai W2B.1 _⟩⟩
    case measure=>
     show x.f5.length - ((i:Int)+1).toNat<x.f5.length - (i:Int).toNat;omega
  ·have HO2:=aa (show true=o by have J:=HK.1;rw [List.drop_eq_nil_of_le (by omega),kp] at J;exact J);have BX2:=aa ((HW.1.block bb BL.1).trans BX.1);have HB2:=aa ((HW.1.block b (Nat.lt_of_lt_of_le LB.1 B1.1.size)).trans ((B1.1.block b LB.1).trans HB.1));clear HK HW;go_wp2_with fail;have WB:=aa (HWW.1);have CK:=aa (xx A5 c5 x.f5 wr.drew (Kd.aN H5.1 HWW.1.drew) l5 hL HF.1);refine hY (fun W'=>W'.heap[bb]? = some (.cells #[.int .u64 x.f0, .int .u64 x.f1, .slice A2 x.f2.length c2, .int .u64 x.f3, .int .u64 x.f4, .slice A5 x.f5.length c5] 68 (0,0))) 7 [(0,0),(1,0),(2,0),(3,1),(4,0),(5,2),(6,2)] (by kernel_rfl) (by kernel_rfl) (fun _ _ _ _ _ h=>h) BX2.1 ?_;iterate 3 (refine eF ?_;simp only [cS,Act.put])
   iterate 1 (refine aQ (v:=?_) rfl rfl ?_ ?_;rotate_left 1;(focus (intro w hSw;have hq4:w.cell? ⟨bb,4,none⟩=some (.int .u64 x.f4):=cell_of hSw 4;have hq5:w.cell? ⟨bb,5,none⟩=some (.slice A5 x.f5.length c5):=cell_of hSw 5;clear hSw;go_simp;try (with_reducible rfl)));simp only [cS,Act.put])
   iterate 1 (refine eF ?_;simp only [cS,Act.put])
   refine aT rfl ?_;have q5:wr.drew.cell? ⟨bb,5,none⟩=some (.slice A5 x.f5.length c5):=cell_of BX2.1 5;go_wp2_with fail;refine bB.mk BX2.1 (fun hSw=>?_);clear hSw q5;refine aT rfl ?_;go_wp2_with fail;refine CK.1.mono ?_;rintro e w2 ⟨v2,rfl,hR2,hB2⟩;obtain ⟨Av,cv,rfl⟩:=Kd.aG hR2;have BX3:=aa ((hB2.block bb (ak BX2.1)).trans BX2.1);have HB3:=aa ((hB2.block b (ak HB2.1)).trans HB2.1);have B3:=aa (WB.1.drew.trans (hB2.mono WB.1.size));have B4:=aa (B3.1.mono (eJ LB.1));have K4:=aa (Kept.cH B3.1 (fun k=>k=b));clear hR2 hB2 CK BX2 HB2 WB HWW B3;go_wp2_with fail;refine bB.mk BX3.1 (fun hSw=>?_);clear hSw;refine bC ?_;simp only [aC,List.drop_zero];go_wp2_with (first
    | ((with_reducible refine gS 61 56 rfl ?_);refine sC 9 (.int .u64 x.f4) #[.int .u8 h, .int .i64 q, .int .i64 win, .int .u64 s, .int .u64 a,v, .int .u64 m, .int .u8 h, .int .u64 win, .int .u64 x.f4, .slice none 0 0] HB3.1 ?_;intro s3 HB5 hG;have B5:=aa (B4.1.grown hG.1 (eJ (ak HB3.1)) (fun k e=>by injection e with e;omega));have K5:=aa (K4.1.fx hG.1 (fun k e=> .inl (by injection e with e;exact e.symm))))
    | ((with_reducible refine gS 63 59 rfl ?_);refine sC 10 (.slice Av x.f5.length cv) #[.int .u8 h, .int .i64 q, .int .i64 win, .int .u64 s, .int .u64 a,v, .int .u64 m, .int .u8 h, .int .u64 win, .int .u64 x.f4, .slice Av x.f5.length cv] HB5.1 ?_;intro s4 HB6 hG;have B6:=aa (B5.1.grown hG.1 (eJ (ak HB5.1)) (fun k e=>by injection e with e;omega));have K6:=aa (K5.1.fx hG.1 (fun k e=> .inl (by injection e with e;exact e.symm)))))
   go_ret;exact ⟨by rw [←HO2.1];rfl,B6.1,K6.1⟩
end Go.Proofs.YtpekmdpbfjdjkaaGreat.dO