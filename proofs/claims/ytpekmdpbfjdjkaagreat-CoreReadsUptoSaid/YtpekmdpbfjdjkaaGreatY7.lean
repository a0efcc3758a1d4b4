/- Part 7 of the proof that reading bytes answers as the document does. No condition. -/
import Derived.Test.YtpekmdpbfjdjkaaGreatY6
set_option maxHeartbeats 16000000
set_option maxRecDepth 100000
set_option linter.all false
namespace Go.Proofs.YtpekmdpbfjdjkaaGreat.plain
open Go.RowKit ag.ax ag.aV ag.aU aD
def gq:Nat→Int→List Int→Int × Int × Int
 | _,_,[]=>(0,0,21)
 | i,acc,c::t=>if i=9∧1<c then (0,0,23) else if c<128 then (if c=0∧0<i then (0,0,22) else (acc+c*128 ^ i,(i:Int)+1,0)) else gq (i+1) (acc+(c - 128)*128 ^ i) t
theorem uH (l:List Int):∀(i:Nat) (acc:Int),(∀x n,un i acc l=some (x,n)→gq i acc l=(x,(n:Int),0))∧(un i acc l=none→(gq i acc l).1=0∧(gq i acc l).2.1=0∧(gq i acc l).2.2≠0):=by
 induction l with
 | nil=>intro i acc;simp [un,gq]
 | cons c t ih=>
  intro i acc;rw [un,gq];by_cases h9:i=9∧1<c
  ·rw [if_pos h9,if_pos h9];simp
  rw [if_neg h9,if_neg h9];by_cases hs:c<128
  ·rw [if_pos hs,if_pos hs];by_cases hp:c=0∧0<i
   ·rw [if_pos hp,if_pos hp];simp
   ·rw [if_neg hp,if_neg hp];refine ⟨fun x n h=>?_,fun h=>by simp at h⟩;simp only [bP,cC] at h;obtain ⟨rfl,rfl⟩:=h;simp
  ·rw [if_neg hs,if_neg hs];exact ih _ _
theorem kj (n:Int):IntKind.u64.wrap n=n % 18446744073709551616:=by simp [IntKind.wrap,IntKind.signed,IntKind.bits]
theorem Aj (c:Int) (h0:0≤c) (h1:c≤255):bits .and .u8 c 127=c % 128:=by
 obtain ⟨y,rfl⟩:=Int.eq_ofNat_of_zero_le h0;rw [show (127:Int)=((127:Nat):Int) by rfl,u8_and_nat _ _ (by omega) (by omega)];have h:∀z:Fin 256,(z.val&&&127)=z.val % 128:=by decide +kernel
 have:=h ⟨y,by omega⟩;simp only at this;rw [this];omega
theorem Am (a b i:Nat) (ha:a<2 ^ i) (h:a+b*2 ^ i<18446744073709551616):bits .or .u64 (a:Int) ((b*2 ^ i:Nat):Int)=((a+b*2 ^ i:Nat):Int):=by
 rw [u64_or_nat _ _ (by omega) (by omega)];congr 1;rw [Nat.or_comm,ek b,ik,fh ha]
theorem Bv (i:Nat):(128:Int) ^ i=((2 ^ (7*i):Nat):Int):=by rw [Nat.pow_mul,Int.natCast_pow];rfl
theorem sM (acc c:Int) (i:Nat) (hi:i≤9) (h0:0≤acc) (h1:acc<128 ^ i) (hc0:0≤c) (hc1:c<128) (h9:i=9→c≤1):Go.bits .or .u64 acc (shl .u64 c (wrap64 (7*(i:Int))))=acc+c*128 ^ i:=by
 obtain ⟨a,rfl⟩:=Int.eq_ofNat_of_zero_le h0;obtain ⟨b,rfl⟩:=Int.eq_ofNat_of_zero_le hc0;rw [Bv] at h1 ⊢;have hw:wrap64 (7*(i:Int))=((7*i:Nat):Int):=by unfold wrap64;omega
 have ha:a<2 ^ (7*i):=by omega
 have hb:b*2 ^ (7*i)+2 ^ (7*i)≤18446744073709551616:=by
  have h:∀j:Fin 10,(j.val=9→True)∧(j.val≤8→2 ^ (7*j.val)*128≤18446744073709551616 / 2)∧2 ^ (7*j.val)≤9223372036854775808:=by decide +kernel
  have hj:=h ⟨i,by omega⟩;simp only at hj;by_cases h8:i≤8
  ·have h2:=hj.2.1 h8;have h3:b*2 ^ (7*i)≤127*2 ^ (7*i):=Nat.mul_le_mul_right _ (by omega);omega
  ·have h3:b*2 ^ (7*i)≤1*2 ^ (7*i):=Nat.mul_le_mul_right _ (by have:=h9 (by omega);omega);have:=hj.2.2;omega
 have hs:shl .u64 (b:Int) ((7*i:Nat):Int)=((b*2 ^ (7*i):Nat):Int):=by
  unfold shl;rw [show min ((7*i:Nat):Int).toNat IntKind.u64.bits=7*i by simp only [Int.toNat_natCast];exact Nat.min_eq_left (by show 7*i≤64;omega)];rw [show (b:Int)*2 ^ (7*i)=((b*2 ^ (7*i):Nat):Int) by rw [Int.natCast_mul,Int.natCast_pow];rfl];have:b*2 ^ (7*i)<18446744073709551616:=by have:=Nat.pow_pos (n:=7*i) (show 0<2 by omega);omega
  rw [kj];omega
 rw [hw,hs,Am a b (7*i) ha (by omega)];rw [Int.natCast_add,Int.natCast_mul]
theorem xM (l:List Int) (hb:∀c∈l,0≤c∧c≤255) (hl:l.length<4611686018427387904):∀(d k i:Nat) (acc:Int),i+d=l.length→i≤9→0≤acc→acc<128 ^ i→2*d+1<k→bK.l0 k l acc (i:Int)=some (gq i acc (l.drop i)):=by
 intro d;induction d with
 | zero=>
  intro k i acc hi h9 h0 h1 hk;obtain ⟨k,rfl⟩:∃m,k=m+1:=⟨k - 1,by omega⟩;simp only [bK.l0];rw [if_neg (by omega),List.drop_of_length_le (by omega)];rfl
 | succ d ih=>
  intro k i acc hi h9 h0 h1 hk;obtain ⟨k,rfl⟩:∃m,k=m+2:=⟨k - 2,by omega⟩;have hlt:i<l.length:=by omega
  have hdr:l.drop i=rd l (i:Int)::l.drop (i+1):=by
   rw [ap hlt];congr 1;simp [rd,List.getD_eq_getElem?_getD,List.getElem?_eq_getElem hlt]
  have hc:=hb (rd l (i:Int)) (by simp only [rd,List.getD_eq_getElem?_getD,Int.toNat_natCast,List.getElem?_eq_getElem hlt,Option.getD_some];exact List.getElem_mem hlt);generalize rd l (i:Int)=c at hdr hc;have hw1:wrap64 ((i:Int)+1)=((i+1:Nat):Int):=by unfold wrap64;omega
  have hw7:wrap64 (7*(i:Int))=7*(i:Int):=by unfold wrap64;omega
  have hm:IntKind.u64.wrap (bits .and .u8 c 127)=c % 128:=by rw [Aj c hc.1 hc.2,kj];omega
  rw [hdr,gq];simp only [bK.l0];rw [if_pos (by omega),if_pos (by omega)];have hrd:rd l (i:Int)=c:=by
   have:=hdr;rw [ap hlt] at this;injection this with h1 h2;simp [rd,List.getD_eq_getElem?_getD,List.getElem?_eq_getElem hlt,h1]
  rw [hrd];by_cases e9:i=9∧1<c
  ·rw [if_pos (by omega),if_pos e9,show decide (c>1)=true by simpa using e9.2];simp only [bK.j1];rw [if_pos trivial]
  have hj:(if (i:Int)=9 then bK.j1 (k+1) l acc (i:Int) c (decide (c>1)) else bK.j1 (k+1) l acc (i:Int) c false)=bK.j1 (k+1) l acc (i:Int) c false:=by
   split
   ·rw [show decide (c>1)=false by simp;omega]
   ·rfl
  rw [hj,if_neg e9];simp only [bK.j1];rw [if_neg (by simp),hw7,if_pos (by omega),←hw7,hm,hw1];by_cases hs:c<128
  ·rw [if_pos hs,if_pos hs,show c % 128=c by omega,sM acc c i h9 h0 h1 hc.1 hs (fun h=>by omega)];by_cases hz:c=0
   ·rw [if_pos hz];by_cases hi0:0<i
    ·rw [if_pos (by omega),if_pos ⟨hz,hi0⟩]
    ·rw [if_neg (by omega),if_neg (by omega)];simp
   ·rw [if_neg hz,if_neg (by omega)];simp
  ·rw [if_neg hs,if_neg hs,show c % 128=c - 128 by omega,sM acc (c - 128) i h9 h0 h1 (by omega) (by omega) (fun h=>by omega)];have h8:i≤8:=by omega
   refine ih k (i+1) _ (by omega) (by omega) ?_ ?_ (by omega)
   ·have:(0:Int)≤128 ^ i:=by omega
    have:=og (show 0≤c - 128 by omega) this;omega
   ·have hp:(0:Int)≤128 ^ i:=by omega
    have:=dL (show c - 128≤127 by omega) hp;rw [jr];omega
theorem vN (l:List Int) (hb:∀c∈l,0≤c∧c≤255) (hl:l.length<4611686018427387904) (k:Nat) (hk:2*l.length+1<k):bK.f k l=some (gq 0 0 l):=by
 have:=xM l hb hl l.length k 0 0 (by omega) (by omega) (by omega) (by simp) hk;simpa [bK.f] using this
end Go.Proofs.YtpekmdpbfjdjkaaGreat.plain
namespace Go.Proofs.YtpekmdpbfjdjkaaGreat.cL
open Go.RowKit ag.ax ag.aV ag.aU aD fr plain iK
def aq (l:List Int):Prop:=∀c∈l,0≤c∧c≤255
theorem iC {n:Nat} {s:List Int × Int} (h:aq s.1):aq ((eg n s).1.getD [])∧aq (eg n s).2.1∧((eg n s).1.getD []).length≤n:=by
 unfold eg;split
 ·exact ⟨fun c hc=>by simp at hc,h,by simp⟩
 ·split
  ·exact ⟨fun c hc=>by simp at hc,h,by simp⟩
  ·exact ⟨fun c hc=>h c (List.mem_of_mem_take hc),fun c hc=>h c (bh hc),by simp only [Option.getD_some,List.length_take];omega⟩
theorem gC {n:Nat} {s:List Int × Int} (h:aq s.1):0≤(aZ n s).1∧(aZ n s).1<256 ^ n:=by
 obtain ⟨h1, -,h3⟩:=iC (n:=n) h;have:=i7 _ h1;refine ⟨this.1,Int.lt_of_lt_of_le this.2 ?_⟩;show (256:Int) ^ ((eg n s).1.getD []).length≤256 ^ n;rw [show (256:Int) ^ ((eg n s).1.getD []).length=((256 ^ ((eg n s).1.getD []).length:Nat):Int) by rw [Int.natCast_pow];rfl,show (256:Int) ^ n=((256 ^ n:Nat):Int) by rw [Int.natCast_pow];rfl];exact_mod_cast cK (by omega) h3
theorem cw {n:Nat} {s:List Int × Int} (h:aq s.1):aq (aZ n s).2.1:=(iC (n:=n) h).2.1
theorem Bz (ts:List Nat) (base br:Nat) (rest:List Int) (e:Int) (W:World) (h:gG ts W br rest e) (hb:base≤br) (hB:base≤W.heap.size) (hts:151∈ts) (hby:aq rest) :
 Calls Tryz.prog 39 #[.pointer (some ⟨br,0,none⟩)] W fun r w'=>r = .returned (.int .u8 (aZ 1 (rest,e)).1)∧dP ts W w' base br (aZ 1 (rest,e)).2.1 (aZ 1 (rest,e)).2.2:=by
 have N:=aa (pi 1 ts base br rest e W h (by omega) hb hB hts hby);have hl:=gC (n:=1) (s:=(rest,e)) hby;generalize aZ 1 (rest,e)=q at N hl ⊢;obtain ⟨q1,q2⟩:=q;simp only at N hl ⊢;have hw:IntKind.u8.wrap q1=q1:=by simp [IntKind.wrap,IntKind.signed,IntKind.bits];omega
 clear hl;go_in;go_wp2_with fail;refine N.1.mono ?_;rintro r w1 ⟨rfl,hD⟩;have HD:=aa hD;clear hD N;go_wp2_with fail;go_ret;exact ⟨rfl,HD.1⟩
theorem Dn (ts:List Nat) (base br:Nat) (rest:List Int) (e:Int) (W:World) (h:gG ts W br rest e) (hb:base≤br) (hB:base≤W.heap.size) (hts:151∈ts) (hby:aq rest) :
 Calls Tryz.prog 46 #[.pointer (some ⟨br,0,none⟩)] W fun r w'=>r = .returned (.int .u32 (aZ 4 (rest,e)).1)∧dP ts W w' base br (aZ 4 (rest,e)).2.1 (aZ 4 (rest,e)).2.2:=by
 have N:=aa (pi 4 ts base br rest e W h (by omega) hb hB hts hby);have hl:=gC (n:=4) (s:=(rest,e)) hby;generalize aZ 4 (rest,e)=q at N hl ⊢;obtain ⟨q1,q2⟩:=q;simp only at N hl ⊢;have hw:IntKind.u32.wrap q1=q1:=by simp [IntKind.wrap,IntKind.signed,IntKind.bits];omega
 clear hl;go_in;go_wp2_with fail;refine N.1.mono ?_;rintro r w1 ⟨rfl,hD⟩;have HD:=aa hD;clear hD N;go_wp2_with fail;go_ret;exact ⟨rfl,HD.1⟩
theorem xU (ts:List Nat) (base br:Nat) (rest:List Int) (e:Int) (W:World) (h:gG ts W br rest e) (hb:base≤br) (hB:base≤W.heap.size) (hts:151∈ts) (hby:aq rest) :
 Calls Tryz.prog 41 #[.pointer (some ⟨br,0,none⟩)] W fun r w'=>r = .returned (.int .u64 (aZ 8 (rest,e)).1)∧dP ts W w' base br (aZ 8 (rest,e)).2.1 (aZ 8 (rest,e)).2.2:=by
 have N:=aa (pi 8 ts base br rest e W h (by omega) hb hB hts hby);generalize aZ 8 (rest,e)=q at N ⊢;obtain ⟨q1,q2⟩:=q;simp only at N ⊢;go_in;go_wp2_with fail;refine N.1.mono ?_;rintro r w1 ⟨rfl,hD⟩;have HD:=aa hD;clear hD N;go_wp2_with fail;go_ret;exact ⟨rfl,HD.1⟩
def oI (c:Int) (s:List Int × Int):List Int × Int:=(s.1,if s.2=0 then c else s.2)
def fQ (s:List Int × Int):Int × (List Int × Int):=
 if s.2≠0 then (0,s) else if (gq 0 0 s.1).2.2≠0 then (0,(s.1,(gq 0 0 s.1).2.2)) else ((gq 0 0 s.1).1,(s.1.drop (gq 0 0 s.1).2.1.toNat,0))
theorem ny {l:List Int} (hb:aq l) (h:(gq 0 0 l).2.2=0):∃(y:Nat) (rest:List Int),gq 0 0 l=((y:Int),((bu y).length:Int),0)∧l=bu y++rest∧y<2 ^ 64:=by
 obtain ⟨h1,h2⟩:=uH l 0 0;cases hu:un 0 0 l with
 | none=>exact absurd h (h2 hu).2.2
 | some q=>
  obtain ⟨x,n⟩:=q;obtain ⟨y,rest,rfl,rfl,h3,h4⟩:=(vM l hb x n).1 hu;exact ⟨y,rest,h1 _ _ hu,h3,h4⟩
theorem Au (s:List Int × Int) (h:aq s.1):0≤(fQ s).1∧(fQ s).1<18446744073709551616∧aq (fQ s).2.1:=by
 unfold fQ;split
 ·exact ⟨by simp,by simp,h⟩
 ·split
  ·exact ⟨by simp,by simp,h⟩
  ·rename_i h0;obtain ⟨y,rest,h1,h2,h3⟩:=ny h (by simpa using h0);rw [h1];exact ⟨by simp,by simp only;omega,fun c hc=>h c (bh hc)⟩
theorem Ck (c:Int) (ts:List Nat) (base br:Nat) (rest:List Int) (e:Int) (W:World) (h:gG ts W br rest e) (hb:base≤br) (hB:base≤W.heap.size) (hts:151∈ts) :
 Calls Tryz.prog 87 #[.pointer (some ⟨br,0,none⟩), .int .i64 c] W fun r w'=>r = .returned (.tuple #[])∧dP ts W w' base br (oI c (rest,e)).1 (oI c (rest,e)).2:=by
 obtain ⟨A,cp,h1,h2,h3⟩:=h.dI;have HL:=aa h.le;have HH:=aa h;have H1:=aa h1;have HR:=aa h3;have HC:=aa h2;have c1:W.cell? ⟨br,1,none⟩=some (.int .i64 e):=cell_of h1 1;clear h h1 h3 h2;unfold oI;by_cases he:e=0
 ·subst he;rw [if_pos rfl];go_in;go_wp2_with ((with_reducible refine gS 16 14 rfl ?_);refine sC 1 (.int .i64 c) #[.slice A rest.length cp, .int .i64 c] H1.1 ?_;intro w3 W3 G3);go_end0;have M3:Mv TR W w3:=Mv.bG G3.1 H1.1 (by decide);exact ⟨rfl,⟨⟨A,cp,W3.1,HC.1,HR.1.mv M3 (fun k hk=>by simp only [TR,List.mem_singleton] at hk;subst hk;exact hts)⟩,HL.1⟩,(Below.refl _ _).grown G3.1 hB (fun k hk=>by injection hk with hk;subst hk;exact hb),M3⟩
 ·rw [if_neg he];have heb:(e == 0)=false:=by simpa using he
  go_in;go_wp2_with fail;go_end0;exact ⟨rfl,dP.refl HH.1⟩
theorem uo (ts:List Nat) (br:Nat) (rest:List Int) (e:Int) (W:World) (h:gG ts W br rest e) :
 Calls Tryz.prog 44 #[.pointer (some ⟨br,0,none⟩)] W fun r w'=>r = .returned (.int .i64 e)∧w'=W:=by
 obtain ⟨A,cp,h1,h2,h3⟩:=h.dI;have c1:W.cell? ⟨br,1,none⟩=some (.int .i64 e):=cell_of h1 1;clear h h1 h3 h2;go_in;go_wp2_with fail;go_ret;exact ⟨rfl,rfl⟩
theorem sy (ts:List Nat) (br:Nat) (rest:List Int) (e:Int) (W:World) (h:gG ts W br rest e) :
 Calls Tryz.prog 45 #[.pointer (some ⟨br,0,none⟩)] W fun r w'=>r = .returned (.int .i64 rest.length)∧w'=W:=by
 obtain ⟨A,cp,h1,h2,h3⟩:=h.dI;have c1:W.cell? ⟨br,0,none⟩=some (.slice A rest.length cp):=cell_of h1 0;clear h h1 h3 h2;go_in;go_wp2_with fail;go_ret;exact ⟨rfl,rfl⟩
theorem iw (ts:List Nat) (base br:Nat) (rest:List Int) (e:Int) (W:World) (h:gG ts W br rest e) (hb:base≤br) (hB:base≤W.heap.size) (hts:151∈ts) (hby:aq rest) :
 Calls Tryz.prog 86 #[.pointer (some ⟨br,0,none⟩)] W fun r w'=>r = .returned (.int .u64 (fQ (rest,e)).1)∧dP ts W w' base br (fQ (rest,e)).2.1 (fQ (rest,e)).2.2:=by
 have O:=aa (sQ ts br rest e W h);obtain ⟨A,c,h1,h2,h3⟩:=h.dI;have HL:=aa h.le;have HH:=aa h;have H1:=aa h1;have HR:=aa h3;have HC:=aa h2;have c0:W.cell? ⟨br,0,none⟩=some (.slice A rest.length c):=cell_of h1 0;have HB:=aa hby;have hm:∀k∈TR,k∈ts:=fun k hk=>by simp only [TR,List.mem_singleton] at hk;subst hk;exact hts
 have HM:=aa hm;clear h h1 h3 h2 hby hm;unfold fQ;by_cases he:e=0
 ·subst he;rw [if_neg (by simp)];have HD:=aa (bK.calls (2*rest.length+2) A c rest (gq 0 0 rest).1 (gq 0 0 rest).2.1 (gq 0 0 rest).2.2 W HR.1.c HC.1 (by rw [vN rest HB.1 (by have:=HL.1;omega) _ (by omega)]));by_cases he2:(gq 0 0 rest).2.2=0
  ·obtain ⟨y,rest2,q1,q2,q3⟩:=ny HB.1 he2;rw [if_neg (by simpa using he2)];rw [q1] at HD ⊢;simp only at HD ⊢;have hgl:(bu y).length≤rest.length:=by rw [q2,List.length_append];omega
   generalize (bu y).length=m at HD hgl ⊢;obtain ⟨A',hcut,hA'⟩:=me A rest.length c m hgl;have HA:=aa hA';clear hA' he2 q1 q2;go_in;go_wp2_with fail;refine O.1.mono ?_;rintro r w1 ⟨rfl,rfl⟩;go_wp2_with fail;refine HD.1.mono ?_;rintro r w2 ⟨rfl,hd⟩;obtain ⟨nd,rfl⟩:=hd.1;have H2:=aa (HH.1.drewN nd);have D1:=aa (show (w1.drewN nd).heap[br]? = some (.cells #[.slice A rest.length c, .int .i64 0] 151 (0,0)) from H1.1);have d0:(w1.drewN nd).cell? ⟨br,0,none⟩=some (.slice A rest.length c):=cell_of D1.1 0;clear hd;go_wp2_with ((with_reducible refine gS 32 30 rfl ?_);refine sC 0 (.slice A' (rest.length - m) (c - m)) #[.slice A' (rest.length - m) (c - m), .int .i64 0] D1.1 ?_;intro w3 W3 G3);go_ret;have M3:Mv TR w1 w3:=((Mv.refl _ _).drewN nd).trans (Mv.bG G3.1 D1.1 (by decide));have hl2:(rest.drop m).length=rest.length - m:=List.length_drop;refine ⟨rfl,⟨⟨A',c - m,?_,?_,?_⟩,?_⟩,(ai (Below.refl _ _) nd).grown G3.1 hB (fun k hk=>by injection hk with hk;subst hk;exact hb),M3⟩
   ·simp only [Int.toNat_natCast];rw [hl2];exact W3.1
   ·simp only [Int.toNat_natCast];rw [hl2];have:=HC.1;omega
   ·simp only [Int.toNat_natCast];rw [HA.1];exact (HR.1.mv M3 HM.1).drop m hgl HC.1
   ·simp only [Int.toNat_natCast];rw [hl2];have:=HL.1;omega
  ·rw [if_pos he2];generalize gq 0 0 rest=q at HD he2 ⊢;obtain ⟨q1,q2,q3⟩:=q;simp only at HD he2 ⊢;have heb:(q3 != 0)=true:=by simpa using he2
   clear he2;go_in;go_wp2_with fail;refine O.1.mono ?_;rintro r w1 ⟨rfl,rfl⟩;go_wp2_with fail;refine HD.1.mono ?_;rintro r w2 ⟨rfl,hd⟩;obtain ⟨nd,rfl⟩:=hd.1;have D1:=aa (show (w1.drewN nd).heap[br]? = some (.cells #[.slice A rest.length c, .int .i64 0] 151 (0,0)) from H1.1);clear hd;go_wp2_with ((with_reducible refine gS 23 21 rfl ?_);refine sC 1 (.int .i64 q3) #[.slice A rest.length c, .int .i64 q3] D1.1 ?_;intro w3 W3 G3);go_ret;have M3:Mv TR w1 w3:=((Mv.refl _ _).drewN nd).trans (Mv.bG G3.1 D1.1 (by decide));exact ⟨rfl,⟨⟨A,c,W3.1,HC.1,HR.1.mv M3 HM.1⟩,HL.1⟩,(ai (Below.refl _ _) nd).grown G3.1 hB (fun k hk=>by injection hk with hk;subst hk;exact hb),M3⟩
 ·rw [if_pos he];have heb:(e == 0)=false:=by simpa using he
  go_in;go_wp2_with fail;refine O.1.mono ?_;rintro r w1 ⟨rfl,rfl⟩;go_wp2_with fail;go_ret;exact ⟨rfl,dP.refl HH.1⟩
def tF (n:Nat) (s:List Int × Int):List Int × (List Int × Int):=((eg n s).1.getD [],(eg n s).2)
structure sF (ts:List Nat) (W W':World) (base br:Nat) (v:Value) (q:List Int × (List Int × Int)):Prop where
 row:Kd.R (Kd.int .u8) 5 W' W.heap.size (fun _=>True) v q.1
 done:dP ts W W' base br q.2.1 q.2.2
theorem De (n:Nat) (ts:List Nat) (base br:Nat) (rest:List Int) (e:Int) (W:World) (h:gG ts W br rest e) (hn:n≤1000000000) (hb:base≤br) (hB:base≤W.heap.size) (hts:151∈ts) :
 Calls Tryz.prog 90 #[.pointer (some ⟨br,0,none⟩), .int .i64 n] W fun r w'=>∃v,r = .returned v∧sF ts W w' base br v (tF n (rest,e)):=by
 have T:=aa (take n ts base br rest e W h hn hb hB hts);have hlt:((eg n (rest,e)).1.getD []).length≤1000000000:=by
  unfold eg;split;simp;split;simp;simp only [Option.getD_some,List.length_take];omega
 have hn0:¬((n:Int)<0):=by omega
 unfold tF;unfold oP at T;generalize eg n (rest,e)=tk at T hlt ⊢;obtain ⟨tk1,tk2,tk3⟩:=tk;simp only at T hlt ⊢;generalize tk1.getD []=xs at T hlt ⊢;generalize tk1.isSome=okb at T ⊢;have HB:=aa hB;have HX:=aa hlt;clear h hlt;go_in;go_wp2_with fail;refine T.1.mono ?_;rintro r w1 ⟨A,rfl,hRC,hD⟩;have HD:=aa hD;have HR:=aa hRC.c;clear hD hRC T;go_wp2_with ((with_reducible refine aM (b:= .append) (xs:=#[.const (.slice none 0 0), .tmp 17]) rfl ?_);at_builtin;refine Kd.dr (Kd.int .u8) (w0:=w1) w1.heap.size rfl (.const (.slice none 0 0)) (.tmp 17) 32 5 (.int .u8 0) 1 rfl Tryz.underlying32 ff rfl (by decide) (by omega) (.slice none 0 0) ([]:List Int) xs A xs.length xs.length (fun _=>True) (fun _=>False) rfl rfl ?aO ?aR (fun _ _ h=>h) (fun _ h=>h.elim) ?aF ?aB ?aS ?aL ?_;(case aO=>exact Kd.cY _ _ _ _ _);(case aR=>exact HR.1);(case aF=>exact (fun _ _=>trivial));(case aB=>exact Below.refl _ _);(case aS=>exact Nat.le_refl _);(case aL=>have:=HX.1;simp only [List.length_nil];omega);intro v1 w2 h1 h2 h3 h4;have Z1:=aa h1;have Z2:=aa h2;clear h1 h2 h3 h4);go_ret;exact ⟨_,rfl,Kd.cI Z1.1 HD.1.below.size,HD.1.grow Z2.1 (Nat.le_trans HB.1 HD.1.below.size)⟩
def bX (most:Nat) (s:List Int × Int):List Int × (List Int × Int):=
 if s.2≠0 then ([],s) else if (gq 0 0 s.1).2.2≠0 then ([],(s.1,(gq 0 0 s.1).2.2)) else if (most:Int)<(gq 0 0 s.1).1 then ([],(s.1,25))
 else if (s.1.length:Int) - (gq 0 0 s.1).2.1<(gq 0 0 s.1).1 then ([],(s.1,21)) else tF (gq 0 0 s.1).1.toNat (s.1.drop (gq 0 0 s.1).2.1.toNat,0)
theorem wu (most:Nat) (ts:List Nat) (base br:Nat) (rest:List Int) (e:Int) (W:World) (h:gG ts W br rest e) (hmo:most≤1000000) (hb:base≤br) (hB:base≤W.heap.size) (hts:151∈ts) (hby:aq rest) :
 Calls Tryz.prog 42 #[.pointer (some ⟨br,0,none⟩), .int .i64 most] W fun r w'=>∃v,r = .returned v∧sF ts W w' base br v (bX most (rest,e)):=by
 have O:=aa (sQ ts br rest e W h);obtain ⟨A,c,h1,h2,h3⟩:=h.dI;have HL:=aa h.le;have HH:=aa h;have H1:=aa h1;have HR:=aa h3;have HC:=aa h2;have c0:W.cell? ⟨br,0,none⟩=some (.slice A rest.length c):=cell_of h1 0;have HB:=aa hby;have hm:∀k∈TR,k∈ts:=fun k hk=>by simp only [TR,List.mem_singleton] at hk;subst hk;exact hts
 have HM:=aa hm;have hm0:¬((most:Int)<0):=by omega
 have hwm:IntKind.u64.wrap (most:Int)=most:=by rw [kj];omega
 clear h h1 h3 h2 hby hm;unfold bX;by_cases he:e=0
 case neg=>
  rw [if_pos he];have heb:(e == 0)=false:=by simpa using he
  go_in;go_wp2_with fail;refine O.1.mono ?_;rintro r w1 ⟨rfl,rfl⟩;go_wp2_with fail;go_ret;exact ⟨_,rfl,Kd.cY _ _ _ _ _,dP.refl HH.1⟩
 subst he;rw [if_neg (by simp)];have HD:=aa (bK.calls (2*rest.length+2) A c rest (gq 0 0 rest).1 (gq 0 0 rest).2.1 (gq 0 0 rest).2.2 W HR.1.c HC.1 (by rw [vN rest HB.1 (by have:=HL.1;omega) _ (by omega)]));by_cases he2:(gq 0 0 rest).2.2=0
 case neg=>
  rw [if_pos he2];generalize gq 0 0 rest=q at HD he2 ⊢;obtain ⟨q1,q2,q3⟩:=q;simp only at HD he2 ⊢;have heb:(q3 != 0)=true:=by simpa using he2
  clear he2;go_in;go_wp2_with fail;refine O.1.mono ?_;rintro r w1 ⟨rfl,rfl⟩;go_wp2_with fail;refine HD.1.mono ?_;rintro r w2 ⟨rfl,hd⟩;obtain ⟨nd,rfl⟩:=hd.1;have D1:=aa (show (w1.drewN nd).heap[br]? = some (.cells #[.slice A rest.length c, .int .i64 0] 151 (0,0)) from H1.1);clear hd;go_wp2_with ((with_reducible refine gS 44 42 rfl ?_);refine sC 1 (.int .i64 q3) #[.slice A rest.length c, .int .i64 q3] D1.1 ?_;intro w3 W3 G3);go_ret;have M3:Mv TR w1 w3:=((Mv.refl _ _).drewN nd).trans (Mv.bG G3.1 D1.1 (by decide));exact ⟨_,rfl,Kd.cY _ _ _ _ _,⟨⟨A,c,W3.1,HC.1,HR.1.mv M3 HM.1⟩,HL.1⟩,(ai (Below.refl _ _) nd).grown G3.1 hB (fun k hk=>by injection hk with hk;subst hk;exact hb),M3⟩
 rw [if_neg (by simpa using he2)];obtain ⟨y,rest2,q1,q2,q3⟩:=ny HB.1 he2;rw [q1] at HD ⊢;simp only at HD ⊢;have hgl:(bu y).length≤rest.length:=by rw [q2,List.length_append];omega
 generalize (bu y).length=m at HD hgl ⊢;clear he2 q1 q2;by_cases hmost:(most:Int)<(y:Int)
 ·rw [if_pos hmost];go_in;go_wp2_with fail;refine O.1.mono ?_;rintro r w1 ⟨rfl,rfl⟩;go_wp2_with fail;refine HD.1.mono ?_;rintro r w2 ⟨rfl,hd⟩;obtain ⟨nd,rfl⟩:=hd.1;have D1:=aa (show (w1.drewN nd).heap[br]? = some (.cells #[.slice A rest.length c, .int .i64 0] 151 (0,0)) from H1.1);clear hd;go_wp2_with ((with_reducible refine fq (t:=33) (p:=52) (v:= .const (.int .i64 25)) rfl ?_);refine sC 1 (.int .i64 25) #[.slice A rest.length c, .int .i64 25] D1.1 ?_;intro w3 W3 G3);go_ret;have M3:Mv TR w1 w3:=((Mv.refl _ _).drewN nd).trans (Mv.bG G3.1 D1.1 (by decide));exact ⟨_,rfl,Kd.cY _ _ _ _ _,⟨⟨A,c,W3.1,HC.1,HR.1.mv M3 HM.1⟩,HL.1⟩,(ai (Below.refl _ _) nd).grown G3.1 hB (fun k hk=>by injection hk with hk;subst hk;exact hb),M3⟩
 rw [if_neg hmost];have hsub:IntKind.i64.wrap ((rest.length:Int) - (m:Int))=(rest.length:Int) - m:=aA _ (by have:=HL.1;omega);have hwl:IntKind.u64.wrap ((rest.length:Int) - (m:Int))=(rest.length:Int) - m:=by rw [kj];have:=HL.1;omega
 by_cases hshort:(rest.length:Int) - (m:Int)<(y:Int)
 ·rw [if_pos hshort];go_in;go_wp2_with fail;refine O.1.mono ?_;rintro r w1 ⟨rfl,rfl⟩;go_wp2_with fail;refine HD.1.mono ?_;rintro r w2 ⟨rfl,hd⟩;obtain ⟨nd,rfl⟩:=hd.1;have D1:=aa (show (w1.drewN nd).heap[br]? = some (.cells #[.slice A rest.length c, .int .i64 0] 151 (0,0)) from H1.1);have d0:(w1.drewN nd).cell? ⟨br,0,none⟩=some (.slice A rest.length c):=cell_of D1.1 0;clear hd;go_wp2_with ((with_reducible refine fq (t:=33) (p:=66) (v:= .const (.int .i64 21)) rfl ?_);refine sC 1 (.int .i64 21) #[.slice A rest.length c, .int .i64 21] D1.1 ?_;intro w3 W3 G3);go_ret;have M3:Mv TR w1 w3:=((Mv.refl _ _).drewN nd).trans (Mv.bG G3.1 D1.1 (by decide));exact ⟨_,rfl,Kd.cY _ _ _ _ _,⟨⟨A,c,W3.1,HC.1,HR.1.mv M3 HM.1⟩,HL.1⟩,(ai (Below.refl _ _) nd).grown G3.1 hB (fun k hk=>by injection hk with hk;subst hk;exact hb),M3⟩
 rw [if_neg hshort];simp only [Int.toNat_natCast];obtain ⟨A',hcut,hA'⟩:=me A rest.length c m hgl;have HA:=aa hA';clear hA';have hwy:IntKind.i64.wrap (y:Int)=y:=aA _ (by omega);go_in;go_wp2_with fail;refine O.1.mono ?_;rintro r w1 ⟨rfl,rfl⟩;go_wp2_with fail;refine HD.1.mono ?_;rintro r w2 ⟨rfl,hd⟩;obtain ⟨nd,rfl⟩:=hd.1;have D1:=aa (show (w1.drewN nd).heap[br]? = some (.cells #[.slice A rest.length c, .int .i64 0] 151 (0,0)) from H1.1);have d0:(w1.drewN nd).cell? ⟨br,0,none⟩=some (.slice A rest.length c):=cell_of D1.1 0;clear hd;go_wp2_with ((with_reducible refine gS 33 31 rfl ?_);refine sC 0 (.slice A' (rest.length - m) (c - m)) #[.slice A' (rest.length - m) (c - m), .int .i64 0] D1.1 ?_;intro w3 W3 G3);have M3:Mv TR w1 w3:=((Mv.refl _ _).drewN nd).trans (Mv.bG G3.1 D1.1 (by decide));have hl2:(rest.drop m).length=rest.length - m:=List.length_drop;have X3:=aa (show dP ts w1 w3 base br (rest.drop m) 0 from ⟨⟨⟨A',c - m,by rw [hl2];exact W3.1,by rw [hl2];have:=HC.1;omega,by rw [HA.1];exact (HR.1.mv M3 HM.1).drop m hgl HC.1⟩,by rw [hl2];have:=HL.1;omega⟩,(ai (Below.refl _ _) nd).grown G3.1 hB (fun k hk=>by injection hk with hk;subst hk;exact hb),M3⟩);clear M3 hl2;refine (De y ts base br (rest.drop m) 0 w3 X3.1.at_ (by omega) hb (Nat.le_trans hB X3.1.below.size) hts).mono ?_;rintro r w4 ⟨v,rfl,hrow,hdone⟩;have Y1:=aa hrow;have Y2:=aa hdone;clear hrow hdone;go_wp2_with fail;go_ret;exact ⟨_,rfl,Kd.cI Y1.1 X3.1.below.size,X3.1.trans Y2.1⟩
def bL (most:Nat) (s:List Int × Int):Int × (List Int × Int):=
 if (most:Int)<(fQ s).1 then (0,oI 104 (fQ s).2) else if (fQ s).2.2≠0 then (0,(fQ s).2) else fQ s
theorem zL (most:Nat) (ts:List Nat) (base br:Nat) (rest:List Int) (e:Int) (W:World) (h:gG ts W br rest e) (hmo:most≤2000000000) (hb:base≤br) (hB:base≤W.heap.size) (hts:151∈ts) (hby:aq rest) :
 Calls Tryz.prog 40 #[.pointer (some ⟨br,0,none⟩), .int .i64 most] W fun r w'=>r = .returned (.int .i64 (bL most (rest,e)).1)∧dP ts W w' base br (bL most (rest,e)).2.1 (bL most (rest,e)).2.2:=by
 have V:=aa (iw ts base br rest e W h hb hB hts hby);have hwm:IntKind.u64.wrap (most:Int)=most:=by rw [kj];omega
 obtain ⟨v0,v1, -⟩:=Au (rest,e) hby;unfold bL;generalize fQ (rest,e)=q at V v0 v1 ⊢;obtain ⟨q1,q2,q3⟩:=q;simp only at V v0 v1 ⊢;have HB:=aa hB;clear h hB hby;by_cases hm:(most:Int)<q1
 ·rw [if_pos hm];go_in;go_wp2_with fail;refine V.1.mono ?_;rintro r w1 ⟨rfl,hD⟩;have HD:=aa hD;clear hD V;go_wp2_with fail;refine (Ck 104 ts base br q2 q3 w1 HD.1.at_ hb (Nat.le_trans HB.1 HD.1.below.size) hts).mono ?_;rintro r w2 ⟨rfl,hD⟩;have HF:=aa hD;clear hD;go_wp2_with fail;refine (uo ts br _ _ w2 HF.1.at_).mono ?_;rintro r w3 ⟨rfl,rfl⟩;have hne:((oI 104 (q2,q3)).2 != 0)=true:=by unfold oI;simp only;split<;>simp_all
  go_wp2_with fail;go_ret;exact ⟨rfl,HD.1.trans HF.1⟩
 ·rw [if_neg hm];by_cases h3:q3=0
  ·subst h3;rw [if_neg (by simp)];have hw1:IntKind.i64.wrap q1=q1:=aA _ (by omega);go_in;go_wp2_with fail;refine V.1.mono ?_;rintro r w1 ⟨rfl,hD⟩;have HD:=aa hD;clear hD V;go_wp2_with fail;refine (uo ts br _ _ w1 HD.1.at_).mono ?_;rintro r w3 ⟨rfl,rfl⟩;go_wp2_with fail;go_ret;exact ⟨rfl,HD.1⟩
  ·rw [if_pos h3];have hne:(q3 != 0)=true:=by simpa using h3
   clear h3;go_in;go_wp2_with fail;refine V.1.mono ?_;rintro r w1 ⟨rfl,hD⟩;have HD:=aa hD;clear hD V;go_wp2_with fail;refine (uo ts br _ _ w1 HD.1.at_).mono ?_;rintro r w3 ⟨rfl,rfl⟩;go_wp2_with fail;go_ret;exact ⟨rfl,HD.1⟩
theorem oe (bs:List Int) (A:Option Addr) (c:Nat) (W:World) (hl:(16777216:Int)<bs.length) :
 Calls Tryz.prog 38 #[.slice A bs.length c] W fun r w'=>r = .returned (.tuple #[.pointer none, .int .i64 28])∧w'=W:=by
 go_in;go_wp2_with fail;go_ret2;exact ⟨rfl,rfl⟩
theorem oG (ts:List Nat) (bs:List Int) (A:Option Addr) (c:Nat) (W:World) (hC:Kd.C (Kd.int .u8) W A bs.length bs) (hl:¬(16777216:Int)<bs.length) (ht:5∉ts) :
 Calls Tryz.prog 38 #[.slice A bs.length c] W fun r w'=>∃br,r = .returned (.tuple #[.pointer (some ⟨br,0,none⟩), .int .i64 0])∧gG ts w' br bs 0∧W.heap.size≤br∧Below W.heap.size W w':=by
 have hmk:=nR 32 5 .u8 1 Tryz.underlying32 ff (by decide) bs.length (by omega);have hz:=aa (oy bs.length);have HC:=aa hC;have HL:=aa (show bs.length≤16777216 by omega);clear hC;go_in;go_wp2_with (first|((with_reducible refine aM (b:= .copy) (xs:=#[.tmp 11, .tmp 12]) rfl ?_);(refine wpList_copy_splice rfl (.tmp 11) (.tmp 12) 32 32 rfl 5 Tryz.underlying32 ?hsz (some ⟨W.heap.size,0,none⟩) A bs.length bs.length bs.length c ?hd ?hs W.heap.size 0 (fp .u8 (List.replicate bs.length 0)) 5 ?hg (fp .u8 bs) ?hn ?hpos ?hfit ?h1 W.heap.size W ?hb (Nat.le_refl _) ?_);((case hsz=>kernel_rfl);(case hd=>rfl);(case hs=>rfl);(case hg=>rw [←hz.1];exact aJ W _);(case hn=>simp [fp]);(case hpos=>exact (fun hp=>⟨rfl,mm (Kd.aN HC.1 (ah (Below.refl _ _) _)) (by simpa [fp] using hp)⟩));(case hfit=>simp [fp]);(case h1=>intro q hq;simp only [fp,List.mem_map] at hq;obtain ⟨_,_,rfl⟩:=hq;rfl);(case hb=>exact ah (Below.refl _ _) _));intro w3 hW3 hB3;have W3:=aa hW3;have B3:=aa hB3;clear hW3 hB3)|fail);go_ret2;have hn:=aJ w3 (.cells #[.slice (some ⟨W.heap.size,0,none⟩) bs.length bs.length, .int .i64 0] 151);have hq:w3.heap[W.heap.size]? = some (.cells (fp .u8 bs).toArray 5 (0,0)):=by
  have:=W3.1.out;rwa [show splice (fp .u8 (List.replicate bs.length 0)) 0 (fp .u8 bs)=fp .u8 bs by simp [splice,fp]] at this
 exact ⟨_,rfl,⟨⟨_,_,hn,Nat.le_refl _,RC.of_block ((cm w3 _ _ (ak hq)).trans hq) ht (by have:=HL.1;omega)⟩,HL.1⟩,B3.1.size,ah B3.1 _⟩
end Go.Proofs.YtpekmdpbfjdjkaaGreat.cL
namespace Go.Proofs.YtpekmdpbfjdjkaaGreat.fE
open Go.RowKit ag.ax ag.aV ag.aU aD fr plain iK cL
def cV (e:Ending):Prop:=∃at_ why:Int,e = .panicked [{ v:= .iface 261 (.agg #[.int .i64 at_, .int .i64 why]),recovered:=false }]∧why≠0
theorem dM (a y:Int) (W:World):Calls Tryz.prog 167 #[.bool true, .int .i64 a, .int .i64 y] W fun e w'=>e = .returned (.tuple #[])∧w'=W:=by
 go_in;go_wp2_with fail;go_end0;exact ⟨rfl,rfl⟩
theorem dU (a y:Int) (W:World) (hy:y≠0):Calls Tryz.prog 167 #[.bool false, .int .i64 a, .int .i64 y] W fun e w'=>cV e∧w'=W:=by
 have hp:∀W:World,(Instr.panic (.iface 261 (.agg #[.int .i64 a, .int .i64 y]))).run Tryz.prog W = .halt (.panic (.iface 261 (.agg #[.int .i64 a, .int .i64 y]))) W:=fun _=>rfl;go_in;go_wp2_with fail;exact ⟨rfl,⟨_,_,rfl,hy⟩,rfl⟩
def PT:List Nat:=[151,214,59,62]
structure kH (W:World) (bc br:Nat) (size:Int) (rest:List Int) (e:Int):Prop where
 cur:W.heap[bc]? = some (.cells #[.pointer (some ⟨br,0,none⟩), .int .i64 size] 267 (0,0))
 rd:gG PT W br rest e
theorem kH.mv {us:List Nat} {W W':World} {bc br:Nat} {size:Int} {rest:List Int} {e:Int} (h:kH W bc br size rest e) (hm:Mv us W W') (hs:∀k∈us,k∈PT) (h1:267∉us) (h2:151∉us):kH W' bc br size rest e:=⟨hm.at h.cur h1,h.rd.mv hm hs h2⟩
theorem kH.drewN {W:World} {bc br:Nat} {size:Int} {rest:List Int} {e:Int} (h:kH W bc br size rest e) (n:Nat):kH (W.drewN n) bc br size rest e:=⟨h.cur,h.rd.drewN n⟩
theorem kH.below {W W':World} {bc br:Nat} {size:Int} {rest:List Int} {e:Int} (h:kH W bc br size rest e) (hb:Below W.heap.size W W'):kH W' bc br size rest e:=h.mv (us:=[]) (Mv.cH hb) (fun _ hk=>by cases hk) (by simp) (by simp)
theorem kH.read {W W':World} {base bc br:Nat} {size:Int} {rest rest':List Int} {e e':Int} (h:kH W bc br size rest e) (hd:dP PT W W' base br rest' e'):kH W' bc br size rest' e':=⟨hd.mv.at h.cur (by decide),hd.at_⟩
theorem at_ (bc br:Nat) (size:Int) (rest:List Int) (e:Int) (W:World) (h:kH W bc br size rest e) (h0:0≤size) (h1:size≤1000000000) :
 Calls Tryz.prog 170 #[.pointer (some ⟨bc,0,none⟩)] W fun r w'=>r = .returned (.int .i64 (3+size - rest.length))∧∃n,w'=W.drewN n:=by
 have c0:W.cell? ⟨bc,0,none⟩=some (.pointer (some ⟨br,0,none⟩)):=cell_of h.cur 0;have c1:W.cell? ⟨bc,1,none⟩=some (.int .i64 size):=cell_of h.cur 1;have hs:IntKind.i64.wrap (3+size)=3+size:=aA _ (by omega);have hs2:IntKind.i64.wrap (3+size - (rest.length:Int))=3+size - rest.length:=aA _ (by have:=h.rd.le;omega);have L:=aa (fun n=>sy PT br rest e (W.drewN n) (h.drewN n).rd);clear h;go_in;go_wp2_with fail;go_quiet ((go_at_call 45;exact dA ((L.1 _).mono fun _ _ h=>h)));go_wp2;go_ret;exact ⟨rfl,_,rfl⟩
theorem eN (a:Int) (bc br:Nat) (size:Int) (rest:List Int) (W:World) (h:kH W bc br size rest 0) :
 Calls Tryz.prog 243 #[.pointer (some ⟨bc,0,none⟩), .int .i64 a] W fun r w'=>r = .returned (.tuple #[])∧w'=W:=by
 have c0:W.cell? ⟨bc,0,none⟩=some (.pointer (some ⟨br,0,none⟩)):=cell_of h.cur 0;have L:=aa (uo PT br rest 0 W h.rd);clear h;go_in;go_wp2_with fail;refine L.1.mono ?_;rintro r w1 ⟨rfl,rfl⟩;go_wp2_with fail;go_end0;exact ⟨rfl,rfl⟩
theorem eM (a:Int) (bc br:Nat) (size:Int) (rest:List Int) (e:Int) (W:World) (h:kH W bc br size rest e) (he:e≠0) :
 Calls Tryz.prog 243 #[.pointer (some ⟨bc,0,none⟩), .int .i64 a] W fun r w'=>cV r∧w'=W:=by
 have c0:W.cell? ⟨bc,0,none⟩=some (.pointer (some ⟨br,0,none⟩)):=cell_of h.cur 0;have L:=aa (uo PT br rest e W h.rd);have hp:∀W:World,(Instr.panic (.iface 261 (.agg #[.int .i64 a, .int .i64 33]))).run Tryz.prog W = .halt (.panic (.iface 261 (.agg #[.int .i64 a, .int .i64 33]))) W:=fun _=>rfl;have heb:(e != 0)=true:=by simpa using he
 clear h he;go_in;go_wp2_with fail;refine L.1.mono ?_;rintro r w1 ⟨rfl,rfl⟩;go_wp2_with fail;exact ⟨rfl,⟨_,_,rfl,by decide⟩,rfl⟩
structure Mg where
 k:Int
 seq:Int
 key:Int
 hi:Int
 val:List Int
 old:List Int
 has:Bool
 of_:Int
 st:Int
 host:Int
 grant:Int
 bounds:Int
 mask:Int
 limit:Int
 pairs:List iA
 ses:List jx
 pay:List Int
def fF (g:Mg) (v4 v5 v14 v15 v16:Value):List Value:=
 [.int .u8 g.k, .int .u64 g.seq, .int .u64 g.key, .int .u64 g.hi,v4,v5, .bool g.has, .int .u8 g.of_, .int .u8 g.st, .int .u8 g.host, .int .u32 g.grant, .int .u32 g.bounds, .int .u64 g.mask, .int .u8 g.limit,v14,v15,v16]
structure jA (W:World) (base bm:Nat) (g:Mg) (v4 v5 v14 v15 v16:Value):Prop where
 r4:Kd.R (Kd.int .u8) 5 W base (fun k=>k≠bm) v4 g.val
 r5:Kd.R (Kd.int .u8) 5 W base (fun k=>k≠bm) v5 g.old
 r14:Kd.R Ee 59 W base (fun k=>k≠bm) v14 g.pairs
 r15:Kd.R mg 62 W base (fun k=>k≠bm) v15 g.ses
 r16:Kd.R (Kd.int .u8) 5 W base (fun k=>k≠bm) v16 g.pay
structure kk (W:World) (base bm:Nat) (g:Mg):Prop where
 at_:∃v4 v5 v14 v15 v16,W.heap[bm]? = some (.cells (fF g v4 v5 v14 v15 v16).toArray 214 (0,0))∧jA W base bm g v4 v5 v14 v15 v16
theorem jA.mv {us:List Nat} {W W':World} {base bm:Nat} {g:Mg} {v4 v5 v14 v15 v16:Value} (h:jA W base bm g v4 v5 v14 v15 v16) (hm:Mv us W W') (h1:5∉us) (h2:59∉us) (h3:62∉us):jA W' base bm g v4 v5 v14 v15 v16:=by
 have e1:∀q,q∈5::(Kd.int .u8).E→q∉us:=fun q hq=>by
  have hq':q∈[5]:=hq;rw [List.mem_singleton] at hq';subst hq';exact h1
 have e2:∀q,q∈59::Ee.E→q∉us:=fun q hq=>by
  have hq':q∈[59,5]:=hq;simp only [List.mem_cons,ga,Ad] at hq';rcases hq' with rfl|rfl
  ·exact h2
  ·exact h1
 have e3:∀q,q∈62::mg.E→q∉us:=fun q hq=>by
  have hq':q∈[62]:=hq;rw [List.mem_singleton] at hq';subst hq';exact h3
 exact ⟨eV h.r4 hm e1,eV h.r5 hm e1,eV h.r14 hm e2,eV h.r15 hm e3,eV h.r16 hm e1⟩
theorem jA.grown {W W':World} {base bm:Nat} {g:Mg} {v4 v5 v14 v15 v16:Value} (h:jA W base bm g v4 v5 v14 v15 v16) (hg:W.grownBy W' (some bm)):jA W' base bm g v4 v5 v14 v15 v16:=
 ⟨Kd.eL h.r4 hg (fun k hk e=>hk (by injection e)),Kd.eL h.r5 hg (fun k hk e=>hk (by injection e)),Kd.eL h.r14 hg (fun k hk e=>hk (by injection e)),Kd.eL h.r15 hg (fun k hk e=>hk (by injection e)),Kd.eL h.r16 hg (fun k hk e=>hk (by injection e))⟩
theorem kk.mv {us:List Nat} {W W':World} {base bm:Nat} {g:Mg} (h:kk W base bm g) (hm:Mv us W W') (h0:214∉us) (h1:5∉us) (h2:59∉us) (h3:62∉us):kk W' base bm g:=by
 obtain ⟨v4,v5,v14,v15,v16,hb,hr⟩:=h.at_;exact ⟨v4,v5,v14,v15,v16,hm.at hb h0,hr.mv hm h1 h2 h3⟩
structure fH (W:World) (base bc br:Nat) (size:Int) (bm:Nat) (g:Mg) (rest:List Int):Prop where
 cu:kH W bc br size rest 0
 ms:kk W base bm g
 Af:aq rest
 b1:base≤bc
 b2:base≤br
 b3:base≤bm
 b4:base≤W.heap.size
 s0:0≤size
 s1:size≤1000000000
theorem fH.mv {us:List Nat} {W W':World} {base bc br:Nat} {size:Int} {bm:Nat} {g:Mg} {rest:List Int} (h:fH W base bc br size bm g rest) (hm:Mv us W W') (hs:us=[]):fH W' base bc br size bm g rest:=by
 subst hs;exact ⟨h.cu.mv hm (fun _ hk=>by cases hk) (by simp) (by simp),h.ms.mv hm (by simp) (by simp) (by simp) (by simp),h.Af,h.b1,h.b2,h.b3,Nat.le_trans h.b4 hm.size,h.s0,h.s1⟩
theorem fH.below {W W':World} {base bc br:Nat} {size:Int} {bm:Nat} {g:Mg} {rest:List Int} (h:fH W base bc br size bm g rest) (hb:Below W.heap.size W W'):fH W' base bc br size bm g rest:=h.mv (us:=[]) (Mv.cH hb) rfl
theorem fH.drewN {W:World} {base bc br:Nat} {size:Int} {bm:Nat} {g:Mg} {rest:List Int} (h:fH W base bc br size bm g rest) (n:Nat):fH (W.drewN n) base bc br size bm g rest:=h.mv (us:=[]) ((Mv.refl _ _).drewN n) rfl
structure fZ (W W':World) (base:Nat):Prop where
 below:Below base W W'
 mv:Mv PT W W'
theorem fZ.refl (W:World) (base:Nat):fZ W W base:=⟨Below.refl _ _,Mv.refl _ _⟩
theorem fZ.trans {W W1 W2:World} {base:Nat} (h:fZ W W1 base) (k:fZ W1 W2 base):fZ W W2 base:=⟨h.below.trans k.below,h.mv.trans k.mv⟩
theorem fZ.grow {W W1 W2:World} {base:Nat} (h:fZ W W1 base) (hb:Below W1.heap.size W1 W2) (hB:base≤W1.heap.size):fZ W W2 base:=⟨h.below.trans (hb.mono hB),h.mv.trans (Mv.cH hb)⟩
theorem fZ.drewN {W W1:World} {base:Nat} (h:fZ W W1 base) (n:Nat):fZ W (W1.drewN n) base:=⟨ai h.below n,h.mv.drewN n⟩
theorem fZ.read {W W1 W2:World} {base br:Nat} {rest:List Int} {e:Int} (h:fZ W W1 base) (k:dP PT W1 W2 base br rest e):fZ W W2 base:=⟨h.below.trans k.below,h.mv.trans (k.mv.mono (fun x hx=>by simp only [TR,List.mem_singleton] at hx;subst hx;decide))⟩
theorem fZ.set {W W1 W2:World} {base b t:Nat} {cs:Array Value} {f:Nat × Nat} (h:fZ W W1 base) (hg:W1.grownBy W2 (some b)) (hb:W1.heap[b]? = some (.cells cs t f)) (ht:t∈PT) (hB:base≤b) (hS:base≤W1.heap.size):fZ W W2 base:=⟨h.below.grown hg hS (fun k e=>by injection e with e;subst e;exact hB),h.mv.trans (Mv.bG hg hb ht)⟩
def eG (W:World) (base bc br:Nat) (size:Int) (bm:Nat) (o:Option (Mg × List Int)) (e:Ending) (w':World):Prop:=
 fZ W w' base∧match o with
  | none=>cV e
  | some (g',rest')=>e = .returned (.tuple #[])∧fH w' base bc br size bm g' rest'
theorem eG.ok {W:World} {base bc br:Nat} {size:Int} {bm:Nat} {o:Option (Mg × List Int)} {w':World} {g':Mg} {rest':List Int} (h:fZ W w' base) (ho:o=some (g',rest')) (hp:fH w' base bc br size bm g' rest'):eG W base bc br size bm o (.returned (.tuple #[])) w':=by subst ho;exact ⟨h,rfl,hp⟩
theorem eG.no {W:World} {base bc br:Nat} {size:Int} {bm:Nat} {o:Option (Mg × List Int)} {e:Ending} {w':World} (h:fZ W w' base) (ho:o=none) (hf:cV e):eG W base bc br size bm o e w':=by subst ho;exact ⟨h,hf⟩
def pR {α:Type} (q:α × (List Int × Int)):Option (α × List Int):=if q.2.2=0 then some (q.1,q.2.1) else none
def df (l:List Int):Option (Int × List Int):=pR (fQ (l,0))
def dQ (n:Nat) (l:List Int):Option (Int × List Int):=pR (aZ n (l,0))
def fJ (most:Nat) (l:List Int):Option (List Int × List Int):=pR (bX most (l,0))
theorem ca {W:World} {a:Addr} {v:Value} (h:W.cell? a=some v):∀o:Obj,(W.alloc o).cell? a=some v:=fun o=>an (ah (Below.refl _ _) o) h
theorem ym (W:World) (base bm:Nat) (g:Mg) (h:kk W base bm g):Calls Tryz.prog 239 #[.agg #[], .pointer (some ⟨bm,0,none⟩)] W fun e w'=>e = .returned (.bool (decide (0<g.seq)))∧Below W.heap.size W w':=by
 obtain ⟨v4,v5,v14,v15,v16,hb,hr⟩:=h.at_;have c1:W.cell? ⟨bm,1,none⟩=some (.int .u64 g.seq):=cell_of hb 1;have d1:=ca c1;clear h hb hr;go_in;go_wp2_with fail;go_ret;exact ⟨rfl,ah (Below.refl _ _) _⟩
theorem jA.to {W:World} {base bm:Nat} {g g':Mg} {v4 v5 v14 v15 v16:Value} (h:jA W base bm g v4 v5 v14 v15 v16) (e1:g'.val=g.val) (e2:g'.old=g.old) (e3:g'.pairs=g.pairs) (e4:g'.ses=g.ses) (e5:g'.pay=g.pay):jA W base bm g' v4 v5 v14 v15 v16:=⟨by rw [e1];exact h.r4,by rw [e2];exact h.r5,by rw [e3];exact h.r14,by rw [e4];exact h.r15,by rw [e5];exact h.r16⟩
theorem cV.mk' {at_ why:Int} (h:why≠0):cV (.panicked [{ v:= .iface 261 (.agg #[.int .i64 at_, .int .i64 why]),recovered:=false }]):=⟨_,_,rfl,h⟩
structure mC (W:World) (base bc br:Nat) (size:Int) (bm:Nat) (g:Mg) (rest:List Int) (e:Int):Prop where
 cu:kH W bc br size rest e
 ms:kk W base bm g
 b4:base≤W.heap.size
theorem fH.read {W W':World} {base bc br:Nat} {size:Int} {bm:Nat} {g:Mg} {rest rest':List Int} {e':Int} (h:fH W base bc br size bm g rest) (hd:dP PT W W' base br rest' e'):mC W' base bc br size bm g rest' e':=
 ⟨h.cu.read hd,h.ms.mv hd.mv (by decide) (by decide) (by decide) (by decide),Nat.le_trans h.b4 hd.below.size⟩
theorem mC.set {W W':World} {base bc br:Nat} {size:Int} {bm:Nat} {g g':Mg} {rest:List Int} {e:Int} (h:mC W base bc br size bm g rest e) (hg:W.grownBy W' (some bm)) (hm:kk W' base bm g'):mC W' base bc br size bm g' rest e:=by
 obtain ⟨v4,v5,v14,v15,v16,hb,hr⟩:=h.ms.at_;exact ⟨h.cu.mv (us:=[214]) (Mv.bG hg hb (by decide)) (by decide) (by decide) (by decide),hm,Nat.le_trans h.b4 hg.size⟩
theorem mC.mQ {W:World} {base bc br:Nat} {size:Int} {bm:Nat} {g:Mg} {rest:List Int} (h:mC W base bc br size bm g rest 0) (hb:aq rest) {W0:World} {g0:Mg} {rest0:List Int} (h0:fH W0 base bc br size bm g0 rest0):fH W base bc br size bm g rest:=⟨h.cu,h.ms,hb,h0.b1,h0.b2,h0.b3,h.b4,h0.s0,h0.s1⟩
theorem yd (W:World) (base bc br:Nat) (size:Int) (bm:Nat) (g:Mg) (rest:List Int) (h:fH W base bc br size bm g rest) :
 Calls Tryz.prog 241 #[.agg #[], .pointer (some ⟨bc,0,none⟩), .pointer (some ⟨bm,0,none⟩)] W (eG W base bc br size bm ((df rest).bind fun q=>if 0<q.1 then some ({ g with seq:=q.1 },q.2) else none)):=by
 have HH:=aa h;have RD:=aa (fun (W1:World) (hW:fH W1 base bc br size bm g rest)=>iw PT base br rest 0 W1 hW.cu.rd hW.b2 hW.b4 (by decide) hW.Af);have HS:=aa (Au (rest,0) h.Af);unfold df pR;generalize fQ (rest,0)=q at RD HS ⊢;obtain ⟨x,rest',e'⟩:=q;simp only at RD HS ⊢;clear h;generalize hO:Option.bind _ _=o;have HO:=aa hO;clear hO;go_in;go_wp2_with fail;have B0:=aa (aJ W (.cells #[] 286));have P0:=aa (HH.1.below (ah (Below.refl _ _) (.cells #[] 286)));have F0:=aa ((fZ.refl W base).grow (ah (Below.refl _ _) (.cells #[] 286)) HH.1.b4);generalize W.alloc (.cells #[] 286)=W1 at B0 P0 F0 ⊢;generalize W.heap.size=b0 at B0 ⊢;refine (at_ bc br size rest 0 W1 P0.1.cu P0.1.s0 P0.1.s1).mono ?_;rintro r w2 ⟨rfl,m2,rfl⟩;have c0:(W1.drewN m2).cell? ⟨bc,0,none⟩=some (.pointer (some ⟨br,0,none⟩)):=cell_of P0.1.cu.cur 0;have P2:=aa (P0.1.drewN m2);go_wp2_with fail;refine (RD.1 _ P2.1).mono ?_;rintro r w3 ⟨rfl,hD⟩;have F3:=aa ((F0.1.drewN m2).read hD);have B3:=aa (hD.mv.at (show (W1.drewN m2).heap[b0]? = some (.cells #[] 286 (0,0)) from B0.1) (by decide));have R3:=aa (P2.1.read hD);clear hD F0 B0 c0 P0;obtain ⟨v4,v5,v14,v15,v16,hb,hr⟩:=R3.1.ms.at_;have M3:=aa hb;have MR:=aa hr;clear hb hr;go_wp2_with ((with_reducible refine gS 16 14 rfl ?_);refine sC 1 (.int .u64 x) ((fF { g with seq:=x } v4 v5 v14 v15 v16).toArray) M3.1 ?_;intro w4 hW hG;have R4:=aa (R3.1.set hG.1 (g':={ g with seq:=x }) ⟨v4,v5,v14,v15,v16,hW.1,(MR.1.grown hG.1).to rfl rfl rfl rfl rfl⟩);have F4:=aa (F3.1.set hG.1 M3.1 (by decide) HH.1.b3 R3.1.b4);have B4:=aa ((Mv.bG (ts:=PT) hG.1 M3.1 (by decide)).at B3.1 (by decide)));clear R3 F3 B3 M3 MR;by_cases he:e'=0
 ·subst he;refine (eN _ bc br size rest' w4 R4.1.cu).mono ?_;rintro r w5 ⟨rfl,rfl⟩;go_wp2_with ((with_reducible refine az (N:=20) rfl ?_);refine fL (t:=286) (p:= .tmp 3) rfl rfl ?haddr B4.1 Tryz.underlying286 ?hd ?hi ?_;(case haddr=>rfl);(case hd=>rfl);(case hi=>kernel_rfl));refine (ym w5 base bm { g with seq:=x } R4.1.ms).mono ?_;rintro r w6 ⟨rfl,hb6⟩;have P6:=aa ((R4.1.mQ HS.1.2.2 HH.1).below hb6);have F6:=aa (F4.1.grow hb6 R4.1.b4);clear hb6 R4 F4 B4;by_cases hx:0<x
  ·rw [show decide (0<({ g with seq:=x }:Mg).seq)=true by simpa using hx];go_wp2_with fail;refine (dM _ _ _).mono ?_;rintro r w7 ⟨rfl,rfl⟩;go_wp2_with fail;go_end0;exact eG.ok F6.1 (by rw [←HO.1];simp [hx]) P6.1
  ·rw [show decide (0<({ g with seq:=x }:Mg).seq)=false by simpa using hx];go_wp2_with fail;refine (dU _ _ _ (by decide)).mono ?_;rintro r w7 ⟨⟨at_,why,rfl,hw⟩,rfl⟩;go_wp2_with fail;exact ⟨rfl,eG.no F6.1 (by rw [←HO.1];simp [hx]) (cV.mk' hw)⟩
 ·refine (eM _ bc br size rest' e' w4 R4.1.cu he).mono ?_;rintro r w5 ⟨⟨at_,why,rfl,hw⟩,rfl⟩;go_wp2_with fail;exact ⟨rfl,eG.no F4.1 (by rw [←HO.1];simp [he]) (cV.mk' hw)⟩
end Go.Proofs.YtpekmdpbfjdjkaaGreat.fE