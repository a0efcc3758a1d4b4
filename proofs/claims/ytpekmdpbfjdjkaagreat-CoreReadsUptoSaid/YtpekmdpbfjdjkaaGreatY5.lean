/- Part 5 of the proof that reading bytes answers as the document does. No condition. -/
import Derived.Test.YtpekmdpbfjdjkaaGreatY4
set_option maxHeartbeats 16000000
set_option maxRecDepth 100000
set_option linter.all false
namespace Go.Proofs.YtpekmdpbfjdjkaaGreat.cL
open Go.RowKit ag.ax ag.aV ag.aU aD fr plain iK
def RC (ts:List Nat) (W:World) (A:Option Addr) (xs:List Int):Prop:=∀W',Mv ts W W'→Kd.C (Kd.int .u8) W' A xs.length xs
theorem RC.c {ts:List Nat} {W:World} {A:Option Addr} {xs:List Int} (h:RC ts W A xs):Kd.C (Kd.int .u8) W A xs.length xs:=h W (Mv.refl _ _)
theorem RC.mv {ts ts':List Nat} {W W':World} {A:Option Addr} {xs:List Int} (h:RC ts W A xs) (hm:Mv ts' W W') (hs:∀k∈ts',k∈ts):RC ts W' A xs:=fun W2 h2=>h W2 ((hm.mono hs).trans h2)
theorem RC.take {ts:List Nat} {W:World} {A:Option Addr} {xs:List Int} (h:RC ts W A xs) (m:Nat) (hm:m≤xs.length):RC ts W A (xs.take m):=fun W' hw=>Kd.lq (h W' hw) hm
theorem RC.drop {ts:List Nat} {W:World} {A:Option Addr} {c:Nat} {xs:List Int} (h:RC ts W A xs) (m:Nat) (hm:m≤xs.length) (hc:xs.length≤c):RC ts W (if c=m then A else A.map (·.add m)) (xs.drop m):=fun W' hw=>by
 have:=Kd.pw (h W' hw) hm hc;simpa [Kd.int,Kd.scalar] using this
theorem RC.of_block {ts:List Nat} {W:World} {g t:Nat} {f:Nat × Nat} {xs:List Int} (h:W.heap[g]? = some (.cells (fp .u8 xs).toArray t f)) (ht:t∉ts) (hm:xs.length≤9223372036854775807):RC ts W (some ⟨g,0,none⟩) xs:=fun W' hw=>by
 have:=jV (hw.at h ht) 0 xs.length (by omega) hm;simpa using this
structure gG (ts:List Nat) (W:World) (br:Nat) (rest:List Int) (e:Int):Prop where
 dI:∃A c,W.heap[br]? = some (.cells #[.slice A rest.length c, .int .i64 e] 151 (0,0))∧rest.length≤c∧RC ts W A rest
 le:rest.length≤16777216
def TR:List Nat:=[151]
structure dP (ts:List Nat) (W W':World) (base br:Nat) (rest:List Int) (e:Int):Prop where
 at_:gG ts W' br rest e
 below:Below base W W'
 mv:Mv TR W W'
theorem gG.mv {ts ts':List Nat} {W W':World} {br:Nat} {rest:List Int} {e:Int} (h:gG ts W br rest e) (hm:Mv ts' W W') (hs:∀k∈ts',k∈ts) (hr:151∉ts'):gG ts W' br rest e:=by
 obtain ⟨A,c,h1,h2,h3⟩:=h.dI;exact ⟨⟨A,c,hm.at h1 hr,h2,h3.mv hm hs⟩,h.le⟩
theorem gG.drewN {ts:List Nat} {W:World} {br:Nat} {rest:List Int} {e:Int} (h:gG ts W br rest e) (n:Nat):gG ts (W.drewN n) br rest e:=h.mv (ts':=[]) ((Mv.refl _ _).drewN n) (fun _ hk=>by cases hk) (by simp)
theorem dP.same {ts:List Nat} {W:World} {base br:Nat} {rest:List Int} {e:Int} (h:gG ts W br rest e) (n:Nat):dP ts W (W.drewN n) base br rest e:=⟨h.drewN n,ai (Below.refl _ _) n,(Mv.refl _ _).drewN n⟩
theorem dP.refl {ts:List Nat} {W:World} {base br:Nat} {rest:List Int} {e:Int} (h:gG ts W br rest e):dP ts W W base br rest e:=⟨h,Below.refl _ _,Mv.refl _ _⟩
theorem dP.trans {ts:List Nat} {W W1 W2:World} {base br:Nat} {rest rest':List Int} {e e':Int} (h:dP ts W W1 base br rest e) (k:dP ts W1 W2 base br rest' e'):dP ts W W2 base br rest' e':=⟨k.at_,h.below.trans k.below,h.mv.trans k.mv⟩
theorem dP.grow {ts:List Nat} {W W1 W2:World} {base br:Nat} {rest:List Int} {e:Int} (h:dP ts W W1 base br rest e) (hb:Below W1.heap.size W1 W2) (hB:base≤W1.heap.size):dP ts W W2 base br rest e:=
 ⟨h.at_.mv (ts':=[]) (Mv.cH hb) (fun _ hk=>by cases hk) (by simp),h.below.trans (hb.mono hB),h.mv.trans (Mv.cH hb)⟩
def eg (n:Nat) (s:List Int × Int):Option (List Int) × (List Int × Int):=if s.2≠0 then (none,s) else if s.1.length<n then (none,(s.1,21)) else (some (s.1.take n),(s.1.drop n,0))
theorem sQ (ts:List Nat) (br:Nat) (rest:List Int) (e:Int) (W:World) (h:gG ts W br rest e) :
 Calls Tryz.prog 88 #[.pointer (some ⟨br,0,none⟩)] W fun r w'=>r = .returned (.bool (e == 0))∧w'=W:=by
 obtain ⟨A,c,h1,h2,h3⟩:=h.dI;have c1:W.cell? ⟨br,1,none⟩=some (.int .i64 e):=cell_of h1 1;clear h h1 h3;go_in;go_wp2_with fail;go_ret;exact ⟨rfl,rfl⟩
theorem me (A:Option Addr) (len c n:Nat) (h:n≤len):∃A':Option Addr,(∀W:World,(Instr.slice 32 (.slice A len c) (some (.int .i64 n)) none none).run Tryz.prog W = .ok (.slice A' (len - n) (c - n)) W)∧A'=if c=n then A else A.map (·.add n):=by
 refine ⟨_,fun W=>?_,rfl⟩;obtain ⟨i0,hi,hzz⟩:=Option.map_eq_some_iff.1 ff;simp only [cC] at hzz;have hel:Tryz.prog.elem 32=5:=by simp [Program.elem,Tryz.underlying32]
 have hu:Tryz.prog.underlying 32=some (.slice (Tryz.prog.elem 32)):=by rw [hel];exact Tryz.underlying32
 rw [run_slice_l W 32 A len c hu .i64 n (by omega) (by omega),hel];simp [sizeOf,typeInfo,hi,hzz.2.1,sliced,Result.andThen]
def oP (ts:List Nat) (W:World) (base br n:Nat) (rest:List Int) (e:Int) (r:Ending) (w':World):Prop:=
 ∃A,r = .returned (.tuple #[.slice A ((eg n (rest,e)).1.getD []).length ((eg n (rest,e)).1.getD []).length, .bool (eg n (rest,e)).1.isSome])∧RC ts w' A ((eg n (rest,e)).1.getD [])∧dP ts W w' base br (eg n (rest,e)).2.1 (eg n (rest,e)).2.2
theorem RC.nil (ts:List Nat) (W:World):RC ts W none []:=fun W' _=>⟨rfl,by simp,fun h=>absurd h (by simp)⟩
theorem take (n:Nat) (ts:List Nat) (base br:Nat) (rest:List Int) (e:Int) (W:World) (h:gG ts W br rest e) (hn:n≤1000000000) (hb:base≤br) (hB:base≤W.heap.size) (hts:151∈ts) :
 Calls Tryz.prog 124 #[.pointer (some ⟨br,0,none⟩), .int .i64 n] W (oP ts W base br n rest e):=by
 have O:=aa (sQ ts br rest e W h);have HL:=aa h.le;obtain ⟨A,c,h1,h2,h3⟩:=h.dI;have HH:=aa h;have H1:=aa h1;have HR:=aa h3;have HC:=aa h2;have c0:W.cell? ⟨br,0,none⟩=some (.slice A rest.length c):=cell_of h1 0;clear h h1 h3;by_cases he:e=0
 ·subst he;by_cases hl:(rest.length:Int)<(n:Int)
  ·have ht:eg n (rest,0)=(none,(rest,21)):=by simp [eg];omega
   unfold oP;rw [ht];go_in;go_wp2_with fail;refine O.1.mono ?_;rintro e w1 ⟨rfl,rfl⟩;go_wp2_with ((with_reducible refine fq (t:=33) (p:=19) (v:= .const (.int .i64 21)) rfl ?_);refine sC 1 (.int .i64 21) #[.slice A rest.length c, .int .i64 21] H1.1 ?_;intro w3 W3 G3);go_ret2;have M3:Mv TR w1 w3:=Mv.bG G3.1 H1.1 (by decide);exact ⟨none,rfl,RC.nil _ _,⟨⟨A,c,W3.1,HC.1,HR.1.mv M3 (fun k hk=>by simp only [TR,List.mem_singleton] at hk;subst hk;exact hts)⟩,HL.1⟩,(Below.refl _ _).grown G3.1 hB (fun k hk=>by injection hk with hk;subst hk;exact hb),M3⟩
  ·have ht:eg n (rest,0)=(some (rest.take n),(rest.drop n,0)):=by simp [eg];omega
   have hnl:(n:Int)≤rest.length:=by omega
   have hnc:(n:Int)≤(c:Int):=by omega
   have hn0:(0:Int)≤(n:Int):=by omega
   obtain ⟨A',hcut,hA'⟩:=me A rest.length c n (by omega);have HA:=aa hA';clear hA';unfold oP;rw [ht];go_in;go_wp2_with fail;refine O.1.mono ?_;rintro e w1 ⟨rfl,rfl⟩;go_wp2_with ((with_reducible refine gS 35 33 rfl ?_);refine sC 0 (.slice A' (rest.length - n) (c - n)) #[.slice A' (rest.length - n) (c - n), .int .i64 0] H1.1 ?_;intro w3 W3 G3);go_ret2;have M3:Mv TR w1 w3:=Mv.bG G3.1 H1.1 (by decide);have hm:∀k∈TR,k∈ts:=fun k hk=>by simp only [TR,List.mem_singleton] at hk;subst hk;exact hts
   have hl1:(rest.take n).length=n:=by rw [List.length_take];omega
   have hl2:(rest.drop n).length=rest.length - n:=List.length_drop;refine ⟨A,by
    have e:Ending.returned (.tuple #[.slice A n n, .bool true])=Ending.returned (.tuple #[.slice A (rest.take n).length (rest.take n).length, .bool true]):=by rw [hl1]
    exact e,(HR.1.mv M3 hm).take n (by omega),⟨⟨A',c - n,?_,?_,?_⟩,?_⟩,(Below.refl _ _).grown G3.1 hB (fun k hk=>by injection hk with hk;subst hk;exact hb),M3⟩
   ·rw [hl2];exact W3.1
   ·rw [hl2];have:=HC.1;omega
   ·rw [HA.1];exact (HR.1.mv M3 hm).drop n (by omega) HC.1
   ·rw [hl2];have:=HL.1;omega
 ·have ht:eg n (rest,e)=(none,(rest,e)):=by simp [eg,he]
  have heb:(e == 0)=false:=by simpa using he
  unfold oP;rw [ht];go_in;go_wp2_with fail;refine O.1.mono ?_;rintro e w1 ⟨rfl,rfl⟩;go_wp2_with fail;go_ret2;exact ⟨none,rfl,RC.nil _ _,dP.refl HH.1⟩
def aZ (n:Nat) (s:List Int × Int):Int × (List Int × Int):=(val ((eg n s).1.getD []),(eg n s).2)
theorem zX (a c:Int) (h0:0≤a) (h1:a<72057594037927936) (h2:0≤c) (h3:c≤255):bits .or .u64 (IntKind.u64.wrap (a*256)) c=a*256+c:=by
 obtain ⟨x,rfl⟩:=Int.eq_ofNat_of_zero_le h0;obtain ⟨y,rfl⟩:=Int.eq_ofNat_of_zero_le h2;rw [show IntKind.u64.wrap ((x:Int)*256)=((x*256:Nat):Int) by simp [IntKind.wrap,IntKind.signed,IntKind.bits];omega,u64_or_nat _ _ (by omega) (by omega),show x*256|||y=x*256+y by rw [show x*256=2 ^ 8*x by omega,fh (by omega)]];simp
theorem mU {W:World} {A:Option Addr} {xs:List Int} (h:Kd.C (Kd.int .u8) W A xs.length xs) (i:Nat) (hi:i<xs.length):∃ad,A=some ad∧W.cell? (ad.add i)=some (.int .u8 (rd xs i)):=by
 obtain ⟨ad,e,hc⟩:=mm h (by omega);exact ⟨ad,e,by have:=hc i (.int .u8 (rd xs i)) (by simp [fp,rd,List.getD_eq_getElem?_getD,List.getElem?_eq_getElem hi]);exact this⟩
theorem pi (n:Nat) (ts:List Nat) (base br:Nat) (rest:List Int) (e:Int) (W:World) (h:gG ts W br rest e) (hn:n≤8) (hb:base≤br) (hB:base≤W.heap.size) (hts:151∈ts) (hby:∀c∈rest,0≤c∧c≤255) :
 Calls Tryz.prog 85 #[.pointer (some ⟨br,0,none⟩), .int .i64 n] W fun r w'=>r = .returned (.int .u64 (aZ n (rest,e)).1)∧dP ts W w' base br (aZ n (rest,e)).2.1 (aZ n (rest,e)).2.2:=by
 have T:=aa (take n ts base br rest e W h (by omega) hb hB hts);have hbt:af (∀c∈(eg n (rest,e)).1.getD [],0≤c∧c≤255):=⟨by
  unfold eg;split;simp;split;simp;intro c hc;exact hby c (List.mem_of_mem_take hc)⟩
 have hlt:((eg n (rest,e)).1.getD []).length≤8:=by
  unfold eg;split;simp;split;simp;simp only [Option.getD_some,List.length_take];omega
 unfold aZ;unfold oP at T;generalize eg n (rest,e)=tk at T hbt hlt ⊢;obtain ⟨tk1,tk2⟩:=tk;simp only at T hbt hlt ⊢;generalize tk1.getD []=xs at T hbt hlt ⊢;generalize tk1.isSome=okb at T ⊢;go_in;go_wp2_with fail;refine T.1.mono ?_;rintro r w1 ⟨A,rfl,hRC,hD⟩;have HD:=aa hD;have HR:=aa hRC.c;clear hD hRC T;go_wp2_with fail;go_loop [7,18] (fun v7 v18=>∃k:Nat,k≤xs.length∧v18 = .int .i64 (k:Int)∧v7 = .int .u64 (val (xs.take k))) (fun _ v=>xs.length - (intOf v).toNat)
 case atStart=>exact ⟨0,aI _,rfl,rfl⟩
 case round=>
  obtain ⟨k,hk,rfl,rfl⟩:=hrel;by_cases hlt2:k<xs.length
  ·obtain ⟨ad,rfl,hcell⟩:=mU HR.1 k hlt2;have hc:=hbt.1 (rd xs k) (by simp only [rd,List.getD_eq_getElem?_getD,Int.toNat_natCast,List.getElem?_eq_getElem hlt2,Option.getD_some];exact List.getElem_mem hlt2);have hv:=i7 (xs.take k) (fun c hc=>hbt.1 c (List.mem_of_mem_take hc));have hv2:val (xs.take k)<72057594037927936:=by
    have h7:∀m:Fin 8,(256:Int) ^ m.val≤72057594037927936:=by decide
    have:=h7 ⟨(xs.take k).length,by rw [List.length_take];omega⟩;have:=hv.2;simp only at *;omega
   have hor:=zX (val (xs.take k)) (rd xs k) hv.1 hv2 hc.1 hc.2;have hwc:IntKind.u64.wrap (rd xs k)=rd xs k:=by simp [IntKind.wrap,IntKind.signed,IntKind.bits];omega
   have HN:=aa (show val (xs.take (k+1))=val (xs.take k)*256+rd xs k by
    rw [bz hlt2,qg];congr 1;simp [rd,List.getD_eq_getElem?_getD,List.getElem?_eq_getElem hlt2])
   clear hc hv hv2;go_wp2_with fail;go_round
   case rel=>exact ⟨k+1,by omega,by go_num,by rw [HN.1]⟩
   case measure=>simp [intOf];omega
  ·go_wp2_with fail;go_ret;exact ⟨by
    have e:Ending.returned (.int .u64 (val (xs.take k)))=Ending.returned (.int .u64 (val xs)):=by rw [List.take_of_length_le (by omega)]
    exact e,HD.1⟩
end Go.Proofs.YtpekmdpbfjdjkaaGreat.cL
namespace Go.Proofs.YtpekmdpbfjdjkaaGreat.aD
open Go.RowKit ag.ax ag.aV ag.aU
theorem Cy (d:Nat) (w:World) (x0 y0:Int) (x1 y1:Int) (x2 y2:Int) :
 (Op.equalIn (d+2) 62 (.agg #[.int .u8 x0, .int .u64 x1, .int .u8 x2]) (.agg #[.int .u8 y0, .int .u64 y1, .int .u8 y2])).run Tryz.prog w = .ok (x0 == y0&&(x1 == y1&&(x2 == y2))) w:=by
 refine vL Tryz.underlying62 (by kernel_rfl) ?_;refine l7 (by rfl) (by go_simp;rfl) (by go_simp;rfl) (by go_simp) ?_;refine l7 (by rfl) (by go_simp;rfl) (by go_simp;rfl) (by go_simp) ?_;exact qL (by rfl) (by go_simp;rfl) (by go_simp;rfl) (by go_simp)
theorem Ca (d:Nat) (w:World) (x0 y0:Int) (x1 y1:Int) (x2 y2:Int) :
 (Op.equalIn (d+2) 76 (.agg #[.int .u64 x0, .int .u64 x1, .int .u8 x2]) (.agg #[.int .u64 y0, .int .u64 y1, .int .u8 y2])).run Tryz.prog w = .ok (x0 == y0&&(x1 == y1&&(x2 == y2))) w:=by
 refine vL Tryz.underlying76 (by kernel_rfl) ?_;refine l7 (by rfl) (by go_simp;rfl) (by go_simp;rfl) (by go_simp) ?_;refine l7 (by rfl) (by go_simp;rfl) (by go_simp;rfl) (by go_simp) ?_;exact qL (by rfl) (by go_simp;rfl) (by go_simp;rfl) (by go_simp)
def bA.l0:Nat→Int→Int→Int→Int→Option (Bool)
 | 0,_,_,_,_=>none
 | k+1,x0,x1,x2,x7=>if x7<64 then (if 0≤x7 then (if (Go.bits .and .u64 (shr .u64 x1 x7) 1)=1 then (if (IntKind.u64.wrap (x7+2))>(IntKind.u64.wrap (x2 - x0)) then (some true) else (bA.l0 k x0 x1 x2 (IntKind.u64.wrap (x7+1)))) else (bA.l0 k x0 x1 x2 (IntKind.u64.wrap (x7+1)))) else (none)) else (some false)
def bA.f (k:Nat) (a0:Int) (a1:Int) (a2:Int):Option (Bool):=bA.l0 k a0 a1 a2 0
theorem bA.calls (k:Nat) (a0:Int) (a1:Int) (a2:Int) (r:Bool) (w:World) (h:bA.f k a0 a1 a2=some r) :
 Calls Tryz.prog 137 #[.int .u64 a0, .int .u64 a1, .int .u64 a2] w fun e w'=>e = .returned (.bool r)∧av w w':=by
 have H:(bA.l0 k a0 a1 a2 0)=some r:=h;clear h;have H':=aa H;clear H;go_in;go_wp2;go_loopg [7] k (fun kq v7 w'=>∃(x7_1:Int),v7 = .int .u64 x7_1∧af (bA.l0 kq a0 a1 a2 x7_1=some r)∧af (kq≤k)∧av w w')
 case atStart=>exact ⟨(0),(by first|rfl|(simp;done)|(simp [*];done)),H',⟨Nat.le_refl _⟩,by repeat (first|exact av.refl _|apply av.step)⟩
 case round=>
  clear H';try clear c1
  try clear p2
  obtain ⟨x7_1,rfl,HA,HK1,⟨m1,rfl⟩⟩:=hrel;cases gk with
  | zero=>exact absurd HA.1 (by simp [bA.l0])
  | succ k1=>
   have H:=HA.1;clear HA;simp only [bA.l0] at H;by_cases c4:x7_1<64
   ·rw [if_pos c4] at H;have c4b0:decide (x7_1<64)=true:=decide_eq_true c4;clear c4;by_cases c5:0≤x7_1
    ·rw [if_pos c5] at H;have c5b0:=a8 c5;have c5b1:decide (0≤x7_1)=true:=decide_eq_true c5;clear c5;obtain ⟨ji6,hji6⟩:∃j_:Int,(shr .u64 a1 x7_1)=j_:=⟨_,rfl⟩;replace H:(if (Go.bits .and .u64 (ji6) 1)=1 then (if (IntKind.u64.wrap (x7_1+2))>(IntKind.u64.wrap (a2 - a0)) then (some true) else (bA.l0 k1 a0 a1 a2 (IntKind.u64.wrap (x7_1+1)))) else (bA.l0 k1 a0 a1 a2 (IntKind.u64.wrap (x7_1+1))))=some r:=by first|(rw [hji6] at H;exact H)|(simp only [hji6] at H ⊢;exact H)
     have hji6_:(a1 / 2 ^ min x7_1.toNat 64)=ji6:=hji6;have hji6z:x7_1≤64→(a1 / 2 ^ x7_1.toNat)=ji6:=iZ hji6;by_cases c7:(Go.bits .and .u64 (ji6) 1)=1
     ·rw [if_pos c7] at H;have c7b0:((Go.bits .and .u64 (ji6) 1) == 1)=true:=gw.mpr c7;have c7b1:((Go.bits .and .u64 (ji6) 1) != 1)=false:=ci.mpr c7;clear c7;by_cases c8:(IntKind.u64.wrap (x7_1+2))>(IntKind.u64.wrap (a2 - a0))
      ·rw [if_pos c8] at H;have c8b0:decide ((IntKind.u64.wrap (a2 - a0))<(IntKind.u64.wrap (x7_1+2)))=true:=decide_eq_true c8;clear c8;obtain rfl:=ar H;go_wp2;go_ret;exact ⟨by first|rfl|(simp;done)|(simp only [←hji6]<;>(first|rfl|simp))|(simp [*];done),by repeat (first|exact av.refl _|apply av.step)⟩
      ·rw [if_neg c8] at H;have c8b0:decide ((IntKind.u64.wrap (a2 - a0))<(IntKind.u64.wrap (x7_1+2)))=false:=decide_eq_false c8;clear c8;have H':=aa H;clear H;go_wp2;go_roundg k1
       case measure=>have:=HK1.1;omega
       case rel=>exact ⟨(IntKind.u64.wrap (x7_1+1)),(by first|rfl|(simp;done)|(simp [*];done)),H',⟨by have:=HK1.1;omega⟩,by repeat (first|exact av.refl _|apply av.step)⟩
     ·rw [if_neg c7] at H;have c7b0:((Go.bits .and .u64 (ji6) 1) == 1)=false:=bi.mpr c7;have c7b1:((Go.bits .and .u64 (ji6) 1) != 1)=true:=mq.mpr c7;have H':=aa H;clear H;go_wp2;go_roundg k1
      case measure=>have:=HK1.1;omega
      case rel=>exact ⟨(IntKind.u64.wrap (x7_1+1)),(by first|rfl|(simp;done)|(simp [*];done)),H',⟨by have:=HK1.1;omega⟩,by repeat (first|exact av.refl _|apply av.step)⟩
    ·rw [if_neg c5] at H;exact absurd H (by simp)
   ·rw [if_neg c4] at H;have c4b0:decide (x7_1<64)=false:=decide_eq_false c4;clear c4;obtain rfl:=ar H;go_wp2;go_ret;exact ⟨by first|rfl|(simp;done)|(simp [*];done),by repeat (first|exact av.refl _|apply av.step)⟩
def gV.f (l0:List Int):Option (Bool):=if (l0.length:Int)=0 then (some true) else (some (decide ((l0.length:Int)>3072)))
theorem gV.calls (A0:Option Addr) (c0:Nat) (l0:List Int) (r:Bool) (w:World) (hr0:Kd.C (Kd.int .u8) w A0 l0.length l0) (hc0:l0.length≤c0) (h:gV.f l0=some r) :
 Calls Tryz.prog 138 #[.slice A0 l0.length c0] w fun e w'=>e = .returned (.bool r)∧av w w':=by
 have HR0:=aa hr0;have HC0:=aa hc0;clear hr0 hc0;have H:(if (l0.length:Int)=0 then (some true) else (some (decide ((l0.length:Int)>3072))))=some r:=h;clear h;by_cases c2:(l0.length:Int)=0
 ·rw [if_pos c2] at H;have c2b0:((l0.length:Int) == 0)=true:=gw.mpr c2;have c2b1:((l0.length:Int) != 0)=false:=ci.mpr c2;clear c2;obtain rfl:=ar H;go_in;go_wp2;go_ret;exact ⟨by first|rfl|(simp;done)|(simp [*];done),by repeat (first|exact av.refl _|apply av.step)⟩
 ·rw [if_neg c2] at H;have c2b0:((l0.length:Int) == 0)=false:=bi.mpr c2;have c2b1:((l0.length:Int) != 0)=true:=mq.mpr c2;have c2b2:¬(l0=[]):=fun h_=>c2 (by rw [h_];rfl);obtain rfl:=ar H;go_in;go_wp2;go_ret;exact ⟨by first|rfl|(simp;done)|(simp [*];done),by repeat (first|exact av.refl _|apply av.step)⟩
def dk.f (l0:List Int) (l1:List Int):Option (Bool):=some ((strOfNums l0).toList == (strOfNums l1).toList)
theorem dk.calls (A0:Option Addr) (c0:Nat) (l0:List Int) (A1:Option Addr) (c1:Nat) (l1:List Int) (r:Bool) (w:World) (hr0:Kd.C (Kd.int .u8) w A0 l0.length l0) (hc0:l0.length≤c0) (hr1:Kd.C (Kd.int .u8) w A1 l1.length l1) (hc1:l1.length≤c1) (h:dk.f l0 l1=some r) :
 Calls Tryz.prog 82 #[.slice A0 l0.length c0, .slice A1 l1.length c1] w fun e w'=>e = .returned (.bool r)∧av w w':=by
 have HR0:=aa hr0;have HC0:=aa hc0;clear hr0 hc0;have HR1:=aa hr1;have HC1:=aa hc1;clear hr1 hc1;have H:(some ((strOfNums l0).toList == (strOfNums l1).toList))=some r:=h;clear h;obtain rfl:=ar H;have hcv3:=Kd.cT (P:=Tryz.prog) (A:=A0) (c:=c0) Tryz.underlying32 Tryz.underlying5 Tryz.underlying9 HR0.1;have hcv3q:=fun (n_:Nat)=>Kd.cT (P:=Tryz.prog) (A:=A0) (c:=c0) Tryz.underlying32 Tryz.underlying5 Tryz.underlying9 (Kd.dZ HR0.1 n_);have hcv4:=Kd.cT (P:=Tryz.prog) (A:=A1) (c:=c1) Tryz.underlying32 Tryz.underlying5 Tryz.underlying9 HR1.1;have hcv4q:=fun (n_:Nat)=>Kd.cT (P:=Tryz.prog) (A:=A1) (c:=c1) Tryz.underlying32 Tryz.underlying5 Tryz.underlying9 (Kd.dZ HR1.1 n_);go_in;go_wp2;go_ret;exact ⟨by first|rfl|(simp;done)|(simp [*];done),by repeat (first|exact av.refl _|apply av.step)⟩
def bn.l0:Nat→Int→List Int→Option (List Int)
 | 0,_,_=>none
 | k+1,x0,x3=>if (IntKind.u64.wrap (Int.tdiv x0 128))=0 then (if x3.length<140737488355328 then (some (x3++[(Int.tmod x0 128) % 256])) else (none)) else (if x3.length<140737488355328 then (bn.l0 k (IntKind.u64.wrap (Int.tdiv x0 128)) (x3++[(128+(Int.tmod x0 128)) % 256])) else (none))
def bn.f (k:Nat) (a0:Int):Option (List Int):=bn.l0 k a0 ([]:List Int)
theorem bn.calls (k:Nat) (a0:Int) (r:List Int) (w:World) (h:bn.f k a0=some r) :
 Calls Tryz.prog 123 #[.int .u64 a0] w fun e w'=>∃v0_:Value,e = .returned (v0_)∧Kd.R (Kd.int .u8) 5 w' w.heap.size (fun _=>True) v0_ r∧Below w.heap.size w w':=by
 have HB:=aa (Below.refl w.heap.size w);have H:(bn.l0 k a0 ([]:List Int))=some r:=h;clear h;have H':=aa H;clear H;go_in;go_wp2;go_loopg [0,3] k (fun kq v0 v3 w'=>∃(x0_1:Int) (x3_1:List Int),v0 = .int .u64 x0_1∧af (bn.l0 kq x0_1 x3_1=some r)∧af (kq≤k)∧af (Kd.R (Kd.int .u8) 5 w' w.heap.size (fun _=>True) v3 x3_1)∧af (Below w.heap.size w w'))
 case atStart=>exact ⟨(a0),(([]:List Int)),(by first|rfl|(simp;done)|(simp [*];done)),H',⟨Nat.le_refl _⟩,⟨by first|exact Kd.cY _ _ _ _ _|exact Kd.sw _ _ _ _ _|exact Kd.sZ _ _ _ _ _|exact Kd.sD _ _ _ _ _|exact Kd.sV _ _ _ _ _⟩,⟨by repeat (first|(with_reducible first|exact HB.1|apply ah|apply ai|apply ay)|exact HB.1)⟩⟩
 case round=>
  clear H';try clear c1
  obtain ⟨x0_1,x3_1,rfl,HA,HK1,HO_3,HB⟩:=hrel;cases gk with
  | zero=>exact absurd HA.1 (by simp [bn.l0])
  | succ k1=>
   have H:=HA.1;clear HA;simp only [bn.l0] at H;by_cases c2:(IntKind.u64.wrap (Int.tdiv x0_1 128))=0
   ·rw [if_pos c2] at H;have c2b0:((IntKind.u64.wrap (Int.tdiv x0_1 128)) == 0)=true:=gw.mpr c2;have c2b1:((IntKind.u64.wrap (Int.tdiv x0_1 128)) != 0)=false:=ci.mpr c2;clear c2;by_cases c3:x3_1.length<140737488355328
    ·rw [if_pos c3] at H;have LMc3:=aa c3;clear c3;obtain ⟨y260,hy260⟩:∃y_:List Int,y_=(x3_1++[(Int.tmod x0_1 128) % 256]):=⟨_,rfl⟩;replace H:(some y260)=some r:=by first|(rw [hy260];with_reducible exact H)|(have H2_:=(aj _ _).symm.trans H;rw [hy260];with_reducible exact H2_)|(have H2_:=(aj _ _).symm.trans H;with_reducible exact H2_)|with_reducible exact H|(rw [hy260];exact H)|exact H
     have Ny260:=aa hy260;clear hy260;obtain rfl:=ar H;go_wp2_with (first|((with_reducible refine aM (b:= .append) (xs:=#[.tmp 12, .tmp 14]) rfl ?_);at_builtin;refine Kd.cG (Kd.int .u8) (w0:=w) w.heap.size rfl (.tmp 12) (.tmp 14) 32 5 (.int .u8 0) 1 rfl Tryz.underlying32 ff rfl (by decide) (by omega) u3 x3_1 ((Int.tmod x0_1 128) % 256) [.int .u8 ((Int.tmod x0_1 128) % 256)] (fun _=>True) (fun _=>False) rfl rfl ?aP (fun _ hk=>hk.elim) ?aF ?aO ?aB ?aS ?aL ?_;(case aP=>exact rfl);(case aB=>exact (by repeat (first|(with_reducible first|exact HB.1|apply ah|apply ai|apply ay)|exact HB.1)));(case aF=>exact (fun _ _=>trivial));(case aO=>exact (by (with_reducible repeat (first|apply Kd.cM|apply Kd.cQ|apply Kd.dc));exact HO_3.1));(case aS=>exact (cP (by repeat (first|(with_reducible first|exact HB.1|apply ah|apply ai|apply ay)|exact HB.1))));(case aL=>have:=LMc3.1;omega);intro v261 w4 ho hb hg hat;rw [←Ny260.1] at ho;have n0_:=aa (hb);have n1_:=aa (ho);clear HB;clear HO_3;have HB:=n0_;have HO262:=n1_;clear n0_ n1_;clear ho hb hg hat));go_ret;exact ⟨_,by first|rfl|(simp [bO,bN]<;>rfl)|(simp [*,bO,bN]<;>rfl),by (with_reducible repeat (first|apply Kd.cM|apply Kd.cQ|apply Kd.dc));exact HO262.1,by repeat (first|(with_reducible first|exact HB.1|apply ah|apply ai|apply ay)|exact HB.1)⟩
    ·rw [if_neg c3] at H;exact absurd H (by simp)
   ·rw [if_neg c2] at H;have c2b0:((IntKind.u64.wrap (Int.tdiv x0_1 128)) == 0)=false:=bi.mpr c2;have c2b1:((IntKind.u64.wrap (Int.tdiv x0_1 128)) != 0)=true:=mq.mpr c2;by_cases c5:x3_1.length<140737488355328
    ·rw [if_pos c5] at H;have LMc5:=aa c5;clear c5;obtain ⟨y263,hy263⟩:∃y_:List Int,y_=(x3_1++[(128+(Int.tmod x0_1 128)) % 256]):=⟨_,rfl⟩;replace H:(bn.l0 k1 (IntKind.u64.wrap (Int.tdiv x0_1 128)) y263)=some r:=by first|(rw [hy263];with_reducible exact H)|(have H2_:=(aj _ _).symm.trans H;rw [hy263];with_reducible exact H2_)|(have H2_:=(aj _ _).symm.trans H;with_reducible exact H2_)|with_reducible exact H|(rw [hy263];exact H)|exact H
     have Ny263:=aa hy263;clear hy263;have H':=aa H;clear H;go_wp2_with (first|((with_reducible refine aM (b:= .append) (xs:=#[.tmp 16, .tmp 19]) rfl ?_);at_builtin;refine Kd.cG (Kd.int .u8) (w0:=w) w.heap.size rfl (.tmp 16) (.tmp 19) 32 5 (.int .u8 0) 1 rfl Tryz.underlying32 ff rfl (by decide) (by omega) u3 x3_1 ((128+(Int.tmod x0_1 128)) % 256) [.int .u8 ((128+(Int.tmod x0_1 128)) % 256)] (fun _=>True) (fun _=>False) rfl rfl ?aP (fun _ hk=>hk.elim) ?aF ?aO ?aB ?aS ?aL ?_;(case aP=>exact rfl);(case aB=>exact (by repeat (first|(with_reducible first|exact HB.1|apply ah|apply ai|apply ay)|exact HB.1)));(case aF=>exact (fun _ _=>trivial));(case aO=>exact (by (with_reducible repeat (first|apply Kd.cM|apply Kd.cQ|apply Kd.dc));exact HO_3.1));(case aS=>exact (cP (by repeat (first|(with_reducible first|exact HB.1|apply ah|apply ai|apply ay)|exact HB.1))));(case aL=>have:=LMc5.1;omega);intro v264 w6 ho hb hg hat;rw [←Ny263.1] at ho;have n0_:=aa (hb);have n1_:=aa (ho);clear HB;clear HO_3;have HB:=n0_;have HO265:=n1_;clear n0_ n1_;clear ho hb hg hat));go_roundg k1
     case measure=>have:=HK1.1;omega
     case rel=>exact ⟨(IntKind.u64.wrap (Int.tdiv x0_1 128)),(y263),(by first|rfl|(simp;done)|(simp [*];done)),H',⟨by have:=HK1.1;omega⟩,⟨by (with_reducible repeat (first|apply Kd.cM|apply Kd.cQ|apply Kd.dc));exact HO265.1⟩,⟨by repeat (first|(with_reducible first|exact HB.1|apply ah|apply ai|apply ay)|exact HB.1)⟩⟩
    ·rw [if_neg c5] at H;exact absurd H (by simp)
def bD.l0:Nat→Int→List Int→Int→Option (List Int)
 | 0,_,_,_=>none
 | k+1,x0,x5,x6=>if x6≥0 then (if 0≤x6 then (if x6<(x5.length:Int) then (bD.l0 k (IntKind.u64.wrap (Int.tdiv x0 256)) (x5.set (x6:Int).toNat ((Int.tmod x0 256) % 256)) (wrap64 (x6 - 1))) else (none)) else (none)) else (some x5)
def bD.f (k:Nat) (a0:Int) (a1:Int):Option (List Int):=if 0≤a1 then (if (a1:Int).toNat≤281474976710656 then (bD.l0 k a0 (List.replicate (a1:Int).toNat 0) (wrap64 (a1 - 1))) else (none)) else (none)
theorem bD.calls (k:Nat) (a0:Int) (a1:Int) (r:List Int) (w:World) (h:bD.f k a0 a1=some r) :
 Calls Tryz.prog 197 #[.int .u64 a0, .int .i64 a1] w fun e w'=>∃v0_:Value,e = .returned (v0_)∧Kd.R (Kd.int .u8) 5 w' w.heap.size (fun _=>True) v0_ r∧Below w.heap.size w w':=by
 have HB:=aa (Below.refl w.heap.size w);have H:(if 0≤a1 then (if (a1:Int).toNat≤281474976710656 then (bD.l0 k a0 (List.replicate (a1:Int).toNat 0) (wrap64 (a1 - 1))) else (none)) else (none))=some r:=h;clear h;by_cases c3:0≤a1
 ·rw [if_pos c3] at H;have c3b0:=a8 c3;have c3b1:decide (0≤a1)=true:=decide_eq_true c3;clear c3;by_cases c4:(a1:Int).toNat≤281474976710656
  ·rw [if_pos c4] at H;have c4b0:=a8 c4;have c4b1:decide ((a1:Int).toNat≤281474976710656)=true:=decide_eq_true c4;clear c4;obtain ⟨y266,hy266⟩:∃y_:List Int,y_=(List.replicate (a1:Int).toNat 0):=⟨_,rfl⟩;replace H:(bD.l0 k a0 y266 (wrap64 (a1 - 1)))=some r:=by first|(rw [hy266];with_reducible exact H)|(have H2_:=(aj _ _).symm.trans H;rw [hy266];with_reducible exact H2_)|(have H2_:=(aj _ _).symm.trans H;with_reducible exact H2_)|with_reducible exact H|(rw [hy266];exact H)|exact H
   have Ny266:=aa hy266;clear hy266;have H':=aa H;clear H;go_in;go_wp2_with (first|((with_reducible refine az (N:=8) rfl ?_);refine Kd.vU (Kd.int .u8) _ 5 rfl (N:=8) rfl 32 _ _ rfl a1 rfl rfl Tryz.underlying32 (.int .u8 0) 1 ff rfl (by decide) (by omega) 0 (ok:=fun _=>True) (okp:=fun _=>True) rfl (fun _ hk=>hk) trivial (of_decide_eq_true (by first|(with_reducible assumption)|assumption)) (Nat.le_trans (Nat.mul_le_mul_right _ (of_decide_eq_true (by first|(with_reducible assumption)|assumption):a1.toNat≤281474976710656)) (by omega)) (Below.refl _ _) (Nat.le_refl _) ?_;intro v267 w5 ho6 hb hg_ hnew_;clear hg_ hnew_;(first|rw [←Ny266.1] at ho6|(simp only [Int.reduceToNat] at ho6;rw [←Ny266.1] at ho6));have n0_:=aa (Kd.cI ho6 (cP (by repeat (first|(with_reducible first|exact HB.1|apply ah|apply ai|apply ay)|exact HB.1))));have n1_:=aa (fO (by repeat (first|(with_reducible first|exact HB.1|apply ah|apply ai|apply ay)|exact HB.1)) hb);clear HB;have HO268:=n0_;have HB:=n1_;clear n0_ n1_;clear hb ho6));go_loopg [0,6] k (fun kq v0 v6 w'=>∃(x0_1:Int) (x5_1:List Int) (x6_1:Int),v0 = .int .u64 x0_1∧v6 = .int .i64 x6_1∧af (bD.l0 kq x0_1 x5_1 x6_1=some r)∧af (kq≤k)∧af (Kd.R (Kd.int .u8) 5 w' w.heap.size (fun _=>True) v267 x5_1)∧af (Below w.heap.size w w'))
   case atStart=>exact ⟨(a0),(y266),(wrap64 (a1 - 1)),(by first|rfl|(simp;done)|(simp [*];done)),(by first|rfl|(simp;done)|(simp [*];done)),H',⟨Nat.le_refl _⟩,⟨by (with_reducible repeat (first|apply Kd.cM|apply Kd.cQ|apply Kd.dc));exact HO268.1⟩,⟨by repeat (first|(with_reducible first|exact HB.1|apply ah|apply ai|apply ay)|exact HB.1)⟩⟩
   case round=>
    clear H';try clear c1
    try clear p2
    try clear c3
    try clear c3b0
    try clear c3b1
    try clear c4
    try clear c4b0
    try clear c4b1
    try clear p6
    obtain ⟨x0_1,x5_1,x6_1,rfl,rfl,HA,HK1,HO_5,HB⟩:=hrel;cases gk with
    | zero=>exact absurd HA.1 (by simp [bD.l0])
    | succ k1=>
     have H:=HA.1;clear HA;simp only [bD.l0] at H;by_cases c7:x6_1≥0
     ·rw [if_pos c7] at H;have c7b0:decide (0≤x6_1)=true:=decide_eq_true c7;clear c7;by_cases c8:0≤x6_1
      ·rw [if_pos c8] at H;have c8b0:decide (0≤x6_1)=true:=decide_eq_true c8;clear c8;by_cases c9:x6_1<(x5_1.length:Int)
       ·rw [if_pos c9] at H;have c9b0:decide (x6_1<(x5_1.length:Int))=true:=decide_eq_true c9;clear c9;obtain ⟨y269,hy269⟩:∃y_:List Int,y_=(x5_1.set (x6_1:Int).toNat ((Int.tmod x0_1 256) % 256)):=⟨_,rfl⟩;replace H:(bD.l0 k1 (IntKind.u64.wrap (Int.tdiv x0_1 256)) y269 (wrap64 (x6_1 - 1)))=some r:=by first|(rw [hy269];with_reducible exact H)|(have H2_:=(aj _ _).symm.trans H;rw [hy269];with_reducible exact H2_)|(have H2_:=(aj _ _).symm.trans H;with_reducible exact H2_)|with_reducible exact H|(rw [hy269];exact H)|exact H
        have Ny269:=aa hy269;clear hy269;have H':=aa H;clear H;have p10:0≤(x6_1:Int):=of_decide_eq_true (by first|(with_reducible assumption)|assumption);have q10:(x6_1:Int)<((x5_1.length:Int):Int):=of_decide_eq_true (by first|(with_reducible assumption)|assumption);obtain ⟨go10,co10,eo10,gb10,gl10,cl10,HG10⟩:=Kd.AZ HO_5.1 (by omega);(first|cases eo10|(injection eo10 with ea_ en_ ec_;(first|subst ea_|(injection ea_ with ea_;subst ea_));subst ec_;clear en_));have GB10:=aa gb10;have GG10:=aa HG10;clear gb10 gl10 HG10;obtain ⟨hx10_0,hf10_0⟩:=Kd.xu 0 HO_5.1 (x6_1:Int) p10 q10;replace p10:=a8 p10;replace q10:=a8 q10;have HP11:=Kd.AY HO_5.1 (x6_1:Int) ((Int.tmod x0_1 256) % 256);go_wp2_with (first|((with_reducible refine fq (t:=5) (p:=20) rfl ?_);refine pS (t:=5) (p:=20) (v:=?vo_w12) (w1:=(wr.setCell ⟨go10,(x6_1:Int).toNat,none⟩ (.int .u8 ((Int.tmod x0_1 256) % 256)))) ?hg ?ho ?hn ?hr ?_;(case ho=>rfl);(case hg=>rfl);(case hn=>rfl);(case hr=>first|(go_simp;done)|(go_simp;rfl));intro w12 hw;have hg:wr.grownBy w12 (some go10):=(by rw [hw];exact HP11.2);have hp_:Kd.R (Kd.int .u8) 5 w12 w.heap.size (fun _=>True) (.slice (some ⟨go10,0,none⟩) x5_1.length co10) y269:=(by rw [hw,Ny269.1];exact HP11.1);clear HP11;have n0_:=aa (hp_);have n1_:=aa ((by rw [hw];exact kR (HB.1) GB10.1:Below w.heap.size w w12));clear HO_5;clear HB;have HO_5:=n0_;have HB:=n1_;clear n0_ n1_;clear hg hw hp_));go_roundg k1
        case measure=>have:=HK1.1;omega
        case rel=>exact ⟨(IntKind.u64.wrap (Int.tdiv x0_1 256)),(y269),(wrap64 (x6_1 - 1)),(by first|rfl|(simp;done)|(simp [*];done)),(by first|rfl|(simp;done)|(simp [*];done)),H',⟨by have:=HK1.1;omega⟩,⟨by (with_reducible repeat (first|apply Kd.cM|apply Kd.cQ|apply Kd.dc));exact HO_5.1⟩,⟨by repeat (first|(with_reducible first|exact HB.1|apply ah|apply ai|apply ay)|exact HB.1)⟩⟩
       ·rw [if_neg c9] at H;exact absurd H (by simp)
      ·rw [if_neg c8] at H;exact absurd H (by simp)
     ·rw [if_neg c7] at H;have c7b0:decide (0≤x6_1)=false:=decide_eq_false c7;clear c7;obtain rfl:=ar H;go_wp2;go_ret;exact ⟨_,by first|rfl|(simp [bO,bN]<;>rfl)|(simp [*,bO,bN]<;>rfl),by (with_reducible repeat (first|apply Kd.cM|apply Kd.cQ|apply Kd.dc));exact HO_5.1,by repeat (first|(with_reducible first|exact HB.1|apply ah|apply ai|apply ay)|exact HB.1)⟩
  ·rw [if_neg c4] at H;exact absurd H (by simp)
 ·rw [if_neg c3] at H;exact absurd H (by simp)
end Go.Proofs.YtpekmdpbfjdjkaaGreat.aD