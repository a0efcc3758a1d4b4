/- Part 4 of the proof that reading bytes answers as the document does. No condition. -/
import Derived.Test.YtpekmdpbfjdjkaaGreatY3
set_option maxHeartbeats 16000000
set_option maxRecDepth 100000
set_option linter.all false
namespace Go.Proofs.YtpekmdpbfjdjkaaGreat.aD
open Go.RowKit ag.ax ag.aV ag.aU
def Cb:Option Int→Value
 | none=> .nilIface
 | some c=> .iface 0 (.int .i64 c)
theorem bO:Cb none = .nilIface:=rfl
theorem bN (c:Int):Cb (some c) = .iface 0 (.int .i64 c):=rfl
theorem ff:(Tryz.prog.info? 5).map (fun i=>(i.zero,i.size,i.bytes))=some (some (.int .u8 0),1,1):=by kernel_rfl
theorem sd:(Tryz.prog.info? 32).map (fun i=>(i.zero,i.size,i.bytes))=some (some (.slice none 0 0),1,24):=by kernel_rfl
theorem lE:(Tryz.prog.info? 59).map (fun i=>(i.zero,i.size,i.bytes))=some (some (.agg #[(.int .u64 0),(.slice none 0 0)]),2,32):=by kernel_rfl
theorem mr:(Tryz.prog.info? 62).map (fun i=>(i.zero,i.size,i.bytes))=some (some (.agg #[(.int .u8 0),(.int .u64 0),(.int .u8 0)]),3,24):=by kernel_rfl
theorem rh:(Tryz.prog.info? 68).map (fun i=>(i.zero,i.size,i.bytes))=some (some (.agg #[(.int .u64 0),(.int .u64 0),(.slice none 0 0),(.int .u64 0),(.int .u64 0),(.slice none 0 0)]),6,80):=by kernel_rfl
theorem nF:(Tryz.prog.info? 76).map (fun i=>(i.zero,i.size,i.bytes))=some (some (.agg #[(.int .u64 0),(.int .u64 0),(.int .u8 0)]),3,24):=by kernel_rfl
theorem sa:(Tryz.prog.info? 99).map (fun i=>(i.zero,i.size,i.bytes))=some (some (.agg #[(.int .u64 0),(.slice none 0 0)]),2,32):=by kernel_rfl
def iL (xs:List (List Int)) (i:Int):(List Int):=xs.getD i.toNat ([]:List Int)
theorem sY {w:World} {A:Option Addr} {n:Nat} {xs:List (List Int)} (h:Kd.C (Kd.slice 5 (Kd.int .u8)) w A n xs) (i:Int) (h0:0≤i) (h1:i<n):∃ad A0 c0,A=some ad∧w.cell? (ad.add i.toNat)=some (.slice A0 (iL xs i).length c0)∧(iL xs i).length≤c0∧(Kd.int .u8).C w A0 (iL xs i).length (iL xs i):=by
 obtain ⟨ad,c,e,_,hK,hc0⟩:=Kd.fw h ([]:List Int) i h0 h1;have hc:∀j u,c[j]? = some u→w.cell? (ad.add (i.toNat*1+j))=some u:=hc0;obtain ⟨A0,c0,rfl,l0,g0⟩:=hK;exact ⟨ad,A0,c0,e,by have hq:=hc 0 _ rfl;rwa [Nat.mul_one,Nat.add_zero] at hq,l0,g0⟩
structure iA where
 f0:Int
 f1:(List Int)
def z59:iA:=⟨(0:Int),([]:List Int)⟩
def Ee:Kd iA:=Kd.Ah (Kd.pair (Kd.int .u64) (Kd.slice 5 (Kd.int .u8))) (fun x:iA=>(x.f0,x.f1))
theorem uZ {w:World} {x:iA} {cs:List Value} (h:Ee.K w x cs):∃A1 c1,cs=[.int .u64 x.f0, .slice A1 x.f1.length c1]∧x.f1.length≤c1∧(Kd.int .u8).C w A1 x.f1.length x.f1:=by
 obtain ⟨_,_,rfl,rfl,⟨A1,c1,rfl,l1,g1⟩⟩:=h;exact ⟨A1,c1,rfl,l1,g1⟩
theorem kT (w:World) (base:Nat) (ok:Nat→Prop) (x:iA) {v1:Value} (g1:(Kd.int .u8).R 5 w base ok v1 x.f1):Ee.M w base ok x [.int .u64 x.f0,v1]:=⟨[.int .u64 x.f0],[v1],rfl,rfl,⟨v1,rfl,g1⟩⟩
def cF (xs:List iA) (i:Int):iA:=xs.getD i.toNat z59
theorem iG {w:World} {A:Option Addr} {n:Nat} {xs:List iA} (h:Kd.C Ee w A n xs) (i:Int) (h0:0≤i) (h1:i<n):∃ad A1 c1,A=some ad∧w.cell? (ad.add (i.toNat*2))=some (.int .u64 (cF xs i).f0)∧w.cell? ⟨(ad.add (i.toNat*2)).block,(ad.add (i.toNat*2)).off+1,none⟩=some (.slice A1 (cF xs i).f1.length c1)∧(cF xs i).f1.length≤c1∧(Kd.int .u8).C w A1 (cF xs i).f1.length (cF xs i).f1:=by
 obtain ⟨ad,c,e,_,hK,hc0⟩:=Kd.fw h z59 i h0 h1;have hc:∀j u,c[j]? = some u→w.cell? (ad.add (i.toNat*2+j))=some u:=hc0;obtain ⟨A1,c1,rfl,l1,g1⟩:=uZ hK;exact ⟨ad,A1,c1,e,hc 0 _ rfl,by rw [←dw _ _ 1 (by omega)];exact hc 1 _ rfl,l1,g1⟩
structure jE where
 f0:Int
 f1:(List Int)
def sI:jE:=⟨(0:Int),([]:List Int)⟩
def jC:Kd jE:=Kd.Ah (Kd.pair (Kd.int .u64) (Kd.slice 5 (Kd.int .u8))) (fun x:jE=>(x.f0,x.f1))
theorem gn {w:World} {x:jE} {cs:List Value} (h:jC.K w x cs):∃A1 c1,cs=[.int .u64 x.f0, .slice A1 x.f1.length c1]∧x.f1.length≤c1∧(Kd.int .u8).C w A1 x.f1.length x.f1:=by
 obtain ⟨_,_,rfl,rfl,⟨A1,c1,rfl,l1,g1⟩⟩:=h;exact ⟨A1,c1,rfl,l1,g1⟩
theorem oW (w:World) (base:Nat) (ok:Nat→Prop) (x:jE) {v1:Value} (g1:(Kd.int .u8).R 5 w base ok v1 x.f1):jC.M w base ok x [.int .u64 x.f0,v1]:=⟨[.int .u64 x.f0],[v1],rfl,rfl,⟨v1,rfl,g1⟩⟩
def dG (xs:List jE) (i:Int):jE:=xs.getD i.toNat sI
theorem jB {w:World} {A:Option Addr} {n:Nat} {xs:List jE} (h:Kd.C jC w A n xs) (i:Int) (h0:0≤i) (h1:i<n):∃ad A1 c1,A=some ad∧w.cell? (ad.add (i.toNat*2))=some (.int .u64 (dG xs i).f0)∧w.cell? ⟨(ad.add (i.toNat*2)).block,(ad.add (i.toNat*2)).off+1,none⟩=some (.slice A1 (dG xs i).f1.length c1)∧(dG xs i).f1.length≤c1∧(Kd.int .u8).C w A1 (dG xs i).f1.length (dG xs i).f1:=by
 obtain ⟨ad,c,e,_,hK,hc0⟩:=Kd.fw h sI i h0 h1;have hc:∀j u,c[j]? = some u→w.cell? (ad.add (i.toNat*2+j))=some u:=hc0;obtain ⟨A1,c1,rfl,l1,g1⟩:=gn hK;exact ⟨ad,A1,c1,e,hc 0 _ rfl,by rw [←dw _ _ 1 (by omega)];exact hc 1 _ rfl,l1,g1⟩
structure gX where
 f0:Int
 f1:Int
 f2:(List (List Int))
 f3:Int
 f4:Int
 f5:(List jE)
def BG:gX:=⟨(0:Int),(0:Int),([]:List (List Int)),(0:Int),(0:Int),([]:List jE)⟩
def ld:Kd gX:=Kd.Ah (Kd.pair (Kd.int .u64) (Kd.pair (Kd.int .u64) (Kd.pair (Kd.slice 32 (Kd.slice 5 (Kd.int .u8))) (Kd.pair (Kd.int .u64) (Kd.pair (Kd.int .u64) (Kd.slice 99 jC)))))) (fun x:gX=>(x.f0,x.f1,x.f2,x.f3,x.f4,x.f5))
theorem uP {w:World} {x:gX} {cs:List Value} (h:ld.K w x cs):∃A2 c2 A5 c5,cs=[.int .u64 x.f0, .int .u64 x.f1, .slice A2 x.f2.length c2, .int .u64 x.f3, .int .u64 x.f4, .slice A5 x.f5.length c5]∧x.f2.length≤c2∧(Kd.slice 5 (Kd.int .u8)).C w A2 x.f2.length x.f2∧x.f5.length≤c5∧jC.C w A5 x.f5.length x.f5:=by
 obtain ⟨_,_,rfl,rfl,⟨_,_,rfl,rfl,⟨_,_,rfl,⟨A2,c2,rfl,l2,g2⟩,⟨_,_,rfl,rfl,⟨_,_,rfl,rfl,⟨A5,c5,rfl,l5,g5⟩⟩⟩⟩⟩⟩:=h;exact ⟨A2,c2,A5,c5,rfl,l2,g2,l5,g5⟩
theorem oU (w:World) (base:Nat) (ok:Nat→Prop) (x:gX) {v2:Value} (g2:(Kd.slice 5 (Kd.int .u8)).R 32 w base ok v2 x.f2) {v5:Value} (g5:jC.R 99 w base ok v5 x.f5):ld.M w base ok x [.int .u64 x.f0, .int .u64 x.f1,v2, .int .u64 x.f3, .int .u64 x.f4,v5]:=⟨[.int .u64 x.f0],[.int .u64 x.f1,v2, .int .u64 x.f3, .int .u64 x.f4,v5],rfl,rfl,⟨[.int .u64 x.f1],[v2, .int .u64 x.f3, .int .u64 x.f4,v5],rfl,rfl,⟨[v2],[.int .u64 x.f3, .int .u64 x.f4,v5],rfl,⟨v2,rfl,g2⟩,⟨[.int .u64 x.f3],[.int .u64 x.f4,v5],rfl,rfl,⟨[.int .u64 x.f4],[v5],rfl,rfl,⟨v5,rfl,g5⟩⟩⟩⟩⟩⟩
def cN (xs:List gX) (i:Int):gX:=xs.getD i.toNat BG
theorem jY {w:World} {A:Option Addr} {n:Nat} {xs:List gX} (h:Kd.C ld w A n xs) (i:Int) (h0:0≤i) (h1:i<n):∃ad A2 c2 A5 c5,A=some ad∧w.cell? (ad.add (i.toNat*6))=some (.int .u64 (cN xs i).f0)∧w.cell? ⟨(ad.add (i.toNat*6)).block,(ad.add (i.toNat*6)).off+1,none⟩=some (.int .u64 (cN xs i).f1)∧w.cell? ⟨(ad.add (i.toNat*6)).block,(ad.add (i.toNat*6)).off+2,none⟩=some (.slice A2 (cN xs i).f2.length c2)∧w.cell? ⟨(ad.add (i.toNat*6)).block,(ad.add (i.toNat*6)).off+3,none⟩=some (.int .u64 (cN xs i).f3)∧w.cell? ⟨(ad.add (i.toNat*6)).block,(ad.add (i.toNat*6)).off+4,none⟩=some (.int .u64 (cN xs i).f4)∧w.cell? ⟨(ad.add (i.toNat*6)).block,(ad.add (i.toNat*6)).off+5,none⟩=some (.slice A5 (cN xs i).f5.length c5)∧(cN xs i).f2.length≤c2∧(Kd.slice 5 (Kd.int .u8)).C w A2 (cN xs i).f2.length (cN xs i).f2∧(cN xs i).f5.length≤c5∧jC.C w A5 (cN xs i).f5.length (cN xs i).f5:=by
 obtain ⟨ad,c,e,_,hK,hc0⟩:=Kd.fw h BG i h0 h1;have hc:∀j u,c[j]? = some u→w.cell? (ad.add (i.toNat*6+j))=some u:=hc0;obtain ⟨A2,c2,A5,c5,rfl,l2,g2,l5,g5⟩:=uP hK;exact ⟨ad,A2,c2,A5,c5,e,hc 0 _ rfl,by rw [←dw _ _ 1 (by omega)];exact hc 1 _ rfl,by rw [←dw _ _ 2 (by omega)];exact hc 2 _ rfl,by rw [←dw _ _ 3 (by omega)];exact hc 3 _ rfl,by rw [←dw _ _ 4 (by omega)];exact hc 4 _ rfl,by rw [←dw _ _ 5 (by omega)];exact hc 5 _ rfl,l2,g2,l5,g5⟩
structure eW where
 f0:Int
 f1:Int
 f2:Int
def z76:eW:=⟨(0:Int),(0:Int),(0:Int)⟩
def jo:Kd eW:=Kd.Ah (Kd.pair (Kd.int .u64) (Kd.pair (Kd.int .u64) (Kd.int .u8))) (fun x:eW=>(x.f0,x.f1,x.f2))
theorem vm {w:World} {x:eW} {cs:List Value} (h:jo.K w x cs):cs=[.int .u64 x.f0, .int .u64 x.f1, .int .u8 x.f2]:=by
 obtain ⟨_,_,rfl,rfl,⟨_,_,rfl,rfl,rfl⟩⟩:=h;exact rfl
theorem nk (w:World) (base:Nat) (ok:Nat→Prop) (x:eW):jo.M w base ok x [.int .u64 x.f0, .int .u64 x.f1, .int .u8 x.f2]:=⟨[.int .u64 x.f0],[.int .u64 x.f1, .int .u8 x.f2],rfl,rfl,⟨[.int .u64 x.f1],[.int .u8 x.f2],rfl,rfl,rfl⟩⟩
def bg (xs:List eW) (i:Int):eW:=xs.getD i.toNat z76
theorem gd {w:World} {A:Option Addr} {n:Nat} {xs:List eW} (h:Kd.C jo w A n xs) (i:Int) (h0:0≤i) (h1:i<n):∃ad,A=some ad∧w.cell? (ad.add (i.toNat*3))=some (.int .u64 (bg xs i).f0)∧w.cell? ⟨(ad.add (i.toNat*3)).block,(ad.add (i.toNat*3)).off+1,none⟩=some (.int .u64 (bg xs i).f1)∧w.cell? ⟨(ad.add (i.toNat*3)).block,(ad.add (i.toNat*3)).off+2,none⟩=some (.int .u8 (bg xs i).f2):=by
 obtain ⟨ad,c,e,_,hK,hc0⟩:=Kd.fw h z76 i h0 h1;have hc:∀j u,c[j]? = some u→w.cell? (ad.add (i.toNat*3+j))=some u:=hc0;obtain rfl:=vm hK;exact ⟨ad,e,hc 0 _ rfl,by rw [←dw _ _ 1 (by omega)];exact hc 1 _ rfl,by rw [←dw _ _ 2 (by omega)];exact hc 2 _ rfl⟩
structure jx where
 f0:Int
 f1:Int
 f2:Int
def Du:jx:=⟨(0:Int),(0:Int),(0:Int)⟩
def mg:Kd jx:=Kd.Ah (Kd.pair (Kd.int .u8) (Kd.pair (Kd.int .u64) (Kd.int .u8))) (fun x:jx=>(x.f0,x.f1,x.f2))
theorem Fm {w:World} {x:jx} {cs:List Value} (h:mg.K w x cs):cs=[.int .u8 x.f0, .int .u64 x.f1, .int .u8 x.f2]:=by
 obtain ⟨_,_,rfl,rfl,⟨_,_,rfl,rfl,rfl⟩⟩:=h;exact rfl
theorem mX (w:World) (base:Nat) (ok:Nat→Prop) (x:jx):mg.M w base ok x [.int .u8 x.f0, .int .u64 x.f1, .int .u8 x.f2]:=⟨[.int .u8 x.f0],[.int .u64 x.f1, .int .u8 x.f2],rfl,rfl,⟨[.int .u64 x.f1],[.int .u8 x.f2],rfl,rfl,rfl⟩⟩
def bW (xs:List jx) (i:Int):jx:=xs.getD i.toNat Du
theorem iF {w:World} {A:Option Addr} {n:Nat} {xs:List jx} (h:Kd.C mg w A n xs) (i:Int) (h0:0≤i) (h1:i<n):∃ad,A=some ad∧w.cell? (ad.add (i.toNat*3))=some (.int .u8 (bW xs i).f0)∧w.cell? ⟨(ad.add (i.toNat*3)).block,(ad.add (i.toNat*3)).off+1,none⟩=some (.int .u64 (bW xs i).f1)∧w.cell? ⟨(ad.add (i.toNat*3)).block,(ad.add (i.toNat*3)).off+2,none⟩=some (.int .u8 (bW xs i).f2):=by
 obtain ⟨ad,c,e,_,hK,hc0⟩:=Kd.fw h Du i h0 h1;have hc:∀j u,c[j]? = some u→w.cell? (ad.add (i.toNat*3+j))=some u:=hc0;obtain rfl:=Fm hK;exact ⟨ad,e,hc 0 _ rfl,by rw [←dw _ _ 1 (by omega)];exact hc 1 _ rfl,by rw [←dw _ _ 2 (by omega)];exact hc 2 _ rfl⟩
end Go.Proofs.YtpekmdpbfjdjkaaGreat.aD
namespace Go.Proofs.YtpekmdpbfjdjkaaGreat.plain
def bu (x:Nat):List Int:=if h:x<128 then [(x:Int)] else ((x % 128+128:Nat):Int)::bu (x / 128)
termination_by x
decreasing_by omega
theorem fz {x:Nat} (h:x<128):bu x=[(x:Int)]:=by rw [bu,dif_pos h]
theorem iV {x:Nat} (h:¬x<128):bu x=((x % 128+128:Nat):Int)::bu (x / 128):=by rw [bu,dif_neg h]
theorem jl (x n:Nat) (h:x<128 ^ (n+1)):(bu x).length≤n+1:=by
 induction n generalizing x with
 | zero=>rw [fz (by simpa using h)];simp
 | succ n ih=>
  by_cases hs:x<128
  ·rw [fz hs];simp
  ·rw [iV hs,List.length_cons];have:=ih (x / 128) (by rw [gQ (by omega)];rw [eK] at h;omega);omega
theorem dR (x:Nat) (h:x<18446744073709551616):(bu x).length≤10:=jl x 9 (Nat.lt_of_lt_of_le h (by decide))
theorem pr (x:Nat):0<(bu x).length:=by rw [bu];split<;>simp
theorem s8 (x:Nat):∀b∈bu x,0≤b∧b≤255:=by
 induction x using Nat.strongRecOn with
 | _ x ih=>
  by_cases hs:x<128
  ·rw [fz hs];intro b hb;rw [List.mem_singleton] at hb;subst hb;omega
  ·rw [iV hs];intro b hb;rcases List.mem_cons.1 hb with rfl|hb
   ·omega
   ·exact ih (x / 128) (by omega) b hb
theorem tv (mask d:Nat) (hm:mask<2 ^ 64):(∃i,i<64∧mask.testBit i=true∧d<i+2)↔(mask≠0∧d<Nat.log2 mask+2):=by
 constructor
 ·rintro ⟨i,hi,hb,hd⟩;have h0:mask≠0:=by rintro rfl;simp at hb
  refine ⟨h0,?_⟩;have h1:=Nat.ge_two_pow_of_testBit hb;have h2:i≤Nat.log2 mask:=(Nat.le_log2 h0).2 h1;omega
 ·rintro ⟨h0,hd⟩;refine ⟨Nat.log2 mask,?_,?_,hd⟩
  ·exact (Nat.log2_lt h0).2 hm
  ·exact Nat.testBit_log2 h0
def un:Nat→Int→List Int→Option (Int × Nat)
 | _,_,[]=>none
 | i,acc,c::t=>if i=9∧1<c then none else if c<128 then (if c=0∧0<i then none else some (acc+c*128 ^ i,i+1)) else un (i+1) (acc+(c - 128)*128 ^ i) t
theorem CA (y:Nat):∀(i:Nat) (acc:Int) (rest:List Int),i≤9→(0<i→0<y)→y*128 ^ i<2 ^ 64→un i acc (bu y++rest)=some (acc+(y:Int)*128 ^ i,i+(bu y).length):=by
 induction y using Nat.strongRecOn with
 | _ y ih=>
  intro i acc rest hi hp hs;by_cases hy:y<128
  ·have h9:¬(i=9∧1<(y:Int)):=by
    rintro ⟨rfl,h⟩;have:2*128 ^ 9≤y*128 ^ 9:=Nat.mul_le_mul_right _ (by omega);omega
   rw [fz hy,List.singleton_append,un,if_neg h9,if_pos (by omega),if_neg (by omega)];rfl
  ·have h9:i≠9:=by
    rintro rfl;have:128*128 ^ 9≤y*128 ^ 9:=Nat.mul_le_mul_right _ (by omega);omega
   have hq:y / 128*128 ^ (i+1)<2 ^ 64:=by
    refine iX ?_ hs;rw [eK,ek (128 ^ i) 128,←Nat.mul_assoc];exact Nat.mul_le_mul_right _ (by omega)
   rw [iV hy,List.cons_append,un,if_neg (by omega),if_neg (by omega),ih (y / 128) (by omega) (i+1) _ rest (by omega) (fun _=>by omega) hq];congr 2
   ·have e:(y:Int)=(y % 128:Nat)+128*(y / 128:Nat):=by omega
    rw [show ((y % 128+128:Nat):Int) - 128=((y % 128:Nat):Int) by omega,jr,Ex];congr 1;rw [mV (128 ^ i) 128,←pN,←Eu];congr 1;omega
   ·rw [List.length_cons];omega
theorem yn (b:List Int):∀(i:Nat) (acc x:Int) (n:Nat),i≤9→(∀c∈b,0≤c∧c≤255)→un i acc b=some (x,n)→∃(y:Nat) (rest:List Int),x=acc+(y:Int)*128 ^ i∧n=i+(bu y).length∧b=bu y++rest∧(0<i→0<y)∧y*128 ^ i<2 ^ 64:=by
 induction b with
 | nil=>intro i acc x n _ _ h;simp [un] at h
 | cons c t ih=>
  intro i acc x n hi hb h;have hc:=hb c List.mem_cons_self;rw [un] at h;by_cases h9:i=9∧1<c
  ·rw [if_pos h9] at h;cases h
  rw [if_neg h9] at h;by_cases hs:c<128
  ·rw [if_pos hs] at h;by_cases hp:c=0∧0<i
   ·rw [if_pos hp] at h;cases h
   rw [if_neg hp] at h;obtain ⟨rfl,rfl⟩:=by simpa using h
   refine ⟨c.toNat,t,by rw [show (c.toNat:Int)=c by omega],by rw [fz (by omega)];rfl,by rw [fz (by omega),show (c.toNat:Int)=c by omega];rfl,fun h0=>by omega,?_⟩;by_cases e9:i=9
   ·subst e9;have:c.toNat*128 ^ 9≤1*128 ^ 9:=Nat.mul_le_mul_right _ (by omega);omega
   ·have h1:c.toNat*128 ^ i≤127*128 ^ i:=Nat.mul_le_mul_right _ (by omega);have h2:128 ^ i≤128 ^ 8:=cK (by omega) (by omega);omega
  ·rw [if_neg hs] at h;obtain ⟨y,rest,rfl,rfl,rfl,hp,hy⟩:=ih (i+1) _ x n (by omega) (fun d hd=>hb d (List.mem_cons_of_mem _ hd)) h;have hc1:1<c:=by omega
   have hy0:=hp (by omega);have ec:(((c - 128).toNat:Nat):Int)=c - 128:=by omega
   have hd:((c - 128).toNat+128*y) / 128=y:=by omega
   have hm:((c - 128).toNat+128*y) % 128=(c - 128).toNat:=by omega
   have hn:¬(c - 128).toNat+128*y<128:=by omega
   refine ⟨(c - 128).toNat+128*y,rest,?_,?_,?_,fun _=>by omega,?_⟩
   ·rw [jr,Ex];congr 1;rw [mV (128 ^ i) 128,←pN,←Eu];congr 1;omega
   ·rw [iV hn,List.length_cons,hd];omega
   ·rw [iV hn,hd,hm,List.cons_append];congr 1;omega
   ·have h1:((c - 128).toNat+128*y)*128 ^ i=(c - 128).toNat*128 ^ i+y*128 ^ (i+1):=by rw [j6,eK,ek 128 y,Nat.mul_assoc,ek 128 (128 ^ i)]
    have h2:(c - 128).toNat*128 ^ i<128*128 ^ i:=Nat.mul_lt_mul_of_pos_right (by omega) (Nat.pow_pos (by omega));have h3:∃q,2 ^ 64=q*128 ^ (i+1)∨i=8∨i=9:=⟨2 ^ (64 - 7*(i+1)),by
     by_cases h8:i≤7
     ·left;rw [show (128:Nat)=2 ^ 7 by rfl,←Nat.pow_mul,←Nat.pow_add];congr 1;omega
     ·right;omega⟩
    obtain ⟨q,hq⟩:=h3;rw [h1];have e1:128*128 ^ i=128 ^ (i+1):=by rw [eK,ek]
    rw [e1] at h2;rcases hq with hq|rfl|rfl
    ·rw [hq] at hy ⊢;have hyq:y<q:=Nat.lt_of_mul_lt_mul_right hy;have:(y+1)*128 ^ (i+1)≤q*128 ^ (i+1):=Nat.mul_le_mul_right _ hyq;rw [j6] at this;omega
    ·have e8:(128:Nat) ^ (8+1)=9223372036854775808:=by decide
     have e64:(2:Nat) ^ 64=18446744073709551616:=by decide
     have e7:(128:Nat) ^ 8=72057594037927936:=by decide
     rw [e8,e64] at hy ⊢;rw [e7];clear h1 h2 e1 hm hd hn ec h hp hc1;have e9:y≤1:=by
      rcases dg 1 y with hy1|hy1
      ·exact absurd (Nat.mul_le_mul_right 9223372036854775808 hy1) (Nat.not_le.2 hy)
      ·exact hy1
     have hb2:(c - 128).toNat≤127:=by omega
     have hb3:(c - 128).toNat*72057594037927936≤127*72057594037927936:=Nat.mul_le_mul_right _ hb2;have hb4:y*9223372036854775808≤1*9223372036854775808:=Nat.mul_le_mul_right _ e9;exact iX (Nat.add_le_add hb3 hb4) (by decide)
    ·exfalso;exact h9 ⟨rfl,hc1⟩
theorem vM (b:List Int) (hb:∀c∈b,0≤c∧c≤255) (x:Int) (n:Nat):un 0 0 b=some (x,n)↔∃(y:Nat) (rest:List Int),x=y∧n=(bu y).length∧b=bu y++rest∧y<2 ^ 64:=by
 constructor
 ·intro h;obtain ⟨y,rest,h1,h2,h3, -,h5⟩:=yn b 0 0 x n (by omega) hb h;exact ⟨y,rest,by simpa using h1,by simpa using h2,h3,by simpa using h5⟩
 ·rintro ⟨y,rest,rfl,rfl,rfl,hy⟩;have:=CA y 0 0 rest (by omega) (fun h=>by omega) (by simpa using hy);simpa using this
def be:Nat→Nat→List Int
 | 0,_=>[]
 | n+1,x=>((x / 256 ^ n % 256:Nat):Int)::be n x
theorem ia (n x:Nat):(be n x).length=n:=by
 induction n with
 | zero=>rfl
 | succ n ih=>rw [be,List.length_cons,ih]
theorem lY (n x:Nat):∀b∈be n x,0≤b∧b≤255:=by
 induction n with
 | zero=>intro b hb;simp [be] at hb
 | succ n ih=>
  intro b hb;rw [be] at hb;rcases List.mem_cons.1 hb with rfl|hb
  ·omega
  ·exact ih b hb
def val (l:List Int):Int:=l.foldl (fun a c=>a*256+c) 0
theorem qg (l:List Int) (c:Int):val (l++[c])=val l*256+c:=by rw [val,List.foldl_append];rfl
theorem vo (l:List Int):∀a:Int,l.foldl (fun a c=>a*256+c) a=a*256 ^ l.length+val l:=by
 induction l with
 | nil=>intro a;simp [val]
 | cons c l ih=>
  intro a;have e:val (c::l)=(0*256+c)*256 ^ l.length+val l:=by rw [val,dD,ih]
  rw [dD,ih,List.length_cons,e,jr,Eu,sj,Int.zero_add,mV (256 ^ l.length) 256,←pN,Ex]
theorem nH (c:Int) (l:List Int):val (c::l)=c*256 ^ l.length+val l:=by
 rw [val,dD,vo];simp only [sj,Int.zero_add]
theorem qU (n x:Nat):val (be n x)=((x % 256 ^ n:Nat):Int):=by
 induction n with
 | zero=>simp [be,val,Nat.mod_one]
 | succ n ih=>
  rw [be,nH,ia,ih,eK,Nat.mod_mul,Int.natCast_add,Int.natCast_mul,Int.natCast_pow,mV,Int.add_comm];rfl
theorem i7 (l:List Int) (h:∀c∈l,0≤c∧c≤255):0≤val l∧val l<256 ^ l.length:=by
 induction l with
 | nil=>simp [val]
 | cons c l ih=>
  obtain ⟨h1,h2⟩:=ih (fun d hd=>h d (List.mem_cons_of_mem _ hd));have hc:=h c List.mem_cons_self;rw [nH,List.length_cons,jr];have hp:(0:Int)<256 ^ l.length:=by have:=h1;omega
  have h3:0≤c*256 ^ l.length:=og hc.1 (iq hp);have h4:c*256 ^ l.length≤255*256 ^ l.length:=dL hc.2 (iq hp);omega
theorem AX (l:List Int) (h:∀c∈l,0≤c∧c≤255):be l.length (val l).toNat=l:=by
 have key:∀(l:List Int) (k:Nat),(∀c∈l,0≤c∧c≤255)→be l.length (k*256 ^ l.length+(val l).toNat)=l:=by
  intro l;induction l with
  | nil=>intro k _;rfl
  | cons c l ih=>
   intro k hl;have hl':∀d∈l,0≤d∧d≤255:=fun d hd=>hl d (List.mem_cons_of_mem _ hd);obtain ⟨h1,h2⟩:=i7 l hl';have hc:=hl c List.mem_cons_self;have e2:(256:Int) ^ l.length=((256 ^ l.length:Nat):Int):=by rw [Int.natCast_pow];rfl
   have h2':(val l).toNat<256 ^ l.length:=by rw [e2] at h2;omega
   have e1:(val (c::l)).toNat=c.toNat*256 ^ l.length+(val l).toNat:=by
    rw [nH,e2];have e3:c*((256 ^ l.length:Nat):Int)=((c.toNat*256 ^ l.length:Nat):Int):=by rw [Int.natCast_mul,Int.toNat_of_nonneg hc.1]
    rw [e3];omega
   have e4:k*256 ^ (l.length+1)+(val (c::l)).toNat=(k*256+c.toNat)*256 ^ l.length+(val l).toNat:=by
    rw [e1,eK,j6,Nat.mul_assoc k 256,ek 256 (256 ^ l.length),Nat.add_assoc]
   rw [List.length_cons,be,e4,ih (k*256+c.toNat) hl'];congr 1;rw [ek,Nat.mul_add_div (Nat.pow_pos (by omega)),Nat.div_eq_of_lt h2',Nat.add_zero,ek k 256,Nat.mul_add_mod];omega
 have:=key l 0 h;simpa using this
end Go.Proofs.YtpekmdpbfjdjkaaGreat.plain
namespace Go.Proofs.YtpekmdpbfjdjkaaGreat.cL
open Go.RowKit ag.ax ag.aV ag.aU aD fr plain iK
structure jp (W:World) (base b:Nat) (lim:Int) (v:Value) (out:List Int):Prop where
 dI:W.heap[b]? = some (.cells #[.int .i64 lim,v, .int .i64 0] 136 (0,0))
 row:Kd.R (Kd.int .u8) 5 W base (fun k=>k≠b) v out
 lo:base≤b
def TW:List Nat:=[136,5]
structure cO (W W':World) (base b:Nat) (lim:Int) (out:List Int):Prop where
 at_:∃v,jp W' base b lim v out
 below:Below base W W'
 mv:Mv TW W W'
theorem jp.drewN {W:World} {base b:Nat} {lim:Int} {v:Value} {out:List Int} (h:jp W base b lim v out) (n:Nat):jp (W.drewN n) base b lim v out:=⟨h.dI,Kd.cQ h.row n,h.lo⟩
theorem jp.drew {W:World} {base b:Nat} {lim:Int} {v:Value} {out:List Int} (h:jp W base b lim v out):jp W.drew base b lim v out:=⟨h.dI,Kd.dc h.row,h.lo⟩
theorem cO.same {W:World} {base b:Nat} {lim:Int} {v:Value} {out:List Int} (h:jp W base b lim v out) (n:Nat):cO W (W.drewN n) base b lim out:=
 ⟨⟨v,h.drewN n⟩,ai (Below.refl _ _) n,(Mv.refl _ _).drewN n⟩
theorem fits (n lim:Int) (base b:Nat) (v:Value) (out:List Int) (W:World) (h:jp W base b lim v out) (h0:0≤n) (h1:n≤2000000000) (h2:lim≤1000000000) (hl:n+out.length≤lim) :
 Calls Tryz.prog 73 #[.pointer (some ⟨b,0,none⟩), .int .i64 n] W fun e w'=>e = .returned (.bool true)∧∃m,w'=W.drewN m:=by
 obtain ⟨A,c,rfl⟩:=Kd.aG h.row;have c0:W.cell? ⟨b,0,none⟩=some (.int .i64 lim):=cell_of h.dI 0;have c1:W.cell? ⟨b,1,none⟩=some (.slice A out.length c):=cell_of h.dI 1;have c2:W.cell? ⟨b,2,none⟩=some (.int .i64 0):=cell_of h.dI 2;have hs:IntKind.i64.wrap (lim - (out.length:Int))=lim - (out.length:Int):=aA _ (by omega);have hd:decide (lim - (out.length:Int)<n)=false:=by simp;omega
 clear h;go_in;go_wp2;go_quiet (fail);go_wp2;go_ret;exact ⟨rfl,_,rfl⟩
theorem qA (x m:Nat):(x:Int) / 2 ^ (8*(m:Int)).toNat=((x / 256 ^ m:Nat):Int):=by
 rw [show (8*(m:Int)).toNat=8*m by omega,show (2:Int) ^ (8*m)=((256 ^ m:Nat):Int) by rw [Int.natCast_pow,Int.pow_mul];rfl];rfl
theorem number (x n:Nat) (lim:Int) (base b:Nat) (v:Value) (out:List Int) (W:World) (h:jp W base b lim v out) (hb:base≤W.heap.size) (h1:n≤8) (hx:x<18446744073709551616) (h2:lim≤1000000000) (hl:(n:Int)+out.length≤lim) :
 Calls Tryz.prog 70 #[.pointer (some ⟨b,0,none⟩), .int .u64 x, .int .i64 n] W fun e w'=>e = .returned (.tuple #[])∧cO W w' base b lim (out++be n x):=by
 have F:=aa (fits (n:Int) lim base b v out W h (by omega) (by omega) h2 hl);have HH:=aa h;have HL:=aa hl;have HB:=aa hb;have hn1:IntKind.i64.wrap ((n:Int) - 1)=(n:Int) - 1:=aA _ (by omega);clear h hl hb;go_in;go_wp2_with fail;refine F.1.mono ?_;rintro e w1 ⟨rfl,m1,rfl⟩;go_wp2_with fail;have H0:=aa (show cO W (W.drewN m1) base b lim out from cO.same HH.1 m1);clear HH F;go_loopw [6] (fun v6 wr=>∃(k:Nat) (o:List Int),k≤n∧v6 = .int .i64 ((k:Int) - 1)∧af (o++be k x=out++be n x)∧af (cO W wr base b lim o)) (fun v _=>(intOf v+1).toNat)
 case atStart=>exact ⟨n,out,Nat.le_refl _,rfl,⟨rfl⟩,H0⟩
 case round=>
  clear H0;obtain ⟨k,o,hk,rfl,HO,HD⟩:=hrel;cases k with
  | zero=>
   go_wp2_with fail;go_end0;exact ⟨rfl,by have:=HO.1;simp only [be,bM] at this;rw [←this];exact HD.1⟩
  | succ m=>
   rw [show (((m+1:Nat):Int) - 1)=(m:Int) by omega];obtain ⟨⟨v',HW⟩,HBl,HM⟩:=HD.1;obtain ⟨A,c,rfl⟩:=Kd.aG HW.row;have c1:wr.cell? ⟨b,1,none⟩=some (.slice A o.length c):=cell_of HW.dI 1;have f1:wr.frozen? ⟨b,1,none⟩=false:=tI HW.dI 1;have m8:IntKind.i64.wrap (8*(m:Int))=8*(m:Int):=aA _ (by omega);have m0:0≤8*(m:Int):=by omega
   have m9:8*(m:Int)≤64:=by omega
   have hq:=aa (qA x m);obtain ⟨q,hq0⟩:∃q:Nat,q=x / 256 ^ m:=⟨_,rfl⟩;have hq:(x:Int) / 2 ^ (8*(m:Int)).toNat=(q:Int):=by rw [hq0];exact qA x m
   have hqb:IntKind.u8.wrap (q:Int)=(q:Int) % 256:=by simp [IntKind.wrap,IntKind.signed,IntKind.bits]
   have Q0:=aa hq0;have hR:=aa HW.drew;have hG:=aa (ay HBl);have hM:=aa HM.drew;have hne:some b≠(Value.slice A o.length c).ownBlock:=fun e=>HW.row.1 b e.symm rfl;have N1:=aa hne;have L1:=aa (show o.length+1≤1000000001 by
    have:=HL.1;have:=HO.1;have h3:(o++be (m+1) x).length=(out++be n x).length:=by rw [this]
    rw [List.length_append,List.length_append,ia,ia] at h3;omega)
   have P1:=aa (show b<wr.drew.heap.size from ak HW.dI);have P2:=aa (show base≤wr.drew.heap.size from Nat.le_trans HB.1 HBl.size);clear HW HBl HM HD hne hq0;go_wp2_with fail;refine hY (fun w'=>w'.cell? ⟨b,1,none⟩=some (.slice A o.length c)) 11 [(0,0),(1,0),(2,0),(3,0),(4,1),(5,0),(6,0),(7,0),(8,0),(9,0),(10,2)] (by kernel_rfl) (by kernel_rfl) (fun _ _ _ _ _ h=>h) c1 ?_;replace c1:wr.drew.cell? ⟨b,1,none⟩=some (.slice A o.length c):=c1;clear f1;generalize wr.drew=W2 at c1 hR hG hM P1 P2 ⊢;iterate 4 (refine eF ?_;simp only [cS,Act.put])
   iterate 1 (refine aQ (v:=?_) rfl rfl ?_ ?_;rotate_left 1;(focus (intro w hSw;go_simp;try (with_reducible rfl)));simp only [cS,Act.put])
   iterate 5 (refine eF ?_;simp only [cS,Act.put])
   refine aT rfl ?_;go_wp2_with fail;refine bB.mk ((eT _ _ _ P1.1).trans c1) (fun hSw=>?_);refine bC ?_;simp only [aC,List.drop_zero];clear hSw c1;go_wp2_with (first
    | ((with_reducible refine aM (b:= .append) (xs:=#[.tmp 21, .tmp 27]) rfl ?_);at_builtin;refine Kd.cG (Kd.int .u8) (w0:=W) base rfl (.tmp 21) (.tmp 27) 32 5 (.int .u8 0) 1 rfl Tryz.underlying32 ff rfl (by decide) (by omega) (.slice A o.length c) o ((q:Int) % 256) [.int .u8 ((q:Int) % 256)] (fun k=>k≠b) (fun _=>False) rfl rfl ?aP (fun _ hk=>hk.elim) ?aF ?aO ?aB ?aS ?aL ?_;(case aP=>exact rfl);(case aB=>exact hG.1);(case aF=>exact (fun k hk e=>by subst e;exact absurd hk (Nat.not_le.2 P1.1)));(case aO=>exact hR.1.row);(case aS=>exact P2.1);(case aL=>have:=L1.1;omega);intro v1 w1 h1 h2 h3 h4;have Z1:=aa ((h3.block b P1.1 N1.1).trans hR.1.dI);have Z2:=aa h1;have Z3:=aa h2;have Z4:=aa (hM.1.trans (Mv.fB h3 hR.1.row (by decide)));have Z7:=aa h3.size;clear h1 h2 h3 h4)
    | ((with_reducible refine gS 30 28 rfl ?_);refine sC 1 v1 #[.int .i64 lim,v1, .int .i64 0] Z1.1 (hc:=by obtain ⟨_,_,rfl⟩:=Kd.aG Z2.1;rfl) (h1:=by obtain ⟨_,_,rfl⟩:=Kd.aG Z2.1;rfl) ?_;intro w3 Z5 Z6))
   have hD3:=aa (show cO W w3 base b lim (o++[(q:Int) % 256]) from ⟨⟨v1,Z5.1,Kd.eL Z2.1 Z6.1 (fun k hk e=>hk (by injection e)),hR.1.lo⟩,Z3.1.grown Z6.1 (Nat.le_trans P2.1 Z7.1) (fun k e=>by injection e with e;subst e;exact hR.1.lo),Z4.1.trans (Mv.bG Z6.1 Z1.1 (by decide))⟩);have HO3:=aa (show (o++[(q:Int) % 256])++be m x=out++be n x by rw [←HO.1,be,Q0.1,List.append_assoc];rfl);go_roundw
   case rel=>exact ⟨m,_,by omega,rfl,HO3,hD3⟩
   case measure=>simp [intOf]
def eC (cs:List Int):Array Value:=(fp .u8 cs).toArray
structure nS (w W:World) (g1 g2:Nat) (cs:List Int):Prop where
 below:Below w.heap.size w W
 h1:W.heap[g1]? = some (.cells (eC (List.replicate 10 0)) 138 (0,0))
 h2:W.heap[g2]? = some (.cells (eC cs) 138 (0,0))
 n1:w.heap.size≤g1
 n2:g1<g2
 len:cs.length=10
theorem nS.lt {w W:World} {g1 g2:Nat} {cs:List Int} (h:nS w W g1 g2 cs):g2<W.heap.size:=ak h.h2
theorem gL (cs:List Int):(eC cs).size=cs.length:=by simp [eC,fp]
theorem iY (cs:List Int):(eC cs).toList.length=cs.length:=by simp [eC,fp]
theorem mE (cs:List Int):∀q∈(eC cs).toList,q.oneCell'=true:=by
 intro q hq;simp only [eC,fp,List.mem_map] at hq;obtain ⟨_,_,rfl⟩:=hq;rfl
theorem nS.set {w W W':World} {g1 g2:Nat} {cs cs':List Int} (h:nS w W g1 g2 cs) (hn:W'.heap[g2]? = some (.cells (eC cs') 138 (0,0))) (hg:W.grownBy W' (some g2)) (hl:cs'.length=10):nS w W' g1 g2 cs':=
 ⟨h.below.grown hg h.below.size (fun k e=>by cases e;have:=h.n1;have:=h.n2;omega),(hg.block _ (ak h.h1) (fun e=>by injection e with e;have:=h.n2;omega)).trans h.h1,hn,h.n1,h.n2,hl⟩
theorem om (cs:List Int) (n:Nat) (c:Int):(eC cs).setIfInBounds n (.int .u8 c)=eC (cs.set n c):=by simp [eC,fp,List.map_set]
theorem u8_or128 (y:Nat):bits .or .u8 ((y:Int) % 256) 128=((y % 128+128:Nat):Int):=by
 rw [show (y:Int) % 256=((y % 256:Nat):Int) by omega,show (128:Int)=((128:Nat):Int) by rfl,u8_or_nat _ _ (by omega) (by omega)];congr 1;have h:∀z:Fin 256,(z.val|||128)=z.val % 128+128:=by decide +kernel
 have:=h ⟨y % 256,by omega⟩;simp only at this;rw [this,show y % 256 % 128=y % 128 by omega]
theorem groups (x:Nat) (hx:x<18446744073709551616) (w:World) :
 Calls Tryz.prog 71 #[.int .u64 x] w fun e w'=>∃cs:List Int,e = .returned (.tuple #[.agg (eC cs), .int .i64 (bu x).length])∧cs.length=10∧cs.take (bu x).length=bu x∧Below w.heap.size w w':=by
 go_in;go_wp2_with fail;have hG0:=aa (show nS w ((w.alloc (.cells (eC (List.replicate 10 0)) 138)).alloc (.cells (eC (List.replicate 10 0)) 138)) w.heap.size (w.heap.size+1) (List.replicate 10 0) from
  ⟨ah (ah (Below.refl _ _) _) _,(cm _ _ _ (by rw [ke];omega)).trans (aJ w _),by have:=aJ (w.alloc (.cells (eC (List.replicate 10 0)) 138)) (.cells (eC (List.replicate 10 0)) 138);rwa [ke] at this,Nat.le_refl _,by omega,rfl⟩)
 have HX:=aa hx;clear hx;generalize w.heap.size=g1 at hG0 ⊢;go_loopw [0,5] (fun v0 v5 wr=>∃(y n:Nat) (cs:List Int),v0 = .int .u64 (y:Int)∧v5 = .int .i64 (n:Int)∧n+(bu y).length≤10∧y<18446744073709551616∧af (cs.take n++bu y=bu x)∧af (nS w wr g1 (g1+1) cs)) (fun v _ _=>(intOf v).toNat)
 case atStart=>exact ⟨x,0,List.replicate 10 0,rfl,rfl,by have:=dR x HX.1;omega,HX.1,⟨rfl⟩,hG0⟩
 case round=>
  clear hG0;obtain ⟨y,n,cs,rfl,rfl,hl,hy,HT,HG⟩:=hrel;have hp:=pr y;have hor:=u8_or128 y;have hcv:IntKind.u8.wrap (y:Int)=(y:Int) % 256:=by simp [IntKind.wrap,IntKind.signed,IntKind.bits]
  have hn9:(n:Int)<10:=by omega
  by_cases hlt:y<128
  ·have hu:=Tryz.underlying138;go_wp2_with (first
    | ((with_reducible refine gS 20 19 rfl ?_);refine jk (j:=n) (u:= .int .u8 ((y:Int) % 256)) (cur':=eC (cs.set n ((y:Int) % 256))) rfl rfl (t:=5) (p:= .tmp 20) (x:= .tmp 19) rfl ?addr ?ex HG.1.h2 ?hj rfl rfl ?ht (om _ _ _) ?_;(case addr=>rfl);(case ex=>rfl);(case hj=>rw [gL,HG.1.len];omega);(case ht=>kernel_rfl);intro w2 hW hG2;have H2:=aa (HG.1.set hW hG2 (by rw [b9];exact HG.1.len));clear hW hG2)
    | ((with_reducible refine az (N:=21) rfl ?_);refine fL (t:=138) (p:= .tmp 4) rfl rfl ?haddr H2.1.h2 Tryz.underlying138 ?hd ?hi ?_;(case haddr=>rfl);(case hd=>rfl);(case hi=>rw [gL,H2.1.len];kernel_rfl))
    | ((with_reducible refine gS 2 21 rfl ?_);refine dl (u:= .agg (eC (cs.set n ((y:Int) % 256)))) rfl rfl rfl (eC (cs.set n ((y:Int) % 256))).toList ?addr ?ex H2.1.h1 ?eu ?ht ?hf ?h1 ?_;(case hf=>rw [iY,gL,b9,HG.1.len];rfl);(case addr=>rfl);(case ex=>rfl);(case eu=>rfl);(case ht=>rw [iY,b9,HG.1.len];kernel_rfl);(case h1=>exact mE _);intro w3 hW3 hG3;have W3:=aa hW3;have G3:=aa hG3;clear hW3 hG3))
   refine gO (lU (by rfl) _ _ g1 138 (eC (cs.set n ((y:Int) % 256))) (0,0) _ rfl W3.1 hu rfl (by rw [gL,b9,HG.1.len];kernel_rfl) rfl) rfl ⟨cs.set n ((y:Int) % 256),?_,?_,?_,?_⟩
   ·have h1:(bu x).length=n+1:=by rw [←HT.1,fz hlt,List.length_append,List.length_take,HG.1.len,List.length_singleton];omega
    rw [h1];rfl
   ·rw [b9];exact HG.1.len
   ·have h1:(bu x).length=n+1:=by rw [←HT.1,fz hlt,List.length_append,List.length_take,HG.1.len,List.length_singleton];omega
    rw [h1,←HT.1,fz hlt,bz (by rw [b9,HG.1.len];omega),List.take_set_of_le (Nat.le_refl _),List.getElem_set_self,show (y:Int) % 256=y by omega]
   ·exact H2.1.below.grown G3.1 H2.1.below.size (fun k e=>by injection e with e;subst e;exact HG.1.n1)
  ·go_wp2_with ((with_reducible refine gS 12 11 rfl ?_);refine jk (j:=n) (u:= .int .u8 ((y % 128+128:Nat):Int)) (cur':=eC (cs.set n ((y % 128+128:Nat):Int))) rfl rfl (t:=5) (p:= .tmp 12) (x:= .tmp 11) rfl ?addr ?ex HG.1.h2 ?hj rfl rfl ?ht (om _ _ _) ?_;(case addr=>rfl);(case ex=>rfl);(case hj=>rw [gL,HG.1.len];omega);(case ht=>kernel_rfl);intro w2 hW hG2;have H2:=aa (HG.1.set hW hG2 (by rw [b9];exact HG.1.len));clear hW hG2);have HT2:=aa (show (cs.set n ((y % 128+128:Nat):Int)).take (n+1)++bu (y / 128)=bu x by
    rw [←HT.1,iV hlt,bz (by rw [b9,HG.1.len];omega),List.take_set_of_le (Nat.le_refl _),List.getElem_set_self,List.append_assoc];rfl)
   have hl2:n+1+(bu (y / 128)).length≤10:=by rw [iV hlt,List.length_cons] at hl;omega
   go_round
   case rel=>exact ⟨y / 128,n+1,_,rfl,by go_num,hl2,by omega,HT2,H2⟩
   case measure=>simp [intOf];omega
theorem u8 (x:Nat) (lim:Int) (base b:Nat) (v:Value) (out:List Int) (W:World) (h:jp W base b lim v out) (hb:base≤W.heap.size) (hx:x<256) (h2:lim≤1000000000) (hl:1+out.length≤lim) :
 Calls Tryz.prog 25 #[.pointer (some ⟨b,0,none⟩), .int .u8 x] W fun e w'=>e = .returned (.tuple #[])∧cO W w' base b lim (out++[(x:Int)]):=by
 have N:=aa (number x 1 lim base b v out W h hb (by omega) (by omega) h2 (by omega));have hw:IntKind.u64.wrap (x:Int)=x:=by simp [IntKind.wrap,IntKind.signed,IntKind.bits];omega
 have hbe:af (be 1 x=[(x:Int)]):=⟨by simp [be];omega⟩;clear h hb hl;go_in;go_wp2_with fail;refine N.1.mono ?_;rintro e w1 ⟨rfl,hD⟩;rw [hbe.1] at hD;have HD:=aa hD;clear hD;go_wp2_with fail;go_end0;exact ⟨rfl,HD.1⟩
theorem u64 (x:Nat) (lim:Int) (base b:Nat) (v:Value) (out:List Int) (W:World) (h:jp W base b lim v out) (hb:base≤W.heap.size) (hx:x<18446744073709551616) (h2:lim≤1000000000) (hl:8+out.length≤lim) :
 Calls Tryz.prog 27 #[.pointer (some ⟨b,0,none⟩), .int .u64 x] W fun e w'=>e = .returned (.tuple #[])∧cO W w' base b lim (out++be 8 x):=by
 have N:=aa (number x 8 lim base b v out W h hb (by omega) hx h2 (by omega));clear h hb hl;go_in;go_wp2_with fail;refine N.1.mono ?_;rintro e w1 ⟨rfl,hD⟩;have HD:=aa hD;clear hD;go_wp2_with fail;go_end0;exact ⟨rfl,HD.1⟩
theorem jp.below {W W1:World} {base b:Nat} {lim:Int} {v:Value} {out:List Int} (h:jp W base b lim v out) (hb:Below W.heap.size W W1):jp W1 base b lim v out:=⟨(hb.block b (ak h.dI)).trans h.dI,Kd.bR h.row hb,h.lo⟩
theorem cO.after {W W1 W2:World} {base b:Nat} {lim:Int} {out:List Int} (h:cO W1 W2 base b lim out) (hb:Below W.heap.size W W1) (hB:base≤W.heap.size):cO W W2 base b lim out:=
 ⟨h.at_,(hb.mono hB).trans h.below,(Mv.cH hb).trans h.mv⟩
structure lZ (W W1:World) (base b:Nat) (lim:Int) (v1:Value) (out:List Int):Prop where
 dI:∃v,W1.heap[b]? = some (.cells #[.int .i64 lim,v, .int .i64 0] 136 (0,0))
 row:Kd.R (Kd.int .u8) 5 W1 base (fun k=>k≠b) v1 out
 lo:base≤b
 size:base≤W1.heap.size
 below:Below base W W1
 mv:Mv TW W W1
theorem lZ.mk' {W0 W W1:World} {base b:Nat} {lim:Int} {v v1:Value} {out out1:List Int} (h:jp W base b lim v out) (hb:base≤W.heap.size) (hW:Below base W0 W) (hM:Mv TW W0 W) (h1:Kd.R (Kd.int .u8) 5 W1 base (fun k=>k≠b) v1 out1) (h2:Below base W0 W1) (h3:W.grownBy W1 v.ownBlock):lZ W0 W1 base b lim v1 out1:=
 ⟨⟨v,(h3.block b (ak h.dI) (fun e=>h.row.1 b e.symm rfl)).trans h.dI⟩,h1,h.lo,Nat.le_trans hb h3.size,h2,hM.trans (Mv.fB h3 h.row (by decide))⟩
theorem lZ.done {W W1 W2:World} {base b:Nat} {lim:Int} {v1:Value} {out:List Int} (h:lZ W W1 base b lim v1 out) (hW:W2.heap[b]? = some (.cells #[.int .i64 lim,v1, .int .i64 0] 136 (0,0))) (hg:W1.grownBy W2 (some b)):cO W W2 base b lim out:=by
 obtain ⟨v,hb⟩:=h.dI;exact ⟨⟨v1,hW,Kd.eL h.row hg (fun k hk e=>hk (by injection e)),h.lo⟩,h.below.grown hg h.size (fun k e=>by injection e with e;subst e;exact h.lo),h.mv.trans (Mv.bG hg hb (by decide))⟩
theorem lZ.one {W W1:World} {base b:Nat} {lim:Int} {v1:Value} {out:List Int} (h:lZ W W1 base b lim v1 out):v1.cells.toList=[v1]∧v1.oneCell'=true:=by
 obtain ⟨_,_,rfl⟩:=Kd.aG h.row;exact ⟨rfl,rfl⟩
theorem jV {W:World} {g t:Nat} {f:Nat × Nat} {cs:List Int} (h:W.heap[g]? = some (.cells (fp .u8 cs).toArray t f)) (off n:Nat) (hn:off+n≤cs.length) (hm:n≤9223372036854775807):Kd.C (Kd.int .u8) W (some ⟨g,off,none⟩) n ((cs.drop off).take n):=by
 refine Kd.rj (d:=(0:Int)) ⟨by rw [List.length_take,List.length_drop];omega,hm,fun _=>⟨_,rfl,fun j hj=>?_⟩⟩;rw [show (⟨g,off,none⟩:Addr).add j=⟨g,off+j,none⟩ by unfold Addr.add;split<;>simp_all,cell_of h];have hlt:off+j<cs.length:=by omega
 simp [fp,List.getD_eq_getElem?_getD,cZ,hj,List.getElem?_drop,hlt]
theorem raw (ys:List Int) (A:Option Addr) (c:Nat) (lim:Int) (base b:Nat) (v:Value) (out:List Int) (W:World) (hC:Kd.C (Kd.int .u8) W A ys.length ys) (h:jp W base b lim v out) (hb:base≤W.heap.size) (h2:lim≤1000000000) (hl:(ys.length:Int)+out.length≤lim) :
 Calls Tryz.prog 72 #[.pointer (some ⟨b,0,none⟩), .slice A ys.length c] W fun e w'=>e = .returned (.tuple #[])∧cO W w' base b lim (out++ys):=by
 have F:=aa (fits (ys.length:Int) lim base b v out W h (by omega) (by omega) h2 hl);obtain ⟨vA,vc,rfl⟩:=Kd.aG h.row;have HH:=aa h;have HL:=aa hl;have H2:=aa h2;have HB:=aa hb;have HC:=aa hC;clear h hl hb hC h2;go_in;go_wp2_with fail;refine F.1.mono ?_;rintro e w1 ⟨rfl,m1,rfl⟩;have c1:(W.drewN m1).cell? ⟨b,1,none⟩=some (.slice vA out.length vc):=cell_of HH.1.dI 1;clear F;go_wp2_with (first
  | ((with_reducible refine aM (b:= .append) (xs:=#[.tmp 12, .tmp 13]) rfl ?_);at_builtin;refine Kd.dr (Kd.int .u8) (w0:=W) base rfl (.tmp 12) (.tmp 13) 32 5 (.int .u8 0) 1 rfl Tryz.underlying32 ff rfl (by decide) (by omega) (.slice vA out.length vc) out ys A ys.length c (fun k=>k≠b) (fun _=>False) rfl rfl ?aO ?aR (fun _ _ h=>h) (fun _ h=>h.elim) ?aF ?aB ?aS ?aL ?_;(case aO=>exact Kd.cQ HH.1.row m1);(case aR=>exact Kd.dZ HC.1 m1);(case aF=>exact (fun k hk e=>by subst e;exact absurd hk (Nat.not_le.2 (ak HH.1.dI))));(case aB=>exact ai (Below.refl _ _) m1);(case aS=>exact HB.1);(case aL=>have:=HL.1;have:=H2.1;omega);intro v1 w2 h1 h2 h3 h4;have Z:=aa (lZ.mk' (HH.1.drewN m1) HB.1 (ai (Below.refl _ _) m1) ((Mv.refl _ _).drewN m1) h1 h2 h3);clear h1 h2 h3 h4)
  | ((with_reducible refine gS 16 14 rfl ?_);obtain ⟨v0,hv0⟩:=Z.1.dI;refine sC 1 v1 #[.int .i64 lim,v1, .int .i64 0] hv0 (hc:=by exact Z.1.one.1) (h1:=by exact Z.1.one.2) ?_;intro w3 hW hG3;have HD:=aa (Z.1.done hW.1 hG3.1);clear hv0))
 go_end0;exact ⟨rfl,HD.1⟩
theorem qj {W:World} {g t:Nat} {f:Nat × Nat} {cs ys:List Int} (h:W.heap[g]? = some (.cells (eC cs) t f)) (hl:cs.length=10) (hn:ys.length≤10) (ht:cs.take ys.length=ys):Kd.C (Kd.int .u8) W (some ⟨g,0,none⟩) ys.length ys:=by
 have:=jV (off:=0) (n:=ys.length) h (by omega) (by omega);rwa [List.drop_zero,ht] at this
theorem Bo (x:Nat) (lim:Int) (base b:Nat) (v:Value) (out:List Int) (W:World) (h:jp W base b lim v out) (hb:base≤W.heap.size) (hx:x<18446744073709551616) (h2:lim≤1000000000) (hl:(bu x).length+out.length≤lim) :
 Calls Tryz.prog 26 #[.pointer (some ⟨b,0,none⟩), .int .u64 x] W fun e w'=>e = .returned (.tuple #[])∧cO W w' base b lim (out++bu x):=by
 have G:=aa (groups x hx W);have hg10:=dR x hx;have HH:=aa h;have HL:=aa hl;have H2:=aa h2;have HB:=aa hb;clear h hl hb h2;go_in;go_wp2_with fail;refine G.1.mono ?_;rintro e w1 ⟨cs,rfl,hc,ht,hb1⟩;generalize hy:bu x=ys at *;have HC:=aa hc;have HT:=aa ht;have B1:=aa hb1;have HY:=aa hy;have hu:=Tryz.underlying138;clear hc ht hb1 hy G;have hi10:(ys.length:Int)≤10:=by omega
 have hi0:(0:Int)≤(ys.length:Int):=by omega
 go_wp2_with ((with_reducible refine gS 4 9 rfl ?_);refine dl (g:=w1.heap.size) (cur:=eC (List.replicate 10 0)) (e:=138) (u:= .agg (eC cs)) rfl rfl rfl (eC cs).toList ?addr ?ex ?hh ?eu ?ht ?hf ?h1 ?_;(case hh=>exact aJ w1 _);(case hf=>rw [iY,gL,HC.1];rfl);(case addr=>rfl);(case ex=>rfl);(case eu=>rfl);(case ht=>rw [iY,HC.1];kernel_rfl);(case h1=>exact mE _);intro w3 hW3 hG3;have W3:=aa (show w3.heap[w1.heap.size]? = some (.cells (eC cs) 138 (0,0)) from hW3);have B3:=aa ((ah B1.1 _).grown hG3 (by rw [ke];have:=B1.1.size;omega) (fun k e=>by injection e with e;subst e;exact B1.1.size));clear hW3 hG3);have R:=aa (raw ys (some ⟨w1.heap.size,0,none⟩) 10 lim base b v out w3 (qj W3.1 HC.1 hg10 HT.1) (HH.1.below B3.1) (Nat.le_trans HB.1 B3.1.size) H2.1 HL.1);refine R.1.mono ?_;rintro e w4 ⟨rfl,hD⟩;have HD:=aa (hD.after B3.1 HB.1);clear hD R;go_wp2_with fail;go_end0;exact ⟨rfl,by rw [HY.1];exact HD.1⟩
theorem block (zs:List Int) (A:Option Addr) (c:Nat) (lim:Int) (base b:Nat) (v:Value) (out:List Int) (W:World) (hC:∀W',Below base W W'→Kd.C (Kd.int .u8) W' A zs.length zs) (h:jp W base b lim v out) (hb:base≤W.heap.size) (h2:lim≤1000000000) (hl:((bu zs.length).length+zs.length:Int)+out.length≤lim) :
 Calls Tryz.prog 28 #[.pointer (some ⟨b,0,none⟩), .slice A zs.length c] W fun e w'=>e = .returned (.tuple #[])∧cO W w' base b lim (out++(bu zs.length++zs)):=by
 have hzl:zs.length<18446744073709551616:=by omega
 have G:=aa (groups zs.length hzl W);have hg10:=dR zs.length hzl;have hz9:(zs.length:Int)≤1000000000:=by omega
 have hwz:IntKind.u64.wrap (zs.length:Int)=zs.length:=by simp [IntKind.wrap,IntKind.signed,IntKind.bits];omega
 obtain ⟨vA,vc,rfl⟩:=Kd.aG h.row;have HH:=aa h;have HL:=aa hl;have H2:=aa h2;have HB:=aa hb;have HCz:=aa hC;clear h hl hb h2 hC;go_in;go_wp2_with fail;refine G.1.mono ?_;rintro e w1 ⟨cs,rfl,hc,ht,hb1⟩;generalize hy:bu zs.length=ys at hc ht hg10 HL ⊢;have HC:=aa hc;have HT:=aa ht;have B1:=aa hb1;have HY:=aa hy;have hu:=Tryz.underlying138;clear hc ht hb1 hy G;have hi10:(ys.length:Int)≤10:=by omega
 have hi0:(0:Int)≤(ys.length:Int):=by omega
 go_wp2_with ((with_reducible refine gS 4 11 rfl ?_);refine dl (g:=w1.heap.size) (cur:=eC (List.replicate 10 0)) (e:=138) (u:= .agg (eC cs)) rfl rfl rfl (eC cs).toList ?addr ?ex ?hh ?eu ?ht ?hf ?h1 ?_;(case hh=>exact aJ w1 _);(case hf=>rw [iY,gL,HC.1];rfl);(case addr=>rfl);(case ex=>rfl);(case eu=>rfl);(case ht=>rw [iY,HC.1];kernel_rfl);(case h1=>exact mE _);intro w3 hW3 hG3;have W3:=aa (show w3.heap[w1.heap.size]? = some (.cells (eC cs) 138 (0,0)) from hW3);have B3:=aa ((ah B1.1 _).grown hG3 (by rw [ke];have:=B1.1.size;omega) (fun k e=>by injection e with e;subst e;exact B1.1.size));have L3:=aa (show w1.heap.size<w3.heap.size from ak hW3);clear hW3 hG3);have F:=aa (fits (ys.length+zs.length:Int) lim base b (.slice vA out.length vc) out w3 (HH.1.below B3.1) (by omega) (by omega) H2.1 HL.1);refine F.1.mono ?_;rintro e w4 ⟨rfl,m4,rfl⟩;have c1:(w3.drewN m4).cell? ⟨b,1,none⟩=some (.slice vA out.length vc):=cell_of ((HH.1.below B3.1).drewN m4).dI 1;have H4:=aa ((HH.1.below B3.1).drewN m4).drew;have B4:=aa (ai B3.1 m4).drew;have W4:=aa (show (w3.drewN m4).drew.heap[w1.heap.size]? = some (.cells (eC cs) 138 (0,0)) from W3.1);clear F W3 B3;go_wp2_with fail;refine hY (fun w'=>w'.cell? ⟨b,1,none⟩=some (.slice vA out.length vc)) 7 [(0,0),(1,0),(2,0),(3,0),(4,1),(5,0),(6,0)] (by kernel_rfl) (by kernel_rfl) (fun _ _ _ _ _ h=>h) c1 ?_;replace c1:(w3.drewN m4).drew.cell? ⟨b,1,none⟩=some (.slice vA out.length vc):=c1;generalize (w3.drewN m4).drew=W5 at c1 H4 B4 W4 ⊢;iterate 4 (refine eF ?_;simp only [cS,Act.put])
 iterate 1 (refine aQ (v:=?_) rfl rfl ?_ ?_;rotate_left 1;(focus (intro w hSw;go_simp;try (with_reducible rfl)));simp only [cS,Act.put])
 iterate 2 (refine eF ?_;simp only [cS,Act.put])
 refine bC ?_;simp only [aC,List.drop_zero];go_wp2_with (first
  | ((with_reducible refine aM (b:= .append) (xs:=#[.tmp 23, .tmp 25]) rfl ?_);at_builtin;refine Kd.dr (Kd.int .u8) (w0:=W) base rfl (.tmp 23) (.tmp 25) 32 5 (.int .u8 0) 1 rfl Tryz.underlying32 ff rfl (by decide) (by omega) (.slice vA out.length vc) out ys (some ⟨w1.heap.size,0,none⟩) ys.length 10 (fun k=>k≠b) (fun _=>False) rfl rfl ?aO ?aR (fun _ _ h=>h) (fun _ h=>h.elim) ?aF ?aB ?aS ?aL ?_;(case aO=>exact H4.1.row);(case aR=>exact qj W4.1 HC.1 hg10 HT.1);(case aF=>exact (fun k hk e=>by subst e;exact absurd hk (Nat.not_le.2 (ak H4.1.dI))));(case aB=>exact B4.1.mono HB.1);(case aS=>exact Nat.le_trans HB.1 B4.1.size);(case aL=>have:=HL.1;have:=H2.1;omega);intro v1 w2 h1 h2 h3 h4;generalize hO2:out++ys=o2 at h1;have O2:=aa hO2;clear hO2;have Z:=aa (lZ.mk' H4.1 (Nat.le_trans HB.1 B4.1.size) (B4.1.mono HB.1) (Mv.cH B4.1) h1 h2 h3);clear h1 h2 h3 h4 c1)
  | ((with_reducible refine gS 28 26 rfl ?_);obtain ⟨v0,hv0⟩:=Z.1.dI;refine sC 1 v1 #[.int .i64 lim,v1, .int .i64 0] hv0 (hc:=by exact Z.1.one.1) (h1:=by exact Z.1.one.2) ?_;intro w3 hW hG3;have HD:=aa (Z.1.done hW.1 hG3.1);clear hv0;obtain ⟨v2,H6⟩:=HD.1.at_;obtain ⟨vA2,vc2,rfl⟩:=Kd.aG H6.row;have h6:=aa H6;have c6:w3.cell? ⟨b,1,none⟩=some (.slice vA2 o2.length vc2):=cell_of H6.dI 1;clear H6)
  | ((with_reducible refine aM (b:= .append) (xs:=#[.tmp 33, .tmp 34]) rfl ?_);at_builtin;refine Kd.dr (Kd.int .u8) (w0:=W) base rfl (.tmp 33) (.tmp 34) 32 5 (.int .u8 0) 1 rfl Tryz.underlying32 ff rfl (by decide) (by omega) (.slice vA2 o2.length vc2) o2 zs A zs.length c (fun k=>k≠b) (fun _=>False) rfl rfl ?aO ?aR (fun _ _ h=>h) (fun _ h=>h.elim) ?aF ?aB ?aS ?aL ?_;(case aO=>exact h6.1.row);(case aR=>exact HCz.1 _ HD.1.below);(case aF=>exact (fun k hk e=>by subst e;exact absurd hk (Nat.not_le.2 (ak h6.1.dI))));(case aB=>exact HD.1.below);(case aS=>exact Nat.le_trans HB.1 HD.1.below.size);(case aL=>have:=HL.1;have:=H2.1;rw [←O2.1,List.length_append];omega);intro v1' w2' h1 h2 h3 h4;have Z':=aa (lZ.mk' h6.1 (Nat.le_trans HB.1 HD.1.below.size) HD.1.below HD.1.mv h1 h2 h3);clear h1 h2 h3 h4)
  | ((with_reducible refine gS 37 35 rfl ?_);obtain ⟨v0',hv0'⟩:=Z'.1.dI;refine sC 1 v1' #[.int .i64 lim,v1', .int .i64 0] hv0' (hc:=by exact Z'.1.one.1) (h1:=by exact Z'.1.one.2) ?_;intro w6 hW hG3;have HD':=aa (Z'.1.done hW.1 hG3.1);clear hv0'))
 go_end0;exact ⟨rfl,by rw [HY.1,←List.append_assoc,O2.1];exact HD'.1⟩
theorem tq (lim:Int) (W:World) (h0:0≤lim) (h1:lim≤16777216) :
 Calls Tryz.prog 24 #[.int .i64 lim] W fun e w'=>∃b,e = .returned (.tuple #[.pointer (some ⟨b,0,none⟩), .int .i64 0])∧jp w' W.heap.size b lim (.slice none 0 0) []∧Below W.heap.size W w':=by
 go_in;go_wp2_with fail;go_ret2;exact ⟨_,rfl,⟨aJ W _,Kd.cY _ _ _ _ _,Nat.le_refl _⟩,ah (Below.refl _ _) _⟩
theorem nJ {W:World} {g base:Nat} {ok:Nat→Prop} {xs:List Int} (h:W.heap[g]? = some (.cells (fp .u8 xs).toArray 5 (0,0))) (hb:base≤g) (hok:ok g) (hm:xs.length≤140737488355328):Kd.R (Kd.int .u8) 5 W base ok (.slice (some ⟨g,0,none⟩) xs.length xs.length) xs:=
 Kd.pU (enc:=Value.int .u8) (h1:=fun _=>rfl) ⟨by simp [jz], .inr ⟨g,xs.length,_,rfl,hb,h,Nat.le_refl _,by unfold maxLen;omega,by simp [fp],by simp only [Nat.mul_one];exact List.take_of_length_le (by simp [fp])⟩⟩ (fun k hk=>by simp [Value.ownBlock] at hk;subst hk;exact hok)
theorem oy (n:Nat):(madeCells #[.int .u8 0] n:Array Value)=(fp .u8 (List.replicate n 0)).toArray:=by
 apply Array.ext
 ·simp [madeCells,fp]
 ·intro i h1 h2;simp [madeCells,fp,Nat.mod_one]
theorem Dy {α:Type} {d:Kd α} {e base:Nat} {ok:Nat→Prop} {W:World} {A:Option Addr} {n c:Nat} {xs:List α} (h:d.R e W base ok (.slice A n c) xs):d.C W A n xs:=by
 obtain ⟨A',c',he,_,hr⟩:=Kd.jW h;injection he with h1 h2 h3;subst h1 h2;exact hr
theorem mm {W:World} {A:Option Addr} {n:Nat} {xs:List Int} (h:Kd.C (Kd.int .u8) W A n xs) (hp:0<xs.length):∃ad,A=some ad∧∀(j:Nat) (v:Value),(fp .u8 xs)[j]? = some v→W.cell? (ad.add j)=some v:=by
 obtain ⟨h1,h2,h3⟩:=h;obtain ⟨ad,rfl,hc⟩:=h3 (by omega);refine ⟨ad,rfl,fun j v hv=>?_⟩;simp only [fp,lM,Option.map_eq_some_iff] at hv;obtain ⟨p,hp,rfl⟩:=hv;obtain ⟨cs, -,hK,hcell⟩:=hc j p hp;have hK':cs=[.int .u8 p]:=hK;subst hK';have:=hcell 0 _ rfl;simpa [Kd.int,Kd.scalar] using this
theorem out (lim:Int) (base b:Nat) (v:Value) (o:List Int) (W:World) (h:jp W base b lim v o) (ho:o.length≤1000000000) :
 Calls Tryz.prog 30 #[.pointer (some ⟨b,0,none⟩)] W fun e w'=>∃g,e = .returned (.tuple #[.slice (some ⟨g,0,none⟩) o.length o.length, .int .i64 0])∧w'.heap[g]? = some (.cells (fp .u8 o).toArray 5 (0,0))∧W.heap.size≤g∧Below W.heap.size W w':=by
 obtain ⟨vA,vc,rfl⟩:=Kd.aG h.row;have c1:W.cell? ⟨b,1,none⟩=some (.slice vA o.length vc):=cell_of h.dI 1;have c2:W.cell? ⟨b,2,none⟩=some (.int .i64 0):=cell_of h.dI 2;have hmk:=nR 32 5 .u8 1 Tryz.underlying32 ff (by decide) o.length (by omega);have HH:=aa h;have c3:(W.alloc (.cells (madeCells #[.int .u8 0] o.length) 5)).cell? ⟨b,1,none⟩=some (.slice vA o.length vc):=an (ah (Below.refl _ _) _) c1;have hz:=aa (oy o.length);have hC:=aa (Dy h.row);have hlt:=aa (ak h.dI);have HO:=aa ho;clear h;go_in;go_wp2_with (first|((with_reducible refine aM (b:= .copy) (xs:=#[.tmp 22, .tmp 26]) rfl ?_);(refine wpList_copy_splice rfl (.tmp 22) (.tmp 26) 32 32 rfl 5 Tryz.underlying32 ?hsz (some ⟨W.heap.size,0,none⟩) vA o.length o.length o.length vc ?hd ?hs W.heap.size 0 (fp .u8 (List.replicate o.length 0)) 5 ?hg (fp .u8 o) ?hn ?hpos ?hfit ?h1 W.heap.size W ?hb (Nat.le_refl _) ?_);((case hsz=>kernel_rfl);(case hd=>rfl);(case hs=>rfl);(case hg=>rw [←hz.1];exact aJ W _);(case hn=>simp [fp]);(case hpos=>exact (fun hp=>⟨rfl,mm (Kd.aN hC.1 (ah (Below.refl _ _) _)) (by simpa [fp] using hp)⟩));(case hfit=>simp [fp]);(case h1=>intro q hq;simp only [fp,List.mem_map] at hq;obtain ⟨_,_,rfl⟩:=hq;rfl);(case hb=>exact ah (Below.refl _ _) _));intro w3 hW3 hB3;have W3:=aa hW3;have B3:=aa hB3;clear hW3 hB3)|fail);go_ret2;refine ⟨_,rfl,?_,Nat.le_refl _,B3.1⟩;have:=W3.1.out;rwa [show splice (fp .u8 (List.replicate o.length 0)) 0 (fp .u8 o)=fp .u8 o by simp [splice,fp]] at this
end Go.Proofs.YtpekmdpbfjdjkaaGreat.cL