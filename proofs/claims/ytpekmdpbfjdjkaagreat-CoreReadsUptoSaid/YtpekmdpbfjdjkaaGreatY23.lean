/- Part 23 of the proof that reading bytes answers as the document does. No condition. -/
import Derived.Test.YtpekmdpbfjdjkaaGreatY22
set_option maxHeartbeats 16000000
set_option maxRecDepth 100000
set_option linter.all false
namespace Go.Proofs.YtpekmdpbfjdjkaaGreat.cL
open Go Go.RowKit ag.ax ag.aV ag.aU aD fr plain iK crc
theorem n9 (x:Nat) (h:x<18446744073709551616):IntKind.u64.wrap (x:Int)=(x:Int):=IntWalk.u64_in _ (by omega)
theorem lX (k:IntKind) (x i:Nat) (h:i≤k.bits):shr k (x:Int) (i:Int)=((x / 2 ^ i:Nat):Int):=by
 unfold shr;rw [Int.toNat_natCast,Nat.min_eq_left h];norm_cast
theorem nc (x j:Nat) (hx:x<18446744073709551616):Go.bits .and .u64 ((x / 2 ^ j:Nat):Int) 1=((x.testBit j).toNat:Int):=by
 have hd:x / 2 ^ j<18446744073709551616:=iX (Nat.div_le_self _ _) hx;rw [show (1:Int)=((1:Nat):Int) from rfl,u64_and_nat _ 1 hd (by omega),Nat.and_one_is_mod,Nat.testBit_eq_decide_div_mod_eq];have h2:x / 2 ^ j % 2<2:=Nat.mod_lt _ (by omega);by_cases h:x / 2 ^ j % 2=1
 ·rw [h];rfl
 ·rw [show x / 2 ^ j % 2=0 by omega];rfl
theorem Br (x:Nat) (hx:x<4294967296) (b:Bool):bH.f (x:Int) ((b.toNat:Nat):Int)=some ((kw x b:Nat):Int):=by
 have hb:b.toNat≤1:=by cases b<;>decide
 unfold bH.f;rw [show (x:Int)*2=((2*x:Nat):Int) by omega,n9 _ (by omega),show ((2*x:Nat):Int)+((b.toNat:Nat):Int)=((2*x+b.toNat:Nat):Int) by omega,n9 _ (by omega)];unfold kw;by_cases h:4294967296≤2*x+b.toNat
 ·rw [if_pos (by omega),if_pos h,show (4812730177:Int)=((4812730177:Nat):Int) from rfl,u64_xor_nat _ _ (by omega) (by omega)]
 ·rw [if_neg (by omega),if_neg h]
theorem uN (x:Nat) (hx:x<4294967296) (b:Bool):kw x b<4294967296:=by
 have h:=ow (BitVec.ofNat 32 x) b;rw [kZ,jM (by omega)] at h;rw [h];exact (rev _).isLt
theorem uS (x:Nat) (hx:x<4294967296):∀(d i k acc:Nat),i+d=32→d+1≤k→acc<2 ^ i→(∀j,acc.testBit j=(decide (j<i)&&x.testBit (i - 1 - j)))→
 bU.l0 k (x:Int) (acc:Int) (i:Int)=some (((rev (BitVec.ofNat 32 x)).toNat:Nat):Int):=by
 intro d;induction d with
 | zero=>
  intro i k acc hi hk ha hj;obtain ⟨k,rfl⟩:∃n,k=n+1:=⟨k - 1,by omega⟩;rw [bU.l0,if_neg (by omega)];congr 2;apply Nat.eq_of_testBit_eq;intro j;rw [hj];by_cases h:j<32
  ·have hr:(rev (BitVec.ofNat 32 x)).toNat.testBit j=(rev (BitVec.ofNat 32 x)).getLsbD j:=rfl;rw [hr,kN _ _ h,BitVec.getLsbD_ofNat];obtain rfl:i=32:=by omega
   simp [h,show 31 - j<32 by omega]
  ·rw [gx (Nat.lt_of_lt_of_le (rev _).isLt (cK (by omega) (by omega)))];simp [show ¬j<i by omega]
 | succ d ih=>
  intro i k acc hi hk ha hj;obtain ⟨k,rfl⟩:∃n,k=n+1:=⟨k - 1,by omega⟩;have hp:2 ^ i≤2 ^ 31:=cK (by omega) (by omega);have hb:(x.testBit i).toNat≤1:=by cases x.testBit i<;>decide
  rw [bU.l0,if_pos (by omega),if_pos (by omega),lX .u64 x i (by show i≤64;omega),nc x i (by omega),show (acc:Int)*2=((2*acc:Nat):Int) by omega,n9 _ (by omega),
   show ((2*acc:Nat):Int)+(((x.testBit i).toNat:Nat):Int)=((2*acc+(x.testBit i).toNat:Nat):Int) by omega,n9 _ (by omega),IntWalk.wrap64_in _ (by omega),show (i:Int)+1=((i+1:Nat):Int) by omega]
  refine ih (i+1) k _ (by omega) (by omega) (by rw [eK];omega) (fun j=>?_);cases j with
  | zero=>rw [so];simp
  | succ j=>
   rw [pA,hj];simp only [Nat.add_lt_add_iff_right];rw [show i+1 - 1 - (j+1)=i - 1 - j by omega]
theorem vW (x:Nat) (hx:x<4294967296) (k:Nat) (hk:33≤k):bU.f k (x:Int)=some (((rev (BitVec.ofNat 32 x)).toNat:Nat):Int):=
 uS x hx 32 0 k 0 rfl hk (by decide) (fun j=>by simp)
def zq (l:List Int):List Bool:=(l.map Int.toNat).flatMap kx
theorem qm (c:Int) (l:List Int):zq (c::l)=kx c.toNat++zq l:=rfl
theorem mW (l:List Int):(zq l).length=8*l.length:=by
 induction l with
 | nil=>rfl
 | cons c l ih=>rw [qm,List.length_append,fR,ih,List.length_cons];omega
theorem xp (l:List Int):∀i,i<8*l.length→(zq l)[i]? = some ((l.getD (i / 8) 0).toNat.testBit (i % 8)):=by
 induction l with
 | nil=>intro i h;simp at h
 | cons c l ih=>
  intro i h;rw [qm];by_cases h8:i<8
  ·rw [cD (by rw [fR];exact h8),kx,lM,List.getElem?_range h8,show i / 8=0 by omega,show i % 8=i by omega];rfl
  ·rw [di (by rw [fR];omega),fR,ih (i - 8) (by rw [List.length_cons] at h;omega),show i / 8=(i - 8) / 8+1 by omega,show i % 8=(i - 8) % 8 by omega];rfl
def BL (l:List Int):List Bool:=mixed 0xFFFFFFFF#32 (zq l++List.replicate 32 false)
theorem wC (l:List Int):(BL l).length=8*l.length+32:=by rw [BL,mixed,List.length_mapIdx,List.length_append,ey,mW]
def po (l:List Int) (i:Nat):Bool:=if i<8*l.length then (l.getD (i / 8) 0).toNat.testBit (i % 8) else false
theorem zS (l:List Int) (i:Nat) (h:i<8*l.length+32):(BL l)[i]? = some (po l i ^^ decide (i<32)):=by
 have e:(zq l++List.replicate 32 false)[i]? = some (po l i):=by
  unfold po;by_cases g:i<8*l.length
  ·rw [if_pos g,cD (by rw [mW];exact g),xp l i g]
  ·rw [if_neg g,di (by rw [mW];omega),List.getElem?_replicate,if_pos (by rw [mW];omega)]
 rw [BL,mixed,List.getElem?_mapIdx,e,dh];congr 2;by_cases g:i<32
 ·rw [decide_eq_true g,show (0xFFFFFFFF#32:BitVec 32)=BitVec.allOnes 32 from rfl,BitVec.getLsbD_allOnes,decide_eq_true g]
 ·rw [decide_eq_false g,eP _ _ (by omega)]
theorem y8 (a b:Bool):Go.bits .xor .u64 ((a.toNat:Nat):Int) ((b.toNat:Nat):Int)=(((a ^^ b).toNat:Nat):Int):=by
 cases a<;>cases b<;>rfl
theorem uB (i:Nat) (h:i<32):Go.bits .and .u64 (IntKind.u64.wrap (shr .u32 4294967295 (i:Int))) 1=((true.toNat:Nat):Int):=by
 rw [show (4294967295:Int)=((4294967295:Nat):Int) from rfl,lX .u32 _ i (by show i≤32;omega),n9 _ (iX (Nat.div_le_self _ _) (by omega)),nc _ _ (by omega),
  show (4294967295:Nat)=2 ^ 32 - 1 from rfl,Nat.testBit_two_pow_sub_one,decide_eq_true h]
theorem zh (l:List Int) (hb:aq l) (i:Nat) (h:i<8*l.length):Go.bits .and .u64 (IntKind.u64.wrap (shr .u8 (rd l ((i / 8:Nat):Int)) ((i % 8:Nat):Int))) 1=(((po l i).toNat:Nat):Int):=by
 have hlt:i / 8<l.length:=by omega
 have hc:=hb (l.getD (i / 8) 0) (by rw [List.getD_eq_getElem?_getD,List.getElem?_eq_getElem hlt];exact List.getElem_mem hlt);have e:rd l ((i / 8:Nat):Int)=(((l.getD (i / 8) 0).toNat:Nat):Int):=by rw [rd,Int.toNat_natCast];omega
 rw [e,lX .u8 _ _ (by show i % 8≤8;omega),n9 _ (iX (Nat.div_le_self _ _) (by omega)),nc _ _ (by omega),po,if_pos h]
theorem CQ (l:List Int) (hb:aq l) (hL:l.length≤100000000):∀(d i k x:Nat),i+d=8*l.length+32→d+34≤k→x<4294967296→
 aH.l0 k 4294967295 l (x:Int) ((8*l.length+32:Nat):Int) (i:Int)=some (((rev (BitVec.ofNat 32 (((BL l).drop i).foldl kw x))).toNat:Nat):Int):=by
 intro d;induction d with
 | zero=>
  intro i k x hi hk hx;obtain ⟨k,rfl⟩:∃n,k=n+1:=⟨k - 1,by omega⟩;rw [aH.l0,if_neg (by omega),vW x hx k (by omega),aj,List.drop_eq_nil_of_le (by rw [wC];omega),oh];congr 1;have:=(rev (BitVec.ofNat 32 x)).isLt;omega
 | succ d ih=>
  intro i k x hi hk hx;obtain ⟨k,rfl⟩:∃n,k=n+1:=⟨k - 1,by omega⟩;have hd:(BL l).drop i=(po l i ^^ decide (i<32))::(BL l).drop (i+1):=by
   have hlt:i<(BL l).length:=by rw [wC];omega
   have hg:=zS l i (by omega);rw [List.getElem?_eq_getElem hlt] at hg;rw [ap hlt];congr 1;injection hg
  have next:∀b,b=(po l i ^^ decide (i<32))→(bH.f (x:Int) ((b.toNat:Nat):Int)).bind (fun t=>aH.l0 k 4294967295 l t ((8*l.length+32:Nat):Int) (wrap64 ((i:Int)+1)))=some (((rev (BitVec.ofNat 32 (((BL l).drop i).foldl kw x))).toNat:Nat):Int):=by
   rintro b rfl;rw [Br x hx,aj,IntWalk.wrap64_in _ (by omega),show (i:Int)+1=((i+1:Nat):Int) by omega,ih (i+1) k _ (by omega) (by omega) (uN x hx _),hd,dD]
  have e8:wrap64 (8*(l.length:Int))=((8*l.length:Nat):Int):=by rw [IntWalk.wrap64_in _ (by omega)];omega
  have ed:wrap64 (Int.tdiv (i:Int) 8)=((i / 8:Nat):Int):=by
   rw [show Int.tdiv (i:Int) 8=((i / 8:Nat):Int) from rfl];exact IntWalk.wrap64_in _ (by omega)
  have em:Int.tmod (i:Int) 8=((i % 8:Nat):Int):=rfl;rw [aH.l0,if_pos (by omega),e8,ed,em];by_cases h1:i<8*l.length
  ·rw [if_pos (by omega),if_pos (by omega),if_pos (by omega),if_pos (by omega)];by_cases h2:i<32
   ·rw [if_pos (by omega),if_pos (by omega),zh l hb i h1,uB i h2,y8];exact next _ (by rw [decide_eq_true h2])
   ·rw [if_neg (by omega),zh l hb i h1];exact next _ (by rw [decide_eq_false h2,Bool.xor_false])
  ·have hr:po l i=false:=by rw [po,if_neg h1]
   rw [if_neg (by omega)];by_cases h2:i<32
   ·rw [if_pos (by omega),if_pos (by omega),uB i h2,show (0:Int)=((false.toNat:Nat):Int) from rfl,y8];exact next _ (by rw [hr,decide_eq_true h2])
   ·rw [if_neg (by omega),show (0:Int)=((false.toNat:Nat):Int) from rfl];exact next _ (by rw [hr,decide_eq_false h2];rfl)
theorem uM (l:List Int) (r:Nat):(l.map Int.toNat).foldl iz r=pe r l:=by rw [pe,List.foldl_map]
theorem uY (l:List Int) (hb:aq l) (hL:l.length≤100000000) (k:Nat) (hk:8*l.length+66≤k):eD.f k l=some ((eH l:Nat):Int):=by
 have hl:=CQ l hb hL (8*l.length+32) 0 k 0 (by omega) (by omega) (by omega);have hD:(D 0xFFFFFFFF#32 (zq l)).toNat=pe 4294967295 l:=by
  have h:=tR (l.map Int.toNat) 0xFFFFFFFF#32 (fun c hc=>by
   obtain ⟨x,hx,rfl⟩:=List.mem_map.1 hc;have:=hb x hx;omega)
  rw [show (D 0xFFFFFFFF#32 (zq l)).toNat=_ from h,uM];rfl
 have hlt:=yw l 4294967295 (by omega) hb;rw [List.drop_zero,BL,xN,BitVec.ofNat_toNat,BitVec.setWidth_eq,rev_rev,hD] at hl;have e8:wrap64 (wrap64 (8*(l.length:Int))+32)=((8*l.length+32:Nat):Int):=by
  rw [IntWalk.wrap64_in (8*(l.length:Int)) (by omega),IntWalk.wrap64_in _ (by omega)];omega
 have hf:aH.f k (Go.bits .xor .u32 0 4294967295) l=some ((pe 4294967295 l:Nat):Int):=by
  rw [aH.f,e8,show Go.bits .xor .u32 0 4294967295=(4294967295:Int) from by rw [show (0:Int)=((0:Nat):Int) from rfl,show (4294967295:Int)=((4294967295:Nat):Int) from rfl,pO _ _ (by omega) (by omega)];rfl];exact hl
 rw [eD.f,eo.f,hf,aj,aj];congr 1;rw [show (4294967295:Int)=((4294967295:Nat):Int) from rfl,pO _ _ hlt (by omega),Nat.xor_comm,zk _ hlt];rfl
end Go.Proofs.YtpekmdpbfjdjkaaGreat.cL
namespace Go.Proofs.YtpekmdpbfjdjkaaGreat.ref
open Go Go.RowKit ag.ax ag.aV ag.aU aD fr iK cL plain fE
def tm (d m:Nat):Nat→Nat→Bool
 | 0,_=>false
 | n+1,i=>(m.testBit i&&decide (d<i+2))||tm d m n (i+1)
theorem Ao (d m:Nat):∀(n i:Nat),tm d m n i=true↔∃j,i≤j∧j<i+n∧m.testBit j=true∧d<j+2:=by
 intro n;induction n with
 | zero=>intro i;simp only [tm,Bool.false_eq_true,false_iff];rintro ⟨j,h1,h2, -⟩;omega
 | succ n ih=>
  intro i;rw [tm,Bool.or_eq_true,Bool.and_eq_true,decide_eq_true_eq,ih];constructor
  ·rintro (⟨h1,h2⟩|⟨j,h1,h2,h3,h4⟩)
   ·exact ⟨i,Nat.le_refl _,by omega,h1,h2⟩
   ·exact ⟨j,by omega,by omega,h3,h4⟩
  ·rintro ⟨j,h1,h2,h3,h4⟩;by_cases h:j=i
   ·subst h;exact .inl ⟨h3,h4⟩
   ·exact .inr ⟨j,by omega,by omega,h3,h4⟩
theorem um (a s:Int) (d m:Nat) (hd:IntKind.u64.wrap (s - a)=(d:Int)) (hm:m<18446744073709551616):∀(n i k:Nat),i+n=64→n+1≤k→bA.l0 k a (m:Int) s (i:Int)=some (tm d m n i):=by
 intro n;induction n with
 | zero=>
  intro i k hi hk;obtain ⟨k,rfl⟩:∃x,k=x+1:=⟨k - 1,by omega⟩;rw [bA.l0,if_neg (by omega)];rfl
 | succ n ih=>
  intro i k hi hk;obtain ⟨k,rfl⟩:∃x,k=x+1:=⟨k - 1,by omega⟩;have e2:IntKind.u64.wrap ((i:Int)+2)=(i:Int)+2:=IntWalk.u64_in _ (by omega);have e1:IntKind.u64.wrap ((i:Int)+1)=((i+1:Nat):Int):=IntWalk.u64_in _ (by omega);rw [bA.l0,if_pos (by omega),if_pos (by omega),cL.lX .u64 m i (by show i≤64;omega),cL.nc m i hm,e2,hd,e1,ih (i+1) k (by omega) (by omega),tm];cases m.testBit i with
  | false=>rw [if_neg (by decide)];simp
  | true=>
   rw [if_pos (by decide)];by_cases h:d<i+2
   ·rw [if_pos (by omega),decide_eq_true h];rfl
   ·rw [if_neg (by omega),decide_eq_false h];simp
theorem lz (m:Nat) (h0:m≠0) (h:m<18446744073709551616):Lib.bitLen m=Nat.log2 m+1:=by
 have h1:=Nat.log2_self_le h0;have h2:m<2 ^ (Nat.log2 m+1):=Nat.lt_log2_self;have hq:m / 2 ^ Nat.log2 m=1:=by
  have hp:0<2 ^ Nat.log2 m:=Nat.two_pow_pos _;rw [eK] at h2;have a:1≤m / 2 ^ Nat.log2 m:=(Nat.le_div_iff_mul_le hp).2 (by omega);have b:m / 2 ^ Nat.log2 m<2:=(gQ hp).2 (by omega);omega
 rw [Lib.bitLen_shift (Nat.log2 m) m h1 h,hq];rfl
theorem qR (a s mask:Int) (h0:0≤a) (h1:a≤s) (h2:s≤18446744073709551615) (m0:0≤mask) (m1:mask≤18446744073709551615):bA.f 65 a mask s=some (dO.mS s a mask):=by
 obtain ⟨m,rfl⟩:=Int.eq_ofNat_of_zero_le m0;have hd:IntKind.u64.wrap (s - a)=(((s - a).toNat:Nat):Int):=by rw [IntWalk.u64_in _ (by omega)];omega
 have h:=um a s (s - a).toNat m hd (by omega) 64 0 65 rfl (Nat.le_refl _);rw [bA.f,show (0:Int)=((0:Nat):Int) from rfl,h];congr 1;rw [Bool.eq_iff_iff,Ao,dO.mS,Bool.and_eq_true,mq,decide_eq_true_eq,hd];have hh:=tv m (s - a).toNat (by omega);constructor
 ·rintro ⟨j, -,h3,h4,h5⟩;obtain ⟨g1,g2⟩:=hh.1 ⟨j,by omega,h4,h5⟩;refine ⟨by omega,?_⟩;rw [Int.toNat_natCast,lz m g1 (by omega)];omega
 ·rintro ⟨g1,g2⟩;have g1':m≠0:=by omega
  rw [Int.toNat_natCast,lz m g1' (by omega)] at g2;obtain ⟨j,h3,h4,h5⟩:=hh.2 ⟨g1',by omega⟩;exact ⟨j,aI _,by omega,h4,h5⟩
end Go.Proofs.YtpekmdpbfjdjkaaGreat.ref
namespace Go.Proofs.YtpekmdpbfjdjkaaGreat.ref
open Go Go.RowKit ag.ax ag.aV ag.aU aD fr iK cL plain fE dO
def rE (del win:Int):Option Int→List jE→Bool
 | _,[]=>true
 | prev,f::r=>if qO f.f1.length=true then if f.f0≤del then false else if IntKind.u64.wrap (f.f0 - del)<2 then false else if win<IntKind.u64.wrap (f.f0 - del) then false else if (∃k∈prev,f.f0≤k) then false else rE del win (some f.f0) r else false
theorem C9 (del win:Int) (h0:0≤del) (h1:del≤18446744073709551615) (l:List jE):∀(prev:Option Int) (last:Int),(∀f∈l,0≤f.f0∧f.f0≤18446744073709551615)→((prev=none∧last=1)∨∃k,prev=some k∧last=k - del∧2≤last)→rE del win prev l=kp del win l last:=by
 induction l with
 | nil=>intro prev last _ _;rfl
 | cons f r ih=>
  intro prev last hb hp;obtain ⟨b0,b1⟩:=hb f (by simp);rw [rE,kp];by_cases g1:f.f0≤del
  ·rw [if_pos g1,if_pos g1];split<;>rfl
  rw [if_neg g1,if_neg g1];have hw:IntKind.u64.wrap (f.f0 - del)=f.f0 - del:=by
   exact IntWalk.u64_in _ (by omega)
  rw [hw];by_cases gs:qO f.f1.length=true
  case neg=>rw [if_neg gs,if_neg gs];(repeat' split)<;>rfl
  rw [if_pos gs,if_pos gs];rcases hp with ⟨rfl,rfl⟩|⟨k,rfl,hk,h2⟩
  ·by_cases g2:f.f0 - del<2
   ·rw [if_pos g2,if_pos (show f.f0 - del≤1 by omega)]
   rw [if_neg g2,if_neg (show ¬f.f0 - del≤1 by omega)];by_cases g3:win<f.f0 - del
   ·rw [if_pos g3,if_pos g3]
   rw [if_neg g3,if_neg g3,if_neg (c:=∃k,k∈none∧f.f0≤k) (fun ⟨k,hk,_⟩=>by cases hk)];exact ih _ _ (fun x hx=>hb x (by simp [hx])) (Or.inr ⟨_,rfl,rfl,by omega⟩)
  ·by_cases g4:f.f0 - del≤last
   ·have g5:∃q∈some k,f.f0≤q:=⟨k,rfl,by omega⟩;rw [if_pos g4,if_pos g5];(repeat' split)<;>rfl
   have g5:¬∃q∈some k,f.f0≤q:=by
    rintro ⟨q,hq,hh⟩;cases hq
    omega
   rw [if_neg g4,if_neg g5,if_neg (show ¬f.f0 - del<2 by omega)];by_cases g3:win<f.f0 - del
   ·rw [if_pos g3,if_pos g3]
   rw [if_neg g3,if_neg g3];exact ih _ _ (fun x hx=>hb x (by simp [hx])) (Or.inr ⟨_,rfl,rfl,by omega⟩)
def kX (l:List eW) (key:Int):Int:=((l.find? fun s=>decide (s.f0≤key)&&decide (key≤s.f1)).map (·.f2)).getD 255
theorem xn (key:Int) (h1:key≤18446744073709551615) (l:List eW):∀next,xJ l→next≤key→jc l next false=true→kX l key=iE l key:=by
 induction l with
 | nil=>intro next _ _ _;rfl
 | cons s r ih=>
  intro next hb hk ht;obtain ⟨b0,b1,b2⟩:=hb s (by simp);rw [jc,if_neg (by simp)] at ht;by_cases g1:s.f0=next
  case neg=>rw [if_neg g1] at ht;cases ht
  rw [if_pos g1] at ht;by_cases g2:s.f0≤s.f1
  case neg=>rw [if_neg g2] at ht;cases ht
  rw [if_pos g2] at ht;by_cases g3:s.f2≤15
  case neg=>rw [if_neg g3] at ht;cases ht
  rw [if_pos g3] at ht;unfold kX iE;by_cases g4:key≤s.f1
  ·rw [js (by simp;omega),js (by simpa using g4)]
  rw [gy (by simp;omega),gy (by simpa using g4)];have hw:IntKind.u64.wrap (s.f1+1)=s.f1+1:=by
   exact IntWalk.u64_in _ (by omega)
  have hn:(s.f1 == 18446744073709551615)=false:=by rw [bi];omega
  rw [hw,hn] at ht;exact ih _ (fun x hx=>hb x (by simp [hx])) (by omega) ht
theorem bt {W w w':World} {g:Nat} (h:Below W.heap.size W w) (hG:w.grownBy w' (some g)) (hg:W.heap.size≤g):Below W.heap.size W w':=
 h.trans ⟨hG.os,hG.tape,hG.output,hG.size,fun k hk=>by
  rcases dg k w.heap.size with hlt|hge
  ·exact hG.block k hlt (fun he=>by injection he with he;omega)
  ·exact absurd hk (by have:=h.size;omega)⟩
theorem zi (A:Option Addr) (c:Nat) (l:List Int) (W:World) (hl:Kd.C (Kd.int .u8) W A l.length l) (hc:l.length≤c) :
 Calls Tryz.prog 138 #[.slice A l.length c] W fun e w'=>e = .returned (.bool (!qO l.length))∧∃n,w'=W.drewN n:=
 (gV.calls A c l _ W hl hc (by
  unfold gV.f qO;by_cases h:(l.length:Int)=0
  ·rw [if_pos h,decide_eq_false (show ¬(1:Int)≤(l.length:Int) by omega)];rfl
  ·rw [if_neg h,decide_eq_true (show (1:Int)≤(l.length:Int) by omega),iJ,←decide_not];congr 1;exact decide_eq_decide.2 (by omega))).mono fun e w' h=>⟨h.1,h.2.1⟩
def AS (x:gX):Bool:=if x.f0<x.f1 then false else if IntKind.u64.wrap (x.f0 - x.f1)≠(x.f2.length:Int) then false else if 16<(x.f2.length:Int) then false else if mS x.f0 x.f1 x.f3=true then false else if kI x.f2=true then false else rE x.f4 16 none x.f5
def kE (l:List jE) (i:Nat):Option Int:=if i=0 then none else some (dG l ((i - 1:Nat):Int)).f0
theorem zv (b:Nat) (self hosts:Int) (v:Value) (x:gX) (A2 A5:Option Addr) (c2 c5:Nat) (W:World) (hb:W.heap[b]? = some (.cells #[.bool true, .int .i64 self, .int .i64 hosts, .int .i64 16, .int .i64 16,v] 192 (0,0)))
 (h2:Kd.C (Kd.slice 5 (Kd.int .u8)) W A2 x.f2.length x.f2) (l2:x.f2.length≤c2) (h5:Kd.C jC W A5 x.f5.length x.f5) (l5:x.f5.length≤c5) (hx:qQ x) :
 Calls Tryz.prog 109 #[.pointer (some ⟨b,0,none⟩), .agg (ew x A2 A5 c2 c5)] W (rV W (AS x)):=by
 have hu68:=Tryz.underlying68;have hu99:=Tryz.underlying99;have HB:=aa hb;have H2:=aa h2;have H5:=aa h5;have HX:=aa hx;have hL:=hx.l2;have hL5:=hx.l5;have LB:=aa (ak hb);generalize hO:AS x=o;unfold AS at hO;have HO:=aa hO;have NO:=aa (show ∀W',false=o→Below W.heap.size W W'→rV W o (.returned (.bool false)) W' from fun W' e h=>by subst e;exact ⟨rfl,h⟩);clear hb h2 h5 hx hO;have hwl:IntKind.u64.wrap (x.f2.length:Int)=(x.f2.length:Int):=IntWalk.u64_in _ (by omega);unfold ew;go_in;go_wp2_with fail;have BX:=aa (aJ W (.cells #[.int .u64 x.f0, .int .u64 x.f1, .slice A2 x.f2.length c2, .int .u64 x.f3, .int .u64 x.f4, .slice A5 x.f5.length c5] 68));have B1:=aa (ah (Below.refl _ W) (.cells #[.int .u64 x.f0, .int .u64 x.f1, .slice A2 x.f2.length c2, .int .u64 x.f3, .int .u64 x.f4, .slice A5 x.f5.length c5] 68));generalize World.alloc W _=W1 at BX B1 ⊢;have NB:=aa (show b≠W.heap.size by have:=LB.1;omega);generalize W.heap.size=bb at BX NB ⊢;have HB1:=aa ((B1.1.block b LB.1).trans HB.1);have k3:W1.cell? ⟨b,3,none⟩=some (.int .i64 16):=cell_of HB1.1 3;have e0:W1.cell? ⟨bb,0,none⟩=some (.int .u64 x.f0):=cell_of BX.1 0;have e1:W1.cell? ⟨bb,1,none⟩=some (.int .u64 x.f1):=cell_of BX.1 1;have e2:W1.cell? ⟨bb,2,none⟩=some (.slice A2 x.f2.length c2):=cell_of BX.1 2;have e3:W1.cell? ⟨bb,3,none⟩=some (.int .u64 x.f3):=cell_of BX.1 3;by_cases g1:x.f0<x.f1
 ·have g1b:decide (x.f0<x.f1)=true:=decide_eq_true g1;have HO2:=aa (show false=o by rw [←HO.1,if_pos g1]);clear HO g1;go_quiet (fail);go_wp2_with fail;go_ret;exact NO.1 _ HO2.1 (ai B1.1 _)
 have g1b:decide (x.f0<x.f1)=false:=decide_eq_false g1;have G1:=aa g1;by_cases g2:IntKind.u64.wrap (x.f0 - x.f1)≠(x.f2.length:Int)
 ·have g2b:(IntKind.u64.wrap (x.f0 - x.f1) != (x.f2.length:Int))=true:=by simpa using g2
  have HO2:=aa (show false=o by rw [←HO.1,if_neg g1,if_pos g2]);clear HO g1 g2;go_quiet (fail);go_wp2_with fail;go_ret;exact NO.1 _ HO2.1 (ai B1.1 _)
 have g2b:(IntKind.u64.wrap (x.f0 - x.f1) != (x.f2.length:Int))=false:=by simpa using g2
 by_cases g3:16<(x.f2.length:Int)
 ·have g3b:decide (16<(x.f2.length:Int))=true:=decide_eq_true g3;have HO2:=aa (show false=o by rw [←HO.1,if_neg g1,if_neg g2,if_pos g3]);clear HO g1 g2 g3;go_quiet (fail);go_wp2_with fail;go_ret;exact NO.1 _ HO2.1 (ai B1.1 _)
 have g3b:decide (16<(x.f2.length:Int))=false:=decide_eq_false g3;have TM:=aa (fun (n:Nat)=>(bA.calls 65 x.f1 x.f3 x.f0 _ (W1.drewN n) (qR x.f1 x.f0 x.f3 HX.1.m1'.1 (by omega) HX.1.m0'.2 HX.1.m0 HX.1.m1)).mono fun e w' h=>And.intro h.1 h.2.1);cases g4:mS x.f0 x.f1 x.f3 with
 | true=>
  have HO2:=aa (show false=o by rw [←HO.1,if_neg g1,if_neg g2,if_neg g3,if_pos g4]);rw [g4] at TM;clear HO g1 g2 g3 g4;go_quiet ((go_at_call 137;with_reducible exact gj (TM.1 _)));go_wp2_with fail;go_ret;exact NO.1 _ HO2.1 (ai B1.1 _)
 | false=>
 have HO2:=aa (show (if kI x.f2=true then false else rE x.f4 16 none x.f5)=o by rw [←HO.1,if_neg g1,if_neg g2,if_neg g3,if_neg (show ¬mS x.f0 x.f1 x.f3=true by rw [g4];simp)]);rw [g4] at TM;clear HO g1 g2 g3 g4;go_quiet ((go_at_call 137;with_reducible exact gj (TM.1 _)));clear g1b g2b g3b hwl e0 e1 e2 e3 k3 TM;have BX1:=aa (show (W1.drewN nq).heap[bb]? = some (.cells #[.int .u64 x.f0, .int .u64 x.f1, .slice A2 x.f2.length c2, .int .u64 x.f3, .int .u64 x.f4, .slice A5 x.f5.length c5] 68 (0,0)) from BX.1);have HB2:=aa (show (W1.drewN nq).heap[b]? = some (.cells #[.bool true, .int .i64 self, .int .i64 hosts, .int .i64 16, .int .i64 16,v] 192 (0,0)) from HB1.1);have B2:=aa (ai B1.1 nq);generalize World.drewN W1 nq=w1 at BX1 HB2 B2 ⊢;clear BX HB1 B1;go_wp2_with fail;go_loopw [5] (fun v5 wr=>∃i:Nat,i≤x.f2.length∧v5 = .int .i64 i∧af ((if kI (x.f2.drop i)=true then false else rE x.f4 16 none x.f5)=o)∧af (Below w1.heap.size w1 wr)) (fun v _=>x.f2.length - (intOf v).toNat)
 case atStart=>exact ⟨0,aI _,rfl,HO2,⟨Below.refl _ _⟩⟩
 case round=>
  obtain ⟨i,hi,rfl,HU,HW⟩:=hrel;clear HO2;have HWW:=aa (B2.1.trans (HW.1.mono B2.1.size));have BX3:=aa ((HW.1.block bb (ak BX1.1)).trans BX1.1);have HB3:=aa ((HW.1.block b (ak HB2.1)).trans HB2.1);have e2:wr.cell? ⟨bb,2,none⟩=some (.slice A2 x.f2.length c2):=cell_of BX3.1 2;by_cases hlt:i<x.f2.length
  ·obtain ⟨ad,c1,e1,_,hK,hc0⟩:=Kd.fw (Kd.aN H2.1 HWW.1) [] (i:Int) (by omega) (by omega);obtain ⟨A1,cc,rfl,hcc,hC1⟩:=hK;have hx0:=hc0 0 _ rfl;subst e1;simp only [Int.toNat_natCast,show (Kd.slice 5 (Kd.int .u8)).sz=1 from rfl,Nat.mul_one,Nat.add_zero,List.getD_eq_getElem?_getD,List.getElem?_eq_getElem hlt,Option.getD_some] at hx0 hcc hC1;have U:=HU.1;rw [ap hlt,kI,List.any_cons] at U;generalize x.f2[i]=y at hx0 U hcc hC1;have U2:=aa U;have LG:=aa (zi A1 cc y wr hC1 hcc);clear HU U hC1 hc0 hcc;go_wp2_with fail;refine LG.1.mono ?_;rintro r w2 ⟨rfl,nq,rfl⟩;clear LG;cases hz:qO y.length with
   | true=>
    have U3:=aa (show (if kI (x.f2.drop (i+1))=true then false else rE x.f4 16 none x.f5)=o by have U:=U2.1;rw [hz] at U;exact U);clear U2 hz;go_wp2_with fail;go_roundw
    case rel=>exact ⟨i+1,by omega,by go_num,U3,⟨ai HW.1 _⟩⟩
    case measure=>
     show x.f2.length - ((i:Int)+1).toNat<x.f2.length - (i:Int).toNat;omega
   | false=>
    have U3:=aa (show false=o by have U:=U2.1;rw [hz] at U;exact U);clear U2 hz;go_wp2_with fail;go_ret;exact NO.1 _ U3.1 (ai HWW.1 _)
  have HO5:=aa (show rE x.f4 16 (kE x.f5 0) (x.f5.drop 0)=o by have J:=HU.1;rw [List.drop_eq_nil_of_le (by omega)] at J;exact J);go_wp2_with fail;clear HU hlt hi e2 HW BX1 HB2 B2;generalize wr=wo at BX3 HB3 HWW ⊢;go_loopw [6] (fun v6 wr=>∃i:Nat,i≤x.f5.length∧v6 = .int .i64 i∧af (rE x.f4 16 (kE x.f5 i) (x.f5.drop i)=o)∧af (Below wo.heap.size wo wr)) (fun v _=>x.f5.length - (intOf v).toNat)
  case atStart=>exact ⟨0,aI _,rfl,HO5,⟨Below.refl _ _⟩⟩
  case round=>
   obtain ⟨i,hi,rfl,J0,HW⟩:=hrel;clear HO5;have HW2:=aa (HWW.1.trans (HW.1.mono HWW.1.size));have BX4:=aa ((HW.1.block bb (ak BX3.1)).trans BX3.1);have HB4:=aa ((HW.1.block b (ak HB3.1)).trans HB3.1);have e5:wr.cell? ⟨bb,5,none⟩=some (.slice A5 x.f5.length c5):=cell_of BX4.1 5;by_cases hlt:i<x.f5.length
   case neg=>
    have HO6:=aa (show true=o by have J:=J0.1;rw [List.drop_eq_nil_of_le (by omega),rE] at J;exact J);go_wp2_with fail;go_ret;exact ⟨by rw [←HO6.1];rfl,HW2.1⟩
   obtain ⟨ad,c1,e1,_,hK,hc0⟩:=Kd.fw (Kd.aN H5.1 HW2.1) sI (i:Int) (by omega) (by omega);obtain ⟨A1,cc,rfl,hcc,hC1⟩:=gn hK;have hx0:=hc0 0 _ rfl;have hx1:=hc0 1 _ rfl;subst e1;simp only [Int.toNat_natCast,show jC.sz=2 from rfl,Nat.add_zero,List.getD_eq_getElem?_getD,List.getElem?_eq_getElem hlt,Option.getD_some] at hx0 hx1 hcc hC1;rw [dw _ _ 1 (by omega)] at hx1;have J:=J0.1;rw [ap hlt,rE] at J;have PV:=aa (show kE x.f5 (i+1)=some x.f5[i].f0 by unfold kE;rw [if_neg (by omega)];simp [dG,List.getD_eq_getElem?_getD,hlt]);generalize x.f5[i]=f at hx0 hx1 hcc hC1 J PV;have HJ:=aa J;have LG:=aa (fun (W':World) (h:Below wr.heap.size wr W')=>zi A1 cc f.f1 W' (Kd.aN hC1 h) hcc);clear hC1 hc0 hK J J0 hcc;go_wp2_with ((with_reducible refine gS 7 68 rfl ?_);refine sB #[.int .u64 f.f0, .slice A1 f.f1.length cc] (aJ wr _) ?_;intro wz FN hG;have WP:=aa (bt (ah (Below.refl _ wr) _) hG.1 (Nat.le_refl _));generalize wz=w3 at FN WP ⊢);have f0:w3.cell? ⟨wr.heap.size,0,none⟩=some (.int .u64 f.f0):=cell_of FN.1 0;have f1:w3.cell? ⟨wr.heap.size,1,none⟩=some (.slice A1 f.f1.length cc):=cell_of FN.1 1;clear hx0 hx1 e5;have WA:=aa (HW.1.trans (WP.1.mono HW.1.size));have W4:=aa (HW2.1.trans (WP.1.mono HW2.1.size));have BX5:=aa ((WP.1.block bb (ak BX4.1)).trans BX4.1);have HB5:=aa ((WP.1.block b (ak HB4.1)).trans HB4.1);have LG2:=aa (fun (n:Nat)=>LG.1 (w3.drewN n) (ai WP.1 n));have FB:=aa (show wr.heap.size<w3.heap.size from ak FN.1);have e4:w3.cell? ⟨bb,4,none⟩=some (.int .u64 x.f4):=cell_of BX5.1 4;have e5:w3.cell? ⟨bb,5,none⟩=some (.slice (some ad) x.f5.length c5):=cell_of BX5.1 5;have k4:w3.cell? ⟨b,4,none⟩=some (.int .i64 16):=cell_of HB5.1 4;have PB:=aa (fun (j:Nat) (hj:j<x.f5.length)=>Kd.fw (Kd.aN H5.1 (W4.1)) sI (j:Int) (by omega) (by omega));clear LG BX4 HB4 HW HW2 WP;generalize wr.heap.size=fb at f0 f1 FN FB ⊢;cases hz:qO f.f1.length with
   | false=>
    have HO2:=aa (show false=o by have J:=HJ.1;rw [hz] at J;exact J);simp only [hz,Bool.not_false] at LG2;clear HJ hz;go_quiet ((go_at_call 138;with_reducible exact gj (LG2.1 _)));go_wp2_with fail;go_ret;exact NO.1 _ HO2.1 (ai W4.1 _)
   | true=>
   simp only [hz,Bool.not_true] at LG2;rw [hz] at HJ;clear hz;by_cases g1:f.f0≤x.f4
   ·have g1b:decide (f.f0≤x.f4)=true:=decide_eq_true g1;have HO2:=aa (show false=o by have J:=HJ.1;rw [if_pos rfl,if_pos g1] at J;exact J);clear HJ g1;go_quiet ((go_at_call 138;with_reducible exact gj (LG2.1 _)));go_wp2_with fail;go_ret;exact NO.1 _ HO2.1 (ai W4.1 _)
   have g1b:decide (f.f0≤x.f4)=false:=decide_eq_false g1;by_cases g2:IntKind.u64.wrap (f.f0 - x.f4)<2
   ·have g2b:decide (IntKind.u64.wrap (f.f0 - x.f4)<2)=true:=decide_eq_true g2;have HO2:=aa (show false=o by have J:=HJ.1;rw [if_pos rfl,if_neg g1,if_pos g2] at J;exact J);clear HJ g1 g2;go_quiet ((go_at_call 138;with_reducible exact gj (LG2.1 _)));go_wp2_with fail;go_ret;exact NO.1 _ HO2.1 (ai W4.1 _)
   have g2b:decide (IntKind.u64.wrap (f.f0 - x.f4)<2)=false:=decide_eq_false g2;by_cases g3:16<IntKind.u64.wrap (f.f0 - x.f4)
   ·have g3b:decide (16<IntKind.u64.wrap (f.f0 - x.f4))=true:=decide_eq_true g3;have HO2:=aa (show false=o by have J:=HJ.1;rw [if_pos rfl,if_neg g1,if_neg g2,if_pos g3] at J;exact J);clear HJ g1 g2 g3;go_quiet ((go_at_call 138;with_reducible exact gj (LG2.1 _)));go_wp2_with fail;go_ret;exact NO.1 _ HO2.1 (ai W4.1 _)
   have g3b:decide (16<IntKind.u64.wrap (f.f0 - x.f4))=false:=decide_eq_false g3;have HJ2:=aa (show (if (∃k∈kE x.f5 i,f.f0≤k) then false else rE x.f4 16 (kE x.f5 (i+1)) (x.f5.drop (i+1)))=o by have J:=HJ.1;rw [if_pos rfl,if_neg g1,if_neg g2,if_neg g3] at J;rw [PV.1];exact J);clear HJ g1 g2 g3;go_quiet ((go_at_call 138;with_reducible exact gj (LG2.1 _)));clear g1b g2b g3b k4 e4 f1 LG2;have FN6:=aa (show (w3.drewN nq).heap[fb]? = some (.cells #[.int .u64 f.f0, .slice A1 f.f1.length cc] 99 (0,0)) from FN.1);have BX6:=aa (show (w3.drewN nq).heap[bb]? = some (.cells #[.int .u64 x.f0, .int .u64 x.f1, .slice A2 x.f2.length c2, .int .u64 x.f3, .int .u64 x.f4, .slice (some ad) x.f5.length c5] 68 (0,0)) from BX5.1);have WA6:=aa (ai WA.1 nq);have W6:=aa (ai W4.1 nq);generalize World.drewN w3 nq=w6 at FN6 BX6 WA6 W6 ⊢;clear FN BX5 HB5 WA W4 PB;go_wp2_with fail;have f0:w6.cell? ⟨fb,0,none⟩=some (.int .u64 f.f0):=cell_of FN6.1 0;have e5:w6.cell? ⟨bb,5,none⟩=some (.slice (some ad) x.f5.length c5):=cell_of BX6.1 5;rcases Nat.eq_zero_or_pos i with rfl|hpos
   ·have HO4:=aa (show rE x.f4 16 (kE x.f5 (0+1)) (x.f5.drop (0+1))=o by
     rw [←HJ2.1,if_neg (c:=∃k,k∈kE x.f5 0∧f.f0≤k) (fun ⟨k,hk,_⟩=>by cases hk)])
    clear HJ2;go_quiet (fail);go_wp2_with fail;go_roundw
    case rel=>exact ⟨0+1,by omega,by go_num,HO4,⟨ai WA6.1 _⟩⟩
    case measure=>
     show x.f5.length - ((0:Nat)+1:Int).toNat<x.f5.length - ((0:Nat):Int).toNat;omega
   ·obtain ⟨i',rfl⟩:∃i',i=i'+1:=⟨i - 1,by omega⟩;obtain ⟨ad',c1',e2,_,hK',hc0'⟩:=Kd.fw (Kd.aN H5.1 W6.1) sI (i':Int) (by omega) (by omega);obtain ⟨A1',cc',rfl,_,_⟩:=gn hK';injection e2 with e2;subst e2;have n0:=hc0' 0 _ rfl;have PK:=aa (show kE x.f5 (i'+1)=some (x.f5.getD (i':Int).toNat sI).f0 by unfold kE;rw [if_neg (by omega)];rfl);simp only [Int.toNat_natCast,show jC.sz=2 from rfl,Nat.add_zero] at n0 PK;generalize (x.f5.getD i' sI).f0=pk at n0 PK;clear hc0' hK';have hip:(0:Int)<((i'+1:Nat):Int):=by omega
    have hsub:wrap64 (((i'+1:Nat):Int) - 1)=(i':Int):=by rw [IntWalk.wrap64_in _ (by omega)];omega
    have hsub2:IntKind.i64.wrap (((i'+1:Nat):Int) - 1)=(i':Int):=by rw [aA _ (by omega)];omega
    have hil:(i':Int)<(x.f5.length:Int):=by omega
    have hwi:IntKind.i64.wrap (i':Int)=(i':Int):=aA _ (by omega);have hi0:(0:Int)≤(i':Int):=by omega
    by_cases gk:f.f0≤pk
    ·have gkb:decide (f.f0≤pk)=true:=decide_eq_true gk;have HO4:=aa (show false=o by
      rw [←HJ2.1,PK.1,if_pos (c:=∃k,k∈some pk∧f.f0≤k) ⟨pk,rfl,gk⟩])
     clear HJ2 gk;go_quiet (fail);go_wp2_with fail;go_ret;exact NO.1 _ HO4.1 (ai W6.1 _)
    have gkb:decide (f.f0≤pk)=false:=decide_eq_false gk;have HO4:=aa (show rE x.f4 16 (kE x.f5 (i'+1+1)) (x.f5.drop (i'+1+1))=o by
     rw [←HJ2.1,PK.1,if_neg (c:=∃k,k∈some pk∧f.f0≤k) (fun ⟨k,hk,hk2⟩=>gk (by injection hk with hk;rw [hk];exact hk2))])
    clear HJ2 gk;go_quiet (fail);go_wp2_with fail;go_roundw
    case rel=>exact ⟨i'+1+1,by omega,by go_num,HO4,⟨ai WA6.1 _⟩⟩
    case measure=>
     show x.f5.length - (((i'+1:Nat):Int)+1).toNat<x.f5.length - ((i'+1:Nat):Int).toNat;omega
theorem xS (l:List Int) (hL:l.length≤100000000):∀(d i k:Nat) (out:List Int),i+d=l.length→d+1≤k→out.length≤i→cj.l0 k l out (i:Int)=some (out++l.drop i):=by
 intro d;induction d with
 | zero=>
  intro i k out hi hk ho;obtain ⟨k,rfl⟩:∃n,k=n+1:=⟨k - 1,by omega⟩;rw [cj.l0,if_neg (by omega),List.drop_eq_nil_of_le (by omega),bM]
 | succ d ih=>
  intro i k out hi hk ho;obtain ⟨k,rfl⟩:∃n,k=n+1:=⟨k - 1,by omega⟩;have hlt:i<l.length:=by omega
  have hrd:rd l (i:Int)=l[i]:=by simp [rd,List.getD_eq_getElem?_getD,hlt]
  have hw:wrap64 ((i:Int)+1)=((i+1:Nat):Int):=IntWalk.wrap64_in _ (by omega);rw [cj.l0,if_pos (show (i:Int)<(l.length:Int) by omega),if_pos (show (0:Int)≤(i:Int) by omega),if_pos (show out.length<140737488355328 by omega),hw,hrd,ih (i+1) k _ (by omega) (by omega) (by simp;omega),ap hlt,List.append_assoc];rfl
theorem qE (l:List Int) (hL:l.length≤100000000) (k:Nat) (hk:l.length+1≤k):cj.f k l=some l:=by
 have h:=xS l hL l.length 0 k [] (by omega) hk (by simp);rw [List.drop_zero,List.nil_append] at h;exact h
theorem tP (l:List Int) (hL:l.length≤100000000):∀(d i k:Nat) (out:List Int),i+d=l.length→d+1≤k→out.length≤i→bT.l0 k l out (i:Int)=some (out++l.drop i):=by
 intro d;induction d with
 | zero=>
  intro i k out hi hk ho;obtain ⟨k,rfl⟩:∃n,k=n+1:=⟨k - 1,by omega⟩;rw [bT.l0,if_neg (by omega),List.drop_eq_nil_of_le (by omega),bM]
 | succ d ih=>
  intro i k out hi hk ho;obtain ⟨k,rfl⟩:∃n,k=n+1:=⟨k - 1,by omega⟩;have hlt:i<l.length:=by omega
  have hrd:rd l (i:Int)=l[i]:=by simp [rd,List.getD_eq_getElem?_getD,hlt]
  have hw:wrap64 ((i:Int)+1)=((i+1:Nat):Int):=IntWalk.wrap64_in _ (by omega);rw [bT.l0,if_pos (show (i:Int)<(l.length:Int) by omega),if_pos (show (0:Int)≤(i:Int) by omega),if_pos (show out.length<140737488355328 by omega),hw,hrd,ih (i+1) k _ (by omega) (by omega) (by simp;omega),ap hlt,List.append_assoc];rfl
theorem qV (l:List Int) (hL:l.length≤100000000) (k:Nat) (hk:l.length+1≤k):bT.f k l=some l:=by
 have h:=tP l hL l.length 0 k [] (by omega) hk (by simp);rw [List.drop_zero,List.nil_append] at h;exact h
theorem j9 {α:Type} {d:Kd α} {e base:Nat} {ok:Nat→Prop} {w w':World} {v:Value} {xs:List α} {b t:Nat} {cs:Array Value} (h:d.R e w base ok v xs) (hG:w.grownBy w' (some b)) (hb:w.heap[b]? = some (.cells cs t (0,0))) (ht:t∉e::d.E):d.R e w' base ok v xs:=
 eV h (Mv.bG (ts:=[t]) hG hb (by simp)) (fun q hq=>by
  intro h2;rw [List.mem_singleton] at h2;subst h2;exact ht hq)
theorem px {α β:Type} {d:Kd α} {d':Kd β} {e e' base base':Nat} {ok ok':Nat→Prop} {w w':World} {v v':Value} {xs:List α} {ys:List β} (h:d.R e w base ok v xs) (h':d'.R e' w base' ok' v' ys) (hG:w.grownBy w' v'.ownBlock) (ht:e'∉e::d.E):d.R e w' base ok v xs:=
 eV h (Mv.fB (ts:=[e']) hG h' (by simp)) (fun q hq=>by
  intro h2;rw [List.mem_singleton] at h2;subst h2;exact ht hq)
theorem iP {β:Type} {d':Kd β} {e' base' b t:Nat} {ok':Nat→Prop} {w w':World} {v':Value} {ys:List β} {cs:Array Value} (h:w.heap[b]? = some (.cells cs t (0,0))) (h':d'.R e' w base' ok' v' ys) (hG:w.grownBy w' v'.ownBlock) (ht:t≠e'):w'.heap[b]? = some (.cells cs t (0,0)):=
 (Mv.fB (ts:=[e']) hG h' (by simp)).at h (by simpa using ht)
structure Fu (W w:World) (b2 b3:Nat) (x:gX) (X2 X5:Option Addr) (d2 d5:Nat) (v2 v5:Value) (q:List (List Int)) (e:List jE):Prop where
 bel:Below W.heap.size W w
 p1:w.heap[W.heap.size]? = some (.cells #[.int .u64 x.f0, .int .u64 x.f1, .slice X2 x.f2.length d2, .int .u64 x.f3, .int .u64 x.f4, .slice X5 x.f5.length d5] 68 (0,0))
 p2:w.heap[b2]? = some (.cells #[.int .u64 0, .int .u64 0, .slice none 0 0, .int .u64 0, .int .u64 0, .slice none 0 0] 68 (0,0))
 p3:w.heap[b3]? = some (.cells #[.int .u64 x.f0, .int .u64 x.f1,v2, .int .u64 x.f3, .int .u64 x.f4,v5] 68 (0,0))
 r2:Kd.R (Kd.slice 5 (Kd.int .u8)) 32 w W.heap.size (fun _=>True) v2 q
 r5:Kd.R jC 99 w W.heap.size (fun _=>True) v5 e
section
variable {W w w':World} {b2 b3:Nat} {x:gX} {X2 X5:Option Addr} {d2 d5:Nat} {v2 v5 v:Value} {q q':List (List Int)} {e e':List jE}
theorem Fu.grow (h:Fu W w b2 b3 x X2 X5 d2 d5 v2 v5 q e) (hb:Below w.heap.size w w'):Fu W w' b2 b3 x X2 X5 d2 d5 v2 v5 q e:=
 ⟨h.bel.trans (hb.mono h.bel.size),(hb.block _ (ak h.p1)).trans h.p1,(hb.block _ (ak h.p2)).trans h.p2,(hb.block _ (ak h.p3)).trans h.p3,Kd.bR h.r2 hb,Kd.bR h.r5 hb⟩
theorem Fu.put {cs:Array Value} {v2' v5':Value} (bel:Below W.heap.size W w) (p1:w.heap[W.heap.size]? = some (.cells #[.int .u64 x.f0, .int .u64 x.f1, .slice X2 x.f2.length d2, .int .u64 x.f3, .int .u64 x.f4, .slice X5 x.f5.length d5] 68 (0,0))) (p2:w.heap[b2]? = some (.cells #[.int .u64 0, .int .u64 0, .slice none 0 0, .int .u64 0, .int .u64 0, .slice none 0 0] 68 (0,0))) (p3:w.heap[b3]? = some (.cells cs 68 (0,0))) (r2:Kd.R (Kd.slice 5 (Kd.int .u8)) 32 w W.heap.size (fun _=>True) v2' q') (r5:Kd.R jC 99 w W.heap.size (fun _=>True) v5' e') (hG:w.grownBy w' (some b3)) (hW:w'.heap[b3]? = some (.cells #[.int .u64 x.f0, .int .u64 x.f1,v2', .int .u64 x.f3, .int .u64 x.f4,v5'] 68 (0,0)))
 (n1:b3≠W.heap.size) (n2:b3≠b2) (h3:W.heap.size≤b3):Fu W w' b2 b3 x X2 X5 d2 d5 v2' v5' q' e':=
 ⟨bt bel hG h3,(hG.block _ (ak p1) (fun k=>n1 (ar k).symm)).trans p1,(hG.block _ (ak p2) (fun k=>n2 (ar k).symm)).trans p2,hW,j9 r2 hG p3 (by decide),j9 r5 hG p3 (by decide)⟩
end
theorem wy (x:gX) (X2 X5:Option Addr) (d2 d5:Nat) (W:World) (h2:Kd.C (Kd.slice 5 (Kd.int .u8)) W X2 x.f2.length x.f2) (h5:Kd.C jC W X5 x.f5.length x.f5) (hx:xA x) :
 Calls Tryz.prog 22 #[.agg (ew x X2 X5 d2 d5)] W fun e w'=>∃v2 v5,e = .returned (.agg #[.int .u64 x.f0, .int .u64 x.f1,v2, .int .u64 x.f3, .int .u64 x.f4,v5])∧Kd.R (Kd.slice 5 (Kd.int .u8)) 32 w' W.heap.size (fun _=>True) v2 x.f2∧Kd.R jC 99 w' W.heap.size (fun _=>True) v5 x.f5∧Below W.heap.size W w':=by
 have hu68:=Tryz.underlying68;have hu99:=Tryz.underlying99;have H2:=aa h2;have H5:=aa h5;have HX:=aa hx;have hL2:=hx.l2;have hL5:=hx.l5;have X0:=((ah (Below.refl _ (W.alloc (.cells #[.int .u64 x.f0, .int .u64 x.f1, .slice X2 x.f2.length d2, .int .u64 x.f3, .int .u64 x.f4, .slice X5 x.f5.length d5] 68))) (.cells #[.int .u64 0, .int .u64 0, .slice none 0 0, .int .u64 0, .int .u64 0, .slice none 0 0] 68)).block W.heap.size (ak (aJ W (.cells #[.int .u64 x.f0, .int .u64 x.f1, .slice X2 x.f2.length d2, .int .u64 x.f3, .int .u64 x.f4, .slice X5 x.f5.length d5] 68)))).trans (aJ W (.cells #[.int .u64 x.f0, .int .u64 x.f1, .slice X2 x.f2.length d2, .int .u64 x.f3, .int .u64 x.f4, .slice X5 x.f5.length d5] 68));have Y0:=aJ (W.alloc (.cells #[.int .u64 x.f0, .int .u64 x.f1, .slice X2 x.f2.length d2, .int .u64 x.f3, .int .u64 x.f4, .slice X5 x.f5.length d5] 68)) (.cells #[.int .u64 0, .int .u64 0, .slice none 0 0, .int .u64 0, .int .u64 0, .slice none 0 0] 68);rw [show (W.alloc (.cells #[.int .u64 x.f0, .int .u64 x.f1, .slice X2 x.f2.length d2, .int .u64 x.f3, .int .u64 x.f4, .slice X5 x.f5.length d5] 68)).heap.size=W.heap.size+1 by simp] at Y0;have I0:=aa (And.intro (ah (ah (Below.refl _ W) (.cells #[.int .u64 x.f0, .int .u64 x.f1, .slice X2 x.f2.length d2, .int .u64 x.f3, .int .u64 x.f4, .slice X5 x.f5.length d5] 68)) (.cells #[.int .u64 0, .int .u64 0, .slice none 0 0, .int .u64 0, .int .u64 0, .slice none 0 0] 68)) (And.intro X0 Y0));clear h2 h5 hx X0 Y0;unfold ew;go_in;go_upto_region 1 with (fail);generalize World.alloc (World.alloc W _) _=w0 at I0 ⊢;have B2:=aa (show W.heap.size+1<w0.heap.size from ak I0.1.2.2);generalize hb2:W.heap.size+1=b2 at I0 B2 ⊢;have HB2:=aa hb2;have G2:=aa (show W.heap.size≤b2 by omega);clear hb2;have x0:w0.cell? ⟨W.heap.size,0,none⟩=some (.int .u64 x.f0):=cell_of I0.1.2.1 0;have x1:w0.cell? ⟨W.heap.size,1,none⟩=some (.int .u64 x.f1):=cell_of I0.1.2.1 1;have x3:w0.cell? ⟨W.heap.size,3,none⟩=some (.int .u64 x.f3):=cell_of I0.1.2.1 3;have x4:w0.cell? ⟨W.heap.size,4,none⟩=some (.int .u64 x.f4):=cell_of I0.1.2.1 4;go_wp2_with ((with_reducible refine gS 3 14 rfl ?_);refine sB #[.int .u64 x.f0, .int .u64 x.f1, .slice none 0 0, .int .u64 x.f3, .int .u64 x.f4, .slice none 0 0] (aJ w0 _) ?_;intro wz PN hG;have WP:=aa (bt (ah (Below.refl _ w0) _) hG.1 (Nat.le_refl _));generalize wz=w3 at PN WP ⊢);clear x0 x1 x3 x4;have N1:=aa (show w0.heap.size≠W.heap.size by have:=B2.1;have:=HB2.1;omega);have N2:=aa (show w0.heap.size≠b2 by have:=B2.1;omega);have G3:=aa (show W.heap.size≤w0.heap.size from I0.1.1.size);have I1:=aa (Fu.mk (I0.1.1.trans (WP.1.mono I0.1.1.size)) ((WP.1.block _ (ak I0.1.2.1)).trans I0.1.2.1) ((WP.1.block _ (ak I0.1.2.2)).trans I0.1.2.2) PN.1 (Kd.cY _ _ _ _ (fun _=>True)) (Kd.cY _ _ _ _ (fun _=>True)));clear I0 B2 HB2 PN WP;generalize w0.heap.size=b3 at N1 N2 G3 I1 ⊢;go_loopw [4] (fun v4 wr=>∃(i:Nat) (v2:Value),i≤x.f2.length∧v4 = .int .i64 i∧af (Fu W wr b2 b3 x X2 X5 d2 d5 v2 (.slice none 0 0) (x.f2.take i) [])) (fun v _=>x.f2.length - (intOf v).toNat)
 case atStart=>exact ⟨0,_,aI _,rfl,I1⟩
 case round=>
  obtain ⟨i,v2,hi,rfl,I2⟩:=hrel;clear I1;have y2:wr.cell? ⟨W.heap.size,2,none⟩=some (.slice X2 x.f2.length d2):=cell_of I2.1.p1 2;by_cases hlt:i<x.f2.length
  ·obtain ⟨ad,c9,e1,_,hK,hc0⟩:=Kd.fw H2.1 [] (i:Int) (by omega) (by omega);obtain ⟨Y1,q1,rfl,hq1,hC1⟩:=hK;have hy0:=hc0 0 _ rfl;subst e1;simp only [Int.toNat_natCast,show (Kd.slice 5 (Kd.int .u8)).sz=1 from rfl,Nat.mul_one,Nat.add_zero,List.getD_eq_getElem?_getD,List.getElem?_eq_getElem hlt,Option.getD_some] at hy0 hq1 hC1;have hlen:=HX.1.b2 _ (List.getElem_mem hlt);have TK:=aa (show x.f2.take (i+1)=x.f2.take i++[x.f2[i]] by rw [List.take_add_one,List.getElem?_eq_getElem hlt];rfl);generalize x.f2[i]=y at hy0 hq1 hC1 hlen TK;have LT:=aa (show (x.f2.take i).length≤100000000 by rw [List.length_take];omega);generalize x.f2.take i=qs at I2 TK LT;obtain ⟨Bq,cq,hv⟩:=Kd.aG I2.1.r2;subst hv;have TC:=aa (fun (w:World) (h:Below W.heap.size W w)=>cj.calls 100000002 Y1 q1 y y w (Kd.aN hC1 h) hq1 (qE y hlen _ (by omega)));have HY:=aa (fun (w:World) (h:Below W.heap.size W w)=>an h hy0);have I3:=aa (I2.1.grow (dy (Below.refl wr.heap.size wr)));clear hy0 hC1 hc0 hlen hq1;go_wp2_with fail;refine hY (fun W'=>W'.heap[W.heap.size]? = some (.cells #[.int .u64 x.f0, .int .u64 x.f1, .slice (some ad) x.f2.length d2, .int .u64 x.f3, .int .u64 x.f4, .slice X5 x.f5.length d5] 68 (0,0))∧W'.heap[b3]? = some (.cells #[.int .u64 x.f0, .int .u64 x.f1,(.slice Bq qs.length cq), .int .u64 x.f3, .int .u64 x.f4,(.slice none 0 0)] 68 (0,0))) 9 [(0,0),(1,1),(2,0),(4,0),(3,2),(5,0),(6,2),(7,2),(8,2)] (by kernel_rfl) (by kernel_rfl) (fun _ _ _ _ _ h=>h) ⟨I2.1.p1,I2.1.p3⟩ ?_;clear I2 y2;generalize wr.drew=w2 at I3 ⊢;iterate 1 (refine eF ?_;simp only [cS,Act.put])
   (refine aQ (v:=?_) rfl rfl ?_ ?_;rotate_left 1;(focus (intro W' hSw;have k0:W'.cell? ⟨b3,2,none⟩=some (.slice Bq qs.length cq):=cell_of hSw.2 2;clear hSw;go_simp;try (with_reducible rfl)));simp only [cS,Act.put]);iterate 2 (refine eF ?_;simp only [cS,Act.put])
   refine aT rfl ?_;have y2:w2.cell? ⟨W.heap.size,2,none⟩=some (.slice (some ad) x.f2.length d2):=cell_of I3.1.p1 2;go_wp2_with fail;refine bB.mk ⟨I3.1.p1,I3.1.p3⟩ (fun hSw=>?_);clear hSw y2;iterate 1 (refine eF ?_;simp only [cS,Act.put])
   refine aT rfl ?_;have y3:=HY.1 w2 I3.1.bel;go_wp2_with fail;refine bB.mk ⟨I3.1.p1,I3.1.p3⟩ (fun hSw=>?_);clear hSw y3;refine aT rfl ?_;go_wp2_with fail;refine (TC.1 w2 I3.1.bel).mono ?_;rintro e w3 ⟨vy,rfl,hRy,hB⟩;obtain ⟨Ay,cy,rfl⟩:=Kd.aG hRy;have I4:=aa (I3.1.grow hB);have MY:=aa (show (Kd.slice 5 (Kd.int .u8)).M w3 W.heap.size (fun k=>w2.heap.size≤k) y [.slice Ay y.length cy] from ⟨_,rfl,Kd.cI (Kd.bZ (Kd.bS hRy) (fun k hk=>hk.2.1)) I3.1.bel.size⟩);have OY:=aa (show ∀k,w2.heap.size≤k→True∧some k≠(Value.slice Bq qs.length cq).ownBlock from fun k hk=>⟨trivial,fun e=>by have:=((Kd.bS I3.1.r2).1 k e.symm).2.2.1;omega⟩);clear hRy hB TC HY I3;go_wp2_with fail;refine bB.mk ⟨I4.1.p1,I4.1.p3⟩ (fun hSw=>?_);clear hSw;refine aT rfl ?_;go_wp2_with fail;refine bB.mk ⟨((ah (Below.refl w3.heap.size w3) _).block _ (ak I4.1.p1)).trans I4.1.p1,((ah (Below.refl w3.heap.size w3) _).block _ (ak I4.1.p3)).trans I4.1.p3⟩ (fun hSw=>?_);clear hSw;refine bC ?_;simp only [aC,List.drop_zero];go_wp2_with (first
    | ((with_reducible refine aM (b:= .append) (xs:=#[.tmp 23, .tmp 30]) rfl ?_);refine Kd.cG (Kd.slice 5 (Kd.int .u8)) (w0:=W) W.heap.size rfl (.tmp 23) (.tmp 30) 46 32 (.slice none 0 0) 24 rfl Tryz.underlying46 sd rfl (by decide) (by omega) (.slice Bq qs.length cq) qs y [.slice Ay y.length cy] (fun _=>True) (fun k=>w2.heap.size≤k) rfl rfl MY.1 OY.1 (fun _ _=>trivial) I4.1.r2 I4.1.bel I4.1.bel.size (by have:=LT.1;omega) ?_;intro vz w6 hR hB hG _;obtain ⟨Az,cz,hv⟩:=Kd.aG hR;rw [List.length_append,List.length_singleton] at hv;subst hv;have I6:=aa (And.intro hB (And.intro (iP I4.1.p1 I4.1.r2 hG (by decide)) (And.intro (iP I4.1.p2 I4.1.r2 hG (by decide)) (iP I4.1.p3 I4.1.r2 hG (by decide)))));have R6:=aa hR;clear hR hB hG)
    | ((with_reducible refine gS 32 31 rfl ?_);refine sC 2 (.slice Az (qs.length+1) cz) #[.int .u64 x.f0, .int .u64 x.f1, .slice Az (qs.length+1) cz, .int .u64 x.f3, .int .u64 x.f4, .slice none 0 0] I6.1.2.2.2 ?_;intro wz hW hG;have I7:=aa (Fu.put (e':=[]) I6.1.1 I6.1.2.1 I6.1.2.2.1 I6.1.2.2.2 (TK.1▸R6.1) (Kd.cY _ _ _ _ (fun _=>True)) hG.1 hW.1 N1.1 N2.1 G3.1)))
   go_roundw
   case rel=>exact ⟨i+1,_,by omega,by go_num,I7⟩
   case measure=>
    show x.f2.length - ((i:Int)+1).toNat<x.f2.length - (i:Int).toNat;omega
  go_wp2_with fail;clear y2;have I1:=aa (show Fu W wr b2 b3 x X2 X5 d2 d5 v2 (.slice none 0 0) x.f2 (x.f5.take 0) from by have h:=I2.1;rw [List.take_of_length_le (by omega)] at h;exact h);clear I2 hlt hi;go_loopw [5] (fun v5 wr=>∃(i:Nat) (v5':Value),i≤x.f5.length∧v5 = .int .i64 i∧af (Fu W wr b2 b3 x X2 X5 d2 d5 v2 v5' x.f2 (x.f5.take i))) (fun v _=>x.f5.length - (intOf v).toNat)
  case atStart=>exact ⟨0,_,aI _,rfl,I1⟩
  case round=>
   obtain ⟨i,v5',hi,rfl,I2⟩:=hrel;clear I1;have y5:wr.cell? ⟨W.heap.size,5,none⟩=some (.slice X5 x.f5.length d5):=cell_of I2.1.p1 5;by_cases hlt:i<x.f5.length
   case neg=>
    rw [show x.f5.take i=x.f5 from List.take_of_length_le (by omega)] at I2;obtain ⟨Bp,cp,hv2⟩:=Kd.aG I2.1.r2;obtain ⟨Be,ce,hv5⟩:=Kd.aG I2.1.r5;subst hv2;subst hv5;go_upto_region 10 with (fail);go_wp2_with (first|((with_reducible refine az (N:=59) rfl ?_);refine lB I2.1.p3 Tryz.underlying68 ?_)|((with_reducible refine gS 2 59 rfl ?_);refine sB #[.int .u64 x.f0, .int .u64 x.f1, .slice Bp x.f2.length cp, .int .u64 x.f3, .int .u64 x.f4, .slice Be x.f5.length ce] I2.1.p2 ?_;intro wz ZW ZG;have ZB:=aa (bt I2.1.bel ZG.1 G2.1)));refine zM ZW.1 hu68 ?_;exact ⟨_,_,rfl,j9 I2.1.r2 ZG.1 I2.1.p2 (by decide),j9 I2.1.r5 ZG.1 I2.1.p2 (by decide),ZB.1⟩
   obtain ⟨ad,c9,e1,_,hK,hc0⟩:=Kd.fw H5.1 sI (i:Int) (by omega) (by omega);obtain ⟨Y1,q1,rfl,hq1,hC1⟩:=gn hK;have hz0:=hc0 0 _ rfl;have hz1:=hc0 1 _ rfl;subst e1;simp only [Int.toNat_natCast,show jC.sz=2 from rfl,Nat.add_zero,List.getD_eq_getElem?_getD,List.getElem?_eq_getElem hlt,Option.getD_some] at hz0 hz1 hq1 hC1;rw [dw _ _ 1 (by omega)] at hz1;have hlen:=HX.1.b5 _ (List.getElem_mem hlt);have TK:=aa (show x.f5.take (i+1)=x.f5.take i++[x.f5[i]] by rw [List.take_add_one,List.getElem?_eq_getElem hlt];rfl);generalize x.f5[i]=y at hz0 hz1 hq1 hC1 hlen TK;have LT:=aa (show (x.f5.take i).length≤100000000 by rw [List.length_take];omega);generalize x.f5.take i=es at I2 TK LT;obtain ⟨Be,ce,hv⟩:=Kd.aG I2.1.r5;subst hv;have TC:=aa (fun (w:World) (h:Below W.heap.size W w)=>cj.calls 100000002 Y1 q1 y.f1 y.f1 w (Kd.aN hC1 h) hq1 (qE y.f1 hlen _ (by omega)));have HY:=aa (fun (w:World) (h:Below W.heap.size W w)=>And.intro (an h hz0) (an h hz1));have I3:=aa (I2.1.grow (dy (Below.refl wr.heap.size wr)));clear hz0 hz1 hC1 hc0 hlen hq1;go_wp2_with fail;refine hY (fun W'=>W'.heap[W.heap.size]? = some (.cells #[.int .u64 x.f0, .int .u64 x.f1, .slice X2 x.f2.length d2, .int .u64 x.f3, .int .u64 x.f4, .slice (some ad) x.f5.length d5] 68 (0,0))∧W'.heap[b3]? = some (.cells #[.int .u64 x.f0, .int .u64 x.f1,v2, .int .u64 x.f3, .int .u64 x.f4,(.slice Be es.length ce)] 68 (0,0))∧Below W.heap.size W W') 18 [(0,0),(1,1),(2,0),(3,1),(4,0),(5,0),(6,0),(7,1),(8,0),(9,1),(10,0),(11,0),(12,0),(13,1),(14,2),(15,0),(16,2),(17,2)] (by kernel_rfl) (by kernel_rfl) (fun _ _ _ _ _ h=>h) ⟨I2.1.p1,I2.1.p3,I3.1.bel⟩ ?_;clear I2 y5;generalize wr.drew=w2 at I3 ⊢;iterate 1 (refine eF ?_;simp only [cS,Act.put])
   (refine aQ (v:=?_) rfl rfl ?_ ?_;rotate_left 1;(focus (intro W' hSw;have hy:=HY.1 W' hSw.2.2;have k1:=hy.1;have k2:=hy.2;clear hy;have k3:W'.cell? ⟨b3,5,none⟩=some (.slice Be es.length ce):=cell_of hSw.2.1 5;have k4:W'.cell? ⟨W.heap.size,5,none⟩=some (.slice (some ad) x.f5.length d5):=cell_of hSw.1 5;clear hSw;go_simp;try (with_reducible rfl)));simp only [cS,Act.put]);iterate 1 (refine eF ?_;simp only [cS,Act.put])
   (refine aQ (v:=?_) rfl rfl ?_ ?_;rotate_left 1;(focus (intro W' hSw;have hy:=HY.1 W' hSw.2.2;have k1:=hy.1;have k2:=hy.2;clear hy;have k3:W'.cell? ⟨b3,5,none⟩=some (.slice Be es.length ce):=cell_of hSw.2.1 5;have k4:W'.cell? ⟨W.heap.size,5,none⟩=some (.slice (some ad) x.f5.length d5):=cell_of hSw.1 5;clear hSw;go_simp;try (with_reducible rfl)));simp only [cS,Act.put]);iterate 3 (refine eF ?_;simp only [cS,Act.put])
   (refine aQ (v:=?_) rfl rfl ?_ ?_;rotate_left 1;(focus (intro W' hSw;have hy:=HY.1 W' hSw.2.2;have k1:=hy.1;have k2:=hy.2;clear hy;have k3:W'.cell? ⟨b3,5,none⟩=some (.slice Be es.length ce):=cell_of hSw.2.1 5;have k4:W'.cell? ⟨W.heap.size,5,none⟩=some (.slice (some ad) x.f5.length d5):=cell_of hSw.1 5;clear hSw;go_simp;try (with_reducible rfl)));simp only [cS,Act.put]);iterate 1 (refine eF ?_;simp only [cS,Act.put])
   (refine aQ (v:=?_) rfl rfl ?_ ?_;rotate_left 1;(focus (intro W' hSw;have hy:=HY.1 W' hSw.2.2;have k1:=hy.1;have k2:=hy.2;clear hy;have k3:W'.cell? ⟨b3,5,none⟩=some (.slice Be es.length ce):=cell_of hSw.2.1 5;have k4:W'.cell? ⟨W.heap.size,5,none⟩=some (.slice (some ad) x.f5.length d5):=cell_of hSw.1 5;clear hSw;go_simp;try (with_reducible rfl)));simp only [cS,Act.put]);iterate 3 (refine eF ?_;simp only [cS,Act.put])
   (refine aQ (v:=?_) rfl rfl ?_ ?_;rotate_left 1;(focus (intro W' hSw;have hy:=HY.1 W' hSw.2.2;have k1:=hy.1;have k2:=hy.2;clear hy;have k3:W'.cell? ⟨b3,5,none⟩=some (.slice Be es.length ce):=cell_of hSw.2.1 5;have k4:W'.cell? ⟨W.heap.size,5,none⟩=some (.slice (some ad) x.f5.length d5):=cell_of hSw.1 5;clear hSw;go_simp;try (with_reducible rfl)));simp only [cS,Act.put]);refine aT rfl ?_;go_wp2_with fail;refine (TC.1 w2 I3.1.bel).mono ?_;rintro e w3 ⟨vy,rfl,hRy,hB⟩;obtain ⟨Ay,cy,rfl⟩:=Kd.aG hRy;have I4:=aa (I3.1.grow hB);have MY:=aa (show jC.M w3 W.heap.size (fun k=>w2.heap.size≤k) y [.int .u64 y.f0, .slice Ay y.f1.length cy] from oW _ _ _ _ (Kd.cI (Kd.bZ (Kd.bS hRy) (fun k hk=>hk.2.1)) I3.1.bel.size));have OY:=aa (show ∀k,w2.heap.size≤k→True∧some k≠(Value.slice Be es.length ce).ownBlock from fun k hk=>⟨trivial,fun e=>by have:=((Kd.bS I3.1.r5).1 k e.symm).2.2.1;omega⟩);clear hRy hB TC HY I3;go_wp2_with fail;refine bB.mk ⟨I4.1.p1,I4.1.p3,I4.1.bel⟩ (fun hSw=>?_);clear hSw;iterate 1 (refine eF ?_;simp only [cS,Act.put])
   refine aT rfl ?_;go_wp2_with fail;refine bB.mk ⟨((ah (Below.refl w3.heap.size w3) _).block _ (ak I4.1.p1)).trans I4.1.p1,((ah (Below.refl w3.heap.size w3) _).block _ (ak I4.1.p3)).trans I4.1.p3,ah I4.1.bel _⟩ (fun hSw=>?_);clear hSw;refine aT rfl ?_;go_wp2_with ((with_reducible refine aM (b:= .append) (xs:=#[.tmp 41, .tmp 56]) rfl ?_);refine Kd.cG jC (w0:=W) W.heap.size rfl (.tmp 41) (.tmp 56) 66 99 (.agg #[.int .u64 0, .slice none 0 0]) 32 rfl Tryz.underlying66 sa rfl (by decide) (by omega) (.slice Be es.length ce) es y [.int .u64 y.f0, .slice Ay y.f1.length cy] (fun _=>True) (fun k=>w2.heap.size≤k) rfl rfl MY.1 OY.1 (fun _ _=>trivial) I4.1.r5 I4.1.bel I4.1.bel.size (by have:=LT.1;omega) ?_;intro vz w6 hR hB hG _;obtain ⟨Az,cz,hv⟩:=Kd.aG hR;rw [List.length_append,List.length_singleton] at hv;subst hv;have I6:=aa (And.intro hB (And.intro (iP I4.1.p1 I4.1.r5 hG (by decide)) (And.intro (iP I4.1.p2 I4.1.r5 hG (by decide)) (iP I4.1.p3 I4.1.r5 hG (by decide)))));have R6:=aa hR;have Q6:=aa (px I4.1.r2 I4.1.r5 hG (by decide));clear hR hB hG);refine bB.mk ⟨I6.1.2.1,I6.1.2.2.2,I6.1.1⟩ (fun hSw=>?_);clear hSw;refine bC ?_;simp only [aC,List.drop_zero];go_wp2_with ((with_reducible refine gS 58 57 rfl ?_);refine sC 5 (.slice Az (es.length+1) cz) #[.int .u64 x.f0, .int .u64 x.f1,v2, .int .u64 x.f3, .int .u64 x.f4, .slice Az (es.length+1) cz] I6.1.2.2.2 ?_;intro wz hW hG;have I7:=aa (Fu.put I6.1.1 I6.1.2.1 I6.1.2.2.1 I6.1.2.2.2 Q6.1 (TK.1▸R6.1) hG.1 hW.1 N1.1 N2.1 G3.1));go_roundw
   case rel=>exact ⟨i+1,_,by omega,by go_num,I7⟩
   case measure=>
    show x.f5.length - ((i:Int)+1).toNat<x.f5.length - (i:Int).toNat;omega
end Go.Proofs.YtpekmdpbfjdjkaaGreat.ref