/- Part 31 of the proof that a state's bytes are the document's. No condition. -/
import Derived.Test.YtpekmdpbfjdjkaaGreatZ30
set_option maxHeartbeats 16000000
set_option maxRecDepth 100000
set_option linter.all false
namespace Go.Proofs.YtpekmdpbfjdjkaaGreat.ref
open Go Go.RowKit ag.ax ag.aV ag.aU aD fr iK cL plain fE dO
theorem A8 (a b:Nat) (ha:a<18446744073709551616) (hb:b<18446744073709551616):∃c:Nat,Go.bits .or .u64 (a:Int) (b:Int)=(c:Int)∧c<18446744073709551616∧(c=0↔a=0∧b=0):=by
 refine ⟨a|||b,u64_or_nat a b ha hb,Nat.or_lt_two_pow (n:=64) ha hb,?_,?_⟩
 ·intro h;have h1:a≤a|||b:=Nat.left_le_or;have h2:b≤a|||b:=Nat.right_le_or;omega
 ·rintro ⟨rfl,rfl⟩;rfl
theorem ku (x:Int) (h:0≤x):∃n:Nat,x=(n:Int):=⟨x.toNat,by omega⟩
theorem Cc (x:gX) (h:qQ x):tj x=zr x:=by
 obtain ⟨a,ea⟩:=ku _ h.m0'.1;obtain ⟨b,eb⟩:=ku _ h.m1'.1;obtain ⟨c,ec⟩:=ku _ h.m0;obtain ⟨d,ed⟩:=ku _ h.m4'.1;have ha:=h.m0'.2;have hb:=h.m1'.2;have hc:=h.m1;have hd:=h.m4'.2;unfold tj zr;rw [ea,eb,ec,ed] at *;obtain ⟨e,h1,l1,z1⟩:=A8 a b (by omega) (by omega);rw [h1];obtain ⟨f,h2,l2,z2⟩:=A8 e c l1 (by omega);rw [h2];obtain ⟨g,h3,l3,z3⟩:=A8 f d l2 (by omega);rw [h3];by_cases g1:(a:Int)=0
 ·by_cases g2:(b:Int)=0
  ·by_cases g3:(c:Int)=0
   ·by_cases g4:(d:Int)=0
    ·rw [if_pos g1,if_pos g2,if_pos g3,if_pos g4,if_pos (show (g:Int)=0 by have:=z3.2 ⟨z2.2 ⟨z1.2 ⟨by omega,by omega⟩,by omega⟩,by omega⟩;omega)]
    ·rw [if_pos g1,if_pos g2,if_pos g3,if_neg g4,if_neg (show ¬(g:Int)=0 from fun q=>g4 (by have:=z3.1 (by omega);omega))]
   ·rw [if_pos g1,if_pos g2,if_neg g3,if_neg (show ¬(g:Int)=0 from fun q=>g3 (by have:=z2.1 (z3.1 (by omega)).1;omega))]
  ·rw [if_pos g1,if_neg g2,if_neg (show ¬(g:Int)=0 from fun q=>g2 (by have:=z1.1 (z2.1 (z3.1 (by omega)).1).1;omega))]
 ·rw [if_neg g1,if_neg (show ¬(g:Int)=0 from fun q=>g1 (by have:=z1.1 (z2.1 (z3.1 (by omega)).1).1;omega))]
theorem rt_eq (x:gX) (h:qQ x):AS x=(lf x 16&&kp x.f4 16 x.f5 1):=by
 unfold AS lf;rw [C9 x.f4 16 h.m4'.1 h.m4'.2 x.f5 none 1 (fun f hf=>(h.y5 f hf).1) (Or.inl ⟨rfl,rfl⟩)];by_cases g1:x.f0<x.f1
 ·rw [if_pos g1,if_pos g1];rfl
 rw [if_neg g1,if_neg g1];by_cases g2:IntKind.u64.wrap (x.f0 - x.f1)=(x.f2.length:Int)
 ·rw [if_neg (show ¬IntKind.u64.wrap (x.f0 - x.f1)≠(x.f2.length:Int) from fun q=>q g2),if_neg (show ¬(x.f2.length:Int)≠IntKind.u64.wrap (x.f0 - x.f1) from fun q=>q g2.symm)];by_cases g3:16<(x.f2.length:Int)
  ·rw [if_pos g3,if_pos g3];rfl
  rw [if_neg g3,if_neg g3];cases mS x.f0 x.f1 x.f3<;>cases kI x.f2<;>simp
 ·rw [if_pos (show IntKind.u64.wrap (x.f0 - x.f1)≠(x.f2.length:Int) from g2),if_pos (show (x.f2.length:Int)≠IntKind.u64.wrap (x.f0 - x.f1) from fun q=>g2 q.symm)];split<;>rfl
theorem Cg (n:Nat) (l:List gX):∀i,(∀x∈l,qQ x)→vC n i l=oQ (n:Int) 16 16 i l:=by
 induction l with
 | nil=>intro i _;rfl
 | cons x r ih=>
  intro i h;have hx:=h x (by simp);rw [vC,oQ,ih (i+1) (fun y hy=>h y (by simp [hy])),Cc x hx,rt_eq x hx];by_cases g:i=n
  ·rw [if_pos g,if_pos (show (i:Int)=(n:Int) by omega)];cases zr x<;>simp
  ·rw [if_neg g,if_neg (show ¬(i:Int)=(n:Int) by omega)];cases (lf x 16&&kp x.f4 16 x.f5 1)<;>simp
theorem Cf (n:Nat) (l:List gX) (h:∀x∈l,qQ x):zU n l=(nZ (n:Int) l.length 16 16&&oQ (n:Int) 16 16 0 l):=by
 unfold zU nZ;rw [Cg n l 0 h];by_cases g:l.length<1∨16<l.length∨l.length≤n
 ·rw [if_pos g,decide_eq_false (by omega),ol]
 ·rw [if_neg g,decide_eq_true (by omega),iJ]
theorem Cj (s:Hs) (n:Nat) (hn:s.self=(n:Int)) (hb:oO s):CS n s=ni s:=by
 have he:wS n s=cJ s:=by
  unfold wS cJ;rw [Cf n s.peers hb.b6.2,hn]
 have hp:fY s.table=true→yL s=(if 32768<(s.pairs.length:Int) then false else oC s.table s.self none s.pairs):=by
  intro ht;unfold yL;rw [An s.table s.self (by unfold fY at ht;cases h:jc s.table 0 false with|true=>rfl|false=>rw [h] at ht;simp at ht) (fun x hx=>hb.b1.2 x hx) s.pairs none (fun p hp=>(hb.b2.2 p hp).1)]
 unfold CS ni oV;rw [he];by_cases g1:16≤s.self
 ·rw [if_pos g1,if_pos g1,if_neg Bool.false_ne_true]
 rw [if_neg g1,if_neg g1];by_cases g2:s.free<0
 ·rw [if_pos g2,if_pos g2,if_neg Bool.false_ne_true]
 rw [if_neg g2,if_neg g2];by_cases g3:s.spare<0
 ·rw [if_pos g3,if_pos g3,if_neg Bool.false_ne_true]
 rw [if_neg g3,if_neg g3];by_cases g4:1073741824 - (s.pairs.length:Int)<s.free
 ·rw [if_pos g4,if_neg Bool.false_ne_true,if_pos (show 1073741824<s.free+(s.pairs.length:Int) by omega)];(repeat' split)<;>rfl
 rw [if_neg g4,if_neg (show ¬1073741824<s.free by omega),if_neg (show ¬1073741824<s.free+(s.pairs.length:Int) by omega)];by_cases g5:1073741824 - (s.table.length:Int)<s.spare
 ·rw [if_pos g5,if_neg Bool.false_ne_true,if_pos (show 1073741824<s.spare+(s.table.length:Int) by omega)];(repeat' split)<;>rfl
 rw [if_neg g5,if_pos rfl,if_neg (show ¬1073741824<s.spare by omega),if_neg (show ¬1073741824<s.spare+(s.table.length:Int) by omega)];by_cases gt:fY s.table=true
 ·rw [if_pos gt,if_pos gt,hp gt];by_cases g6:32768<(s.pairs.length:Int)
  ·rw [if_pos g6,if_pos g6,if_neg Bool.false_ne_true]
  ·rw [if_neg g6,if_neg g6]
 ·rw [if_neg gt,if_neg gt]
end Go.Proofs.YtpekmdpbfjdjkaaGreat.ref
namespace Go.Proofs.YtpekmdpbfjdjkaaGreat.ref
open Go Go.RowKit ag.ax ag.aV ag.aU aD fr iK cL plain fE
theorem CZ (x:Nat):∀(n k:Nat) (b:List Int),n≤8→n+1≤k→b.length+n≤1000000000→bE.l0 k b (x:Int) ((n:Int) - 1)=some (b++be n x):=by
 intro n;induction n with
 | zero=>
  intro k b _ hk _;obtain ⟨k,rfl⟩:∃m,k=m+1:=⟨k - 1,by omega⟩;rw [bE.l0,if_neg (by omega),be,bM]
 | succ n ih=>
  intro k b hn hk hb;obtain ⟨k,rfl⟩:∃m,k=m+1:=⟨k - 1,by omega⟩;have e8:wrap64 (8*(n:Int))=((8*n:Nat):Int):=by rw [IntWalk.wrap64_in _ (by omega)];omega
  have em:wrap64 ((n:Int) - 1)=(n:Int) - 1:=IntWalk.wrap64_in _ (by omega);rw [show (((n+1:Nat):Int) - 1)=(n:Int) by omega,bE.l0,if_pos (by omega),e8,if_pos (by omega),if_pos (by omega),cL.lX .u64 x (8*n) (by show 8*n≤64;omega),em,
   show ((x / 2 ^ (8*n):Nat):Int) % 256=((x / 256 ^ n % 256:Nat):Int) by rw [Nat.pow_mul];rfl]
  have h9:(b++[((x / 256 ^ n % 256:Nat):Int)]).length+n≤1000000000:=by rw [List.length_append,List.length_singleton];omega
  rw [ih k _ (by omega) (by omega) h9,be,List.append_assoc];rfl
theorem vu (b:List Int) (x n:Nat) (hn:n≤8) (hb:b.length≤900000000) (k:Nat) (hk:9≤k):bE.f k b (x:Int) (n:Int)=some (b++be n x):=by
 rw [bE.f,IntWalk.wrap64_in _ (by omega)];exact CZ x n k b hn (by omega) (by omega)
theorem qz (b:List Int) (x:Nat) (hx:x<18446744073709551616) (hb:b.length≤900000000) (k:Nat) (hk:10≤k) (hk2:k<900):dK.f k b (x:Int)=some (b++bu x):=by
 have hg:(bu x).length≤10:=jl x 9 (bf hx (by decide));rw [dK.f,oq x hx k hk hk2,aj,if_pos (by omega)]
theorem vQ (b l:List Int) (hb:b.length≤900000000) (hl:l.length≤900000000) (k:Nat) (hk:10≤k) (hk2:k<900):fk.f k b l=some (b++(bu l.length++l)):=by
 have hg:(bu l.length).length≤10:=jl _ 9 (bf (show l.length<18446744073709551616 by omega) (by decide));rw [fk.f,cL.n9 _ (by omega),qz b l.length (by omega) hb k hk hk2,aj,if_pos (by rw [List.length_append];omega),List.append_assoc]
theorem pP (l:List Int) (hb:aq l) (hL:l.length≤100000000) (k:Nat) (hk:8*l.length+66≤k):eY.f k l=some (l++be 4 (eH l)):=by
 have hs:eH l<4294967296:=by unfold eH;omega
 rw [eY.f,cL.uY l hb hL k hk,aj,cL.n9 _ (by omega),show (4:Int)=((4:Nat):Int) from rfl,vu l _ 4 (by omega) (by omega) k (by omega),aj]
end Go.Proofs.YtpekmdpbfjdjkaaGreat.ref
namespace Go.Proofs.YtpekmdpbfjdjkaaGreat.ref
open Go Go.RowKit ag.ax ag.aV ag.aU aD fr iK cL plain fE dO
def yt (W0 w:World) (M:Nat→Prop) (bx:Nat):Nat→Prop:=fun k=>(M k∨w.heap.size≤k)∧k≠bx∧W0.heap.size≤k
structure Sb (W0 w:World) (M:Nat→Prop) (bx:Nat) (cs:Array Value) (t:Nat) (wx:World) (v:Value) (l:List Int):Prop where
 row:Kd.R (Kd.int .u8) 5 wx W0.heap.size (yt W0 w M bx) v l
 box:wx.heap[bx]? = some (.cells cs t (0,0))
 bel:Below W0.heap.size W0 wx
 kept:Kept w wx M
 hb:W0.heap.size≤w.heap.size
section
variable {W0 w wx w':World} {M:Nat→Prop} {bx t:Nat} {cs:Array Value} {v v':Value} {l l':List Int}
theorem Sb.start (hB:Below W0.heap.size W0 w) (hR:Kd.R (Kd.int .u8) 5 w W0.heap.size M v l) (cs:Array Value) (t:Nat):Sb W0 w M w.heap.size cs t (w.alloc (.cells cs t)) v l:=
 ⟨Kd.cM (Kd.bZ (Kd.bS hR) (fun k hk=>⟨Or.inl hk.1,kL hk.2.2.1,hk.2.1⟩)) _,aJ w _,ah hB _,(Kept.refl w M).alloc _,hB.size⟩
theorem Sb.grow (h:Sb W0 w M bx cs t wx v l) (hb:Below wx.heap.size wx w'):Sb W0 w M bx cs t w' v l:=
 ⟨Kd.bR h.row hb,(hb.block bx (ak h.box)).trans h.box,h.bel.trans (hb.mono h.bel.size),h.kept.below hb,h.hb⟩
theorem Sb.put (h:Sb W0 w M bx cs t wx v l) (hg:wx.grownBy w' v.ownBlock) (hB:Below W0.heap.size W0 w') (hr:Kd.R (Kd.int .u8) 5 w' W0.heap.size (yt W0 w M bx) v' l'):Sb W0 w M bx cs t w' v' l':=
 ⟨hr,(hg.block bx (ak h.box) (fun e=>(h.row.1 bx e.symm).2.1 rfl)).trans h.box,hB,Kept.fx hg h.kept (fun k e=>(h.row.1 k e).1),h.hb⟩
theorem Sb.call (h:Sb W0 w M bx cs t wx v l) (hr:Kd.R (Kd.int .u8) 5 w' W0.heap.size (fun k=>yt W0 w M bx k∨wx.heap.size≤k) v' l') (hB:Below W0.heap.size W0 w') (hK:Kept wx w' (fun k=>yt W0 w M bx k)):Sb W0 w M bx cs t w' v' l':=
 ⟨Kd.bZ (Kd.bS hr) (fun k hk=>hk.1.elim id (fun h2=>⟨Or.inr (Nat.le_trans h.kept.1 h2),fun e=>by have:=ak h.box;omega,hk.2.1⟩)),
  (hK.2 bx (ak h.box) (fun q=>q.2.1 rfl)).trans h.box,hB,h.kept.oJ hK (fun k hk=>hk.1),h.hb⟩
theorem Sb.yZ (h:Sb W0 w M bx cs t wx v l) (x:Int) (h0:0≤x) (h1:x≤18446744073709551615) (hl:l.length≤900000000) :
 Calls Tryz.prog 48 #[v, .int .u64 x, .int .i64 8] wx fun e w'=>∃v',e = .returned v'∧Sb W0 w M bx cs t w' v' (l++b8 x):=by
 obtain ⟨n,rfl⟩:=ku x h0;exact (bE.calls 9 (yt W0 w M bx) v l (n:Int) 8 _ W0 wx h.bel h.row (vu l n 8 (by omega) hl 9 (by omega))).mono fun e w' ⟨v',he,hr,hB,hK⟩=>⟨v',he,h.call hr hB hK⟩
theorem Sb.group (h:Sb W0 w M bx cs t wx v l) (n:Nat) (h1:n<18446744073709551616) (hl:l.length≤900000000) :
 Calls Tryz.prog 79 #[v, .int .u64 n] wx fun e w'=>∃v',e = .returned v'∧Sb W0 w M bx cs t w' v' (l++bu n):=
 (dK.calls 10 (yt W0 w M bx) v l (n:Int) _ W0 wx h.bel h.row (qz l n h1 hl 10 (by omega) (by omega))).mono fun e w' ⟨v',he,hr,hB,hK⟩=>⟨v',he,h.call hr hB hK⟩
theorem Sb.block (h:Sb W0 w M bx cs t wx v l) (A:Option Addr) (c:Nat) (y:List Int) (hC:Kd.C (Kd.int .u8) W0 A y.length y) (hc:y.length≤c) (hy:y.length≤900000000) (hl:l.length≤900000000) :
 Calls Tryz.prog 80 #[v, .slice A y.length c] wx fun e w'=>∃v',e = .returned v'∧Sb W0 w M bx cs t w' v' (l++dI y):=
 (fk.calls 10 (yt W0 w M bx) v l A c y _ W0 wx h.bel h.row (Kd.qn (Kd.vG .u8) hC h.bel (fun k hk=>hk.2.2)) hc (vQ l y hl hy 10 (by omega) (by omega))).mono fun e w' ⟨v',he,hr,hB,hK⟩=>⟨v',he,h.call hr hB hK⟩
end
theorem Sb.Da {P:Program} {ops:Array Oper} {rest:List Oper} {o:Oper} {a:Act} {Q:Exit→Act→World→Prop} {W0 w W:World} {M:Nat→Prop} {bx tt:Nat} {cs:Array Value} {v:Value} {l:List Int} (h:Sb W0 w M bx cs tt W v l) (hgd:o.guard=none) (s x:Operand)
 (ho:o.op = .call { callee:= .builtin .append,args:=#[s,x],argTypes:=#[32,32] }) (ht:P.underlying 32=some (.slice 5)) (hi:(P.info? 5).map (fun i=>(i.zero,i.size,i.bytes))=some (some (.int .u8 0),1,1)) (y:Int) (hs:a.eval s=v) (hx:a.eval x = .slice (some ⟨W.heap.size,0,none⟩) 1 1) (hl:l.length≤900000000)
 (hk:∀v1 w1,Sb W0 w M bx cs tt w1 v1 (l++[y])→wpList P ops Q rest (a.put o.dst v1) w1):wpList P ops Q (o::rest) a (W.alloc (.cells #[.int .u8 y] 5)):=
 Kd.cG (Kd.int .u8) (w0:=W0) W0.heap.size hgd s x 32 5 (.int .u8 0) 1 ho ht hi rfl (by decide) (by omega) v l y [.int .u8 y] (yt W0 w M bx) (fun _=>False) hs hx rfl (fun _ hk=>hk.elim)
  (fun k hk=>⟨Or.inr (Nat.le_trans h.kept.1 hk),fun e=>by have:=ak h.box;omega,Nat.le_trans h.bel.size hk⟩) h.row h.bel h.bel.size (by omega) (fun v1 w1 hr hb hg _=>hk v1 w1 (h.put hg hb hr))
theorem rH (x:gX) (X2 X5:Option Addr) (d2 d5:Nat) (u:Value) (l:List Int) (M:Nat→Prop) (W0 w:World) (hB:Below W0.heap.size W0 w) (hR:Kd.R (Kd.int .u8) 5 w W0.heap.size M u l)
 (h2:Kd.C (Kd.slice 5 (Kd.int .u8)) W0 X2 x.f2.length x.f2) (l2:x.f2.length≤d2) (h5:Kd.C jC W0 X5 x.f5.length x.f5) (l5:x.f5.length≤d5) (hx:qQ x) (hT:(l++cX x).length≤900000000) :
 Calls Tryz.prog 81 #[u, .agg (ew x X2 X5 d2 d5)] w fun e w'=>∃v,e = .returned v∧Kd.R (Kd.int .u8) 5 w' W0.heap.size (fun k=>M k∨w.heap.size≤k) v (l++cX x)∧Below W0.heap.size W0 w'∧Kept w w' M:=by
 have hu68:=Tryz.underlying68;have hu99:=Tryz.underlying99;have H2:=aa h2;have H5:=aa h5;have HX:=aa hx;have hL2:=hx.l2;have hL5:=hx.l5;have S0:=aa (Sb.start hB hR #[.int .u64 x.f0, .int .u64 x.f1, .slice X2 x.f2.length d2, .int .u64 x.f3, .int .u64 x.f4, .slice X5 x.f5.length d5] 68);have E0:=aa (show l++(b8 x.f0++(b8 x.f1++(b8 x.f3++(b8 x.f4++(bu x.f2.length++(x.f2.flatMap dI++(bu x.f5.length++(x.f5.flatMap jN++[]))))))))=l++cX x by rw [bM];rfl);have HT:=aa hT;generalize l++cX x=T at E0 HT ⊢;have hw2:IntKind.u64.wrap (x.f2.length:Int)=(x.f2.length:Int):=IntWalk.u64_in _ (by omega);have hw5:IntKind.u64.wrap (x.f5.length:Int)=(x.f5.length:Int):=IntWalk.u64_in _ (by omega);clear h2 h5 hx hT hB hR;unfold ew;go_in;go_wp2_with fail;have BZ:=aa (show w.heap.size≤w.heap.size from Nat.le_refl _);generalize World.alloc w _=w0 at S0 ⊢;generalize hbx:w.heap.size=bx at S0 ⊢;clear hbx BZ;have y0:w0.cell? ⟨bx,0,none⟩=some (.int .u64 x.f0):=cell_of S0.1.box 0;go_wp2_with fail;(with_reducible refine (S0.1.yZ x.f0 HX.1.m0'.1 HX.1.m0'.2 (by have h:=congrArg List.length E0.1;have ht:=HT.1;simp only [List.length_append] at h;omega)).mono ?_);rintro e w1 ⟨v1,rfl,hS⟩;have S1:=aa hS;have E1:=aa (show (l++b8 x.f0)++(b8 x.f1++(b8 x.f3++(b8 x.f4++(bu x.f2.length++(x.f2.flatMap dI++(bu x.f5.length++(x.f5.flatMap jN++[])))))))=T by rw [List.append_assoc];exact E0.1);generalize l++b8 x.f0=o1 at S1 E1;clear hS S0 E0 y0;have y1:w1.cell? ⟨bx,1,none⟩=some (.int .u64 x.f1):=cell_of S1.1.box 1;go_wp2_with fail;(with_reducible refine (S1.1.yZ x.f1 HX.1.m1'.1 HX.1.m1'.2 (by have h:=congrArg List.length E1.1;have ht:=HT.1;simp only [List.length_append] at h;omega)).mono ?_);rintro e w2 ⟨v2,rfl,hS⟩;have S2:=aa hS;have E2:=aa (show (o1++b8 x.f1)++(b8 x.f3++(b8 x.f4++(bu x.f2.length++(x.f2.flatMap dI++(bu x.f5.length++(x.f5.flatMap jN++[]))))))=T by rw [List.append_assoc];exact E1.1);generalize o1++b8 x.f1=o2 at S2 E2;clear hS S1 E1 y1;have y3:w2.cell? ⟨bx,3,none⟩=some (.int .u64 x.f3):=cell_of S2.1.box 3;go_wp2_with fail;(with_reducible refine (S2.1.yZ x.f3 HX.1.m0 HX.1.m1 (by have h:=congrArg List.length E2.1;have ht:=HT.1;simp only [List.length_append] at h;omega)).mono ?_);rintro e w3 ⟨v3,rfl,hS⟩;have S3:=aa hS;have E3:=aa (show (o2++b8 x.f3)++(b8 x.f4++(bu x.f2.length++(x.f2.flatMap dI++(bu x.f5.length++(x.f5.flatMap jN++[])))))=T by rw [List.append_assoc];exact E2.1);generalize o2++b8 x.f3=o3 at S3 E3;clear hS S2 E2 y3;have y4:w3.cell? ⟨bx,4,none⟩=some (.int .u64 x.f4):=cell_of S3.1.box 4;go_wp2_with fail;(with_reducible refine (S3.1.yZ x.f4 HX.1.m4'.1 HX.1.m4'.2 (by have h:=congrArg List.length E3.1;have ht:=HT.1;simp only [List.length_append] at h;omega)).mono ?_);rintro e w4 ⟨v4,rfl,hS⟩;have S4:=aa hS;have E4:=aa (show (o3++b8 x.f4)++(bu x.f2.length++(x.f2.flatMap dI++(bu x.f5.length++(x.f5.flatMap jN++[]))))=T by rw [List.append_assoc];exact E3.1);generalize o3++b8 x.f4=o4 at S4 E4;clear hS S3 E3 y4;have y2:w4.cell? ⟨bx,2,none⟩=some (.slice X2 x.f2.length d2):=cell_of S4.1.box 2;go_wp2_with fail;(with_reducible refine (S4.1.group x.f2.length (by omega) (by have h:=congrArg List.length E4.1;have ht:=HT.1;simp only [List.length_append] at h;omega)).mono ?_);rintro e w5 ⟨v5,rfl,hS⟩;have S5:=aa hS;have E5:=aa (show (o4++bu x.f2.length)++(x.f2.flatMap dI++(bu x.f5.length++(x.f5.flatMap jN++[])))=T by rw [List.append_assoc];exact E4.1);generalize o4++bu x.f2.length=o5 at S5 E5;clear hS S4 E4 y2;go_wp2_with fail;have hq:(x.f2.drop 0).flatMap dI++(bu x.f5.length++(x.f5.flatMap jN++[]))=x.f2.flatMap dI++(bu x.f5.length++(x.f5.flatMap jN++[])):=by rw [List.drop_zero]
 have I0:=aa (hq▸E5.1);clear hq E5;go_loopw [0,5] (fun v0 v5 wr=>∃(j:Nat) (cur:List Int),j≤x.f2.length∧v5 = .int .i64 j∧af (Sb W0 w M bx #[.int .u64 x.f0, .int .u64 x.f1, .slice X2 x.f2.length d2, .int .u64 x.f3, .int .u64 x.f4, .slice X5 x.f5.length d5] 68 wr v0 cur)∧af (cur++((x.f2.drop j).flatMap dI++(bu x.f5.length++(x.f5.flatMap jN++[])))=T)) (fun _ v _=>x.f2.length - (intOf v).toNat)
 case atStart=>exact ⟨0,_,aI _,rfl,S5,I0⟩
 case round=>
  obtain ⟨j,cur,hj,rfl,S6,E6⟩:=hrel;clear S5 I0;have z2:wr.cell? ⟨bx,2,none⟩=some (.slice X2 x.f2.length d2):=cell_of S6.1.box 2;by_cases hjt:j<x.f2.length
  ·obtain ⟨ad2,c9,e1,_,hK,hc0⟩:=Kd.fw H2.1 [] (j:Int) (by omega) (by omega);obtain ⟨Y1,q1,rfl,hq1,hC1⟩:=hK;have hy0:=an S6.1.bel (hc0 0 _ rfl);subst e1;simp only [Int.toNat_natCast,show (Kd.slice 5 (Kd.int .u8)).sz=1 from rfl,Nat.mul_one,Nat.add_zero,List.getD_eq_getElem?_getD,List.getElem?_eq_getElem hjt,Option.getD_some] at hy0 hq1 hC1;have hlen:=HX.1.b2 _ (List.getElem_mem hjt);have E7:=E6.1;rw [ap hjt,bY,List.append_assoc] at E7;generalize x.f2[j]=y at hy0 hq1 hC1 E7 hlen;have E8:=aa E7;have HC:=aa hC1;have HLn:=aa hlen;clear E7 E6 hC1 hc0 hlen;go_wp2_with fail;(with_reducible refine (S6.1.block Y1 q1 y HC.1 hq1 (by have:=HLn.1;omega) (by have h:=congrArg List.length E8.1;have ht:=HT.1;simp only [List.length_append] at h;omega)).mono ?_);rintro e w7 ⟨v7,rfl,hS⟩;have S7:=aa hS;have E9:=aa (show (cur++dI y)++((x.f2.drop (j+1)).flatMap dI++(bu x.f5.length++(x.f5.flatMap jN++[])))=T by rw [List.append_assoc];exact E8.1);generalize cur++dI y=c7 at S7 E9;clear hS S6 E8 hy0 hq1 z2;go_wp2_with fail;go_roundw
   case rel=>exact ⟨j+1,c7,by omega,by go_num,S7,E9⟩
   case measure=>
    show x.f2.length - ((j:Int)+1).toNat<x.f2.length - (j:Int).toNat;omega
  have E7:=aa (show cur++(bu x.f5.length++(x.f5.flatMap jN++[]))=T by have h:=E6.1;rw [List.drop_eq_nil_of_le (by omega),ir,List.nil_append] at h;exact h);clear E6;have y5:wr.cell? ⟨bx,5,none⟩=some (.slice X5 x.f5.length d5):=cell_of S6.1.box 5;go_wp2_with fail;(with_reducible refine (S6.1.group x.f5.length (by omega) (by have h:=congrArg List.length E7.1;have ht:=HT.1;simp only [List.length_append] at h;omega)).mono ?_);rintro e w7 ⟨v7,rfl,hS⟩;have S7:=aa hS;have E8:=aa (show (cur++bu x.f5.length)++((x.f5.drop 0).flatMap jN++[])=T by rw [List.append_assoc,List.drop_zero];exact E7.1);generalize cur++bu x.f5.length=c7 at S7 E8;clear hS S6 E7 y5 z2;go_wp2_with fail;go_loopw [0,6] (fun v0 v6 wr=>∃(j:Nat) (cur:List Int),j≤x.f5.length∧v6 = .int .i64 j∧af (Sb W0 w M bx #[.int .u64 x.f0, .int .u64 x.f1, .slice X2 x.f2.length d2, .int .u64 x.f3, .int .u64 x.f4, .slice X5 x.f5.length d5] 68 wr v0 cur)∧af (cur++((x.f5.drop j).flatMap jN++[])=T)) (fun _ v _=>x.f5.length - (intOf v).toNat)
  case atStart=>exact ⟨0,_,aI _,rfl,S7,E8⟩
  case round=>
   obtain ⟨j,cur,hj,rfl,S8,E9⟩:=hrel;clear S7 E8;have z5:wr.cell? ⟨bx,5,none⟩=some (.slice X5 x.f5.length d5):=cell_of S8.1.box 5;by_cases hjt:j<x.f5.length
   ·obtain ⟨ad2,c9,e1,_,hK,hc0⟩:=Kd.fw H5.1 sI (j:Int) (by omega) (by omega);obtain ⟨Y1,q1,rfl,hq1,hC1⟩:=gn hK;have hz0:=hc0 0 _ rfl;have hz1:=hc0 1 _ rfl;subst e1;simp only [Int.toNat_natCast,show jC.sz=2 from rfl,Nat.add_zero,List.getD_eq_getElem?_getD,List.getElem?_eq_getElem hjt,Option.getD_some] at hz0 hz1 hq1 hC1;rw [dw _ _ 1 (by omega)] at hz1;have hlen:=HX.1.b5 _ (List.getElem_mem hjt);have hbnd:=(HX.1.y5 _ (List.getElem_mem hjt)).1;have E10:=E9.1;rw [ap hjt,bY,List.append_assoc,jN,List.append_assoc] at E10;generalize x.f5[j]=y at hz0 hz1 hq1 hC1 E10 hlen hbnd;have Z0:=aa hz0;have Z1:=aa hz1;have HBn:=aa hbnd;have E11:=aa E10;have HC:=aa hC1;have HLn:=aa hlen;have hy0:=an S8.1.bel hz0;clear E10 E9 hC1 hc0 hlen hz0 hz1 hbnd;go_wp2_with fail;(with_reducible refine (S8.1.yZ y.f0 HBn.1.1 HBn.1.2 (by have h:=congrArg List.length E11.1;have ht:=HT.1;simp only [List.length_append] at h;omega)).mono ?_);rintro e w9 ⟨v9,rfl,hS⟩;have S9:=aa hS;have E12:=aa (show (cur++b8 y.f0)++(dI y.f1++((x.f5.drop (j+1)).flatMap jN++[]))=T by rw [List.append_assoc];exact E11.1);generalize cur++b8 y.f0=c9_ at S9 E12;clear hS S8 E11 hy0 z5;have z5:w9.cell? ⟨bx,5,none⟩=some (.slice (some ad2) x.f5.length d5):=cell_of S9.1.box 5;have hy1:=an S9.1.bel Z1.1;go_wp2_with fail;(with_reducible refine (S9.1.block Y1 q1 y.f1 HC.1 hq1 (by have:=HLn.1;omega) (by have h:=congrArg List.length E12.1;have ht:=HT.1;simp only [List.length_append] at h;omega)).mono ?_);rintro e w10 ⟨v10,rfl,hS⟩;have S10:=aa hS;have E13:=aa (show (c9_++dI y.f1)++((x.f5.drop (j+1)).flatMap jN++[])=T by rw [List.append_assoc];exact E12.1);generalize c9_++dI y.f1=mO at S10 E13;clear hS S9 E12 hy1 hq1 z5;go_wp2_with fail;go_roundw
    case rel=>exact ⟨j+1,mO,by omega,by go_num,S10,E13⟩
    case measure=>
     show x.f5.length - ((j:Int)+1).toNat<x.f5.length - (j:Int).toNat;omega
   have E10:=aa (show cur=T by have h:=E9.1;rw [List.drop_eq_nil_of_le (by omega),ir,List.nil_append,bM] at h;exact h);clear E9;go_wp2_with fail;go_ret;have hS:=S8.1;rw [E10.1] at hS;exact ⟨_,rfl,Kd.bZ hS.row (fun k hk=>hk.1),hS.bel,hS.kept⟩
theorem Sb.peer {W0 w wx:World} {M:Nat→Prop} {bx t:Nat} {cs:Array Value} {v:Value} {l:List Int} (h:Sb W0 w M bx cs t wx v l) (x:gX) (X2 X5:Option Addr) (d2 d5:Nat)
 (h2:Kd.C (Kd.slice 5 (Kd.int .u8)) W0 X2 x.f2.length x.f2) (l2:x.f2.length≤d2) (h5:Kd.C jC W0 X5 x.f5.length x.f5) (l5:x.f5.length≤d5) (hx:qQ x) (hT:(l++cX x).length≤900000000) :
 Calls Tryz.prog 81 #[v, .agg (ew x X2 X5 d2 d5)] wx fun e w'=>∃v',e = .returned v'∧Sb W0 w M bx cs t w' v' (l++cX x):=
 (rH x X2 X5 d2 d5 v l (yt W0 w M bx) W0 wx h.bel h.row h2 l2 h5 l5 hx hT).mono fun e w' ⟨v',he,hr,hB,hK⟩=>⟨v',he,h.call hr hB hK⟩
theorem Bf (s:Hs) (A1 A2 A3 A6:Option Addr) (c1 c2 c3 c6:Nat) (W:World) (hr:pL W s A1 A2 A3 A6 c1 c2 c3 c6) (hb:oO s) (hw:DS s) :
 Calls Tryz.prog 33 #[.agg (jw s A1 A2 A3 A6 c1 c2 c3 c6)] W fun e w'=>∃v,e = .returned v∧Kd.R (Kd.int .u8) 5 w' W.heap.size (fun _=>True) v (dV s)∧Below W.heap.size W w':=by
 have hu30:=Tryz.underlying30;have hu76:=Tryz.underlying76;have hu59:=Tryz.underlying59;have hu62:=Tryz.underlying62;have hu68:=Tryz.underlying68;have hu28:=Tryz.underlying28;have HR:=aa hr;have HB:=aa hb;have HT:=aa (show (dV s).length≤900000000 by have:=jG s hw;omega);obtain ⟨nf,hnf⟩:=ku s.free hw.free.1;obtain ⟨ns,hns⟩:=ku s.spare hw.spare.1;have hf1:nf≤1073741824:=by have:=hw.free.2;omega
 have hs1:ns≤1073741824:=by have:=hw.spare.2;omega
 have hL1:=hb.b1.1;have hL2:=hb.b2.1;have hL3:=hb.b3.1;have hL6:s.peers.length≤16:=hw.peers.1;have E0:=aa (show [192,1,s.self]++(bu s.table.length++(s.table.flatMap iR++(bu s.pairs.length++(s.pairs.flatMap dY++(bu s.ses.length++(s.ses.flatMap ej++(bu nf++(bu ns++(((s.peers.length:Int)::s.peers.flatMap cX)++[])))))))))=dV s by
  rw [bM];unfold dV fI gr;rw [hnf,hns];simp only [List.cons_append,List.nil_append,Int.toNat_natCast])
 generalize dV s=T at E0 HT ⊢;have hw1:IntKind.u64.wrap (s.table.length:Int)=(s.table.length:Int):=IntWalk.u64_in _ (by omega);have hw2:IntKind.u64.wrap (s.pairs.length:Int)=(s.pairs.length:Int):=IntWalk.u64_in _ (by omega);have hw3:IntKind.u64.wrap (s.ses.length:Int)=(s.ses.length:Int):=IntWalk.u64_in _ (by omega);have hwf:IntKind.u64.wrap (nf:Int)=(nf:Int):=IntWalk.u64_in _ (by omega);have hws:IntKind.u64.wrap (ns:Int)=(ns:Int):=IntWalk.u64_in _ (by omega);have hw6:IntKind.u8.wrap (s.peers.length:Int)=(s.peers.length:Int):=by rw [IntKind.wrap_u8'];omega
 clear hr hb hw;unfold jw;rw [hnf,hns];clear hnf hns;go_in;go_upto_region 2 with (fail);have SZ:=(show (W.alloc (.cells #[.int .u8 s.self, .slice A1 s.table.length c1, .slice A2 s.pairs.length c2, .slice A3 s.ses.length c3, .int .i64 (nf:Int), .int .i64 (ns:Int), .slice A6 s.peers.length c6] 30)).heap.size=W.heap.size+1 by simp);have NB:=aJ (W.alloc (.cells #[.int .u8 s.self, .slice A1 s.table.length c1, .slice A2 s.pairs.length c2, .slice A3 s.ses.length c3, .int .i64 (nf:Int), .int .i64 (ns:Int), .slice A6 s.peers.length c6] 30)) (.cells #[.int .u8 192, .int .u8 1, .int .u8 s.self] 5);rw [SZ] at NB;have BX:=((ah (Below.refl (W.alloc (.cells #[.int .u8 s.self, .slice A1 s.table.length c1, .slice A2 s.pairs.length c2, .slice A3 s.ses.length c3, .int .i64 (nf:Int), .int .i64 (ns:Int), .slice A6 s.peers.length c6] 30)).heap.size (W.alloc (.cells #[.int .u8 s.self, .slice A1 s.table.length c1, .slice A2 s.pairs.length c2, .slice A3 s.ses.length c3, .int .i64 (nf:Int), .int .i64 (ns:Int), .slice A6 s.peers.length c6] 30))) (.cells #[.int .u8 192, .int .u8 1, .int .u8 s.self] 5)).block W.heap.size (by rw [SZ];omega)).trans (aJ W (.cells #[.int .u8 s.self, .slice A1 s.table.length c1, .slice A2 s.pairs.length c2, .slice A3 s.ses.length c3, .int .i64 (nf:Int), .int .i64 (ns:Int), .slice A6 s.peers.length c6] 30));have BB:=ah (ah (Below.refl W.heap.size W) (.cells #[.int .u8 s.self, .slice A1 s.table.length c1, .slice A2 s.pairs.length c2, .slice A3 s.ses.length c3, .int .i64 (nf:Int), .int .i64 (ns:Int), .slice A6 s.peers.length c6] 30)) (.cells #[.int .u8 192, .int .u8 1, .int .u8 s.self] 5);have S0:=aa (show Sb W W (fun _=>False) W.heap.size #[.int .u8 s.self, .slice A1 s.table.length c1, .slice A2 s.pairs.length c2, .slice A3 s.ses.length c3, .int .i64 (nf:Int), .int .i64 (ns:Int), .slice A6 s.peers.length c6] 30 ((W.alloc (.cells #[.int .u8 s.self, .slice A1 s.table.length c1, .slice A2 s.pairs.length c2, .slice A3 s.ses.length c3, .int .i64 (nf:Int), .int .i64 (ns:Int), .slice A6 s.peers.length c6] 30)).alloc (.cells #[.int .u8 192, .int .u8 1, .int .u8 s.self] 5)) (.slice (some ⟨W.heap.size+1,0,none⟩) 3 3) [192,1,s.self] from
  ⟨nJ (xs:=[192,1,s.self]) NB (by omega) ⟨Or.inr (by omega),by omega,by omega⟩ (by simp),BX,BB,Kept.cH BB _,Nat.le_refl _⟩)
 clear SZ NB BX BB;generalize World.alloc (World.alloc W _) _=w0 at S0 ⊢;generalize (Value.slice (some ⟨W.heap.size+1,0,none⟩) 3 3)=v0 at S0 ⊢;generalize W.heap.size=bx at S0 ⊢;generalize ([192,1,s.self]:List Int)=o0 at S0 E0;have z:w0.cell? ⟨bx,1,none⟩=some (.slice A1 s.table.length c1):=cell_of S0.1.box 1;go_wp2_with fail;(with_reducible refine (S0.1.group s.table.length (by omega) (by have h:=congrArg List.length E0.1;have ht:=HT.1;simp only [List.length_append] at h;omega)).mono ?_);rintro e w1 ⟨v1,rfl,hS⟩;have S1:=aa hS;have E1:=aa (show (o0++bu s.table.length)++(s.table.flatMap iR++(bu s.pairs.length++(s.pairs.flatMap dY++(bu s.ses.length++(s.ses.flatMap ej++(bu nf++(bu ns++(((s.peers.length:Int)::s.peers.flatMap cX)++[]))))))))=T by rw [List.append_assoc];exact E0.1);generalize o0++bu s.table.length=o1 at S1 E1;clear hS S0 E0 z;go_wp2_with fail;have I1:=aa (show o1++((s.table.drop 0).flatMap iR++(bu s.pairs.length++(s.pairs.flatMap dY++(bu s.ses.length++(s.ses.flatMap ej++(bu nf++(bu ns++(((s.peers.length:Int)::s.peers.flatMap cX)++[]))))))))=T by rw [List.drop_zero];exact E1.1);clear E1;go_loopw [3,4] (fun v3 v4 wr=>∃(j:Nat) (cur:List Int),j≤s.table.length∧v4 = .int .i64 j∧af (Sb W W (fun _=>False) bx #[.int .u8 s.self, .slice A1 s.table.length c1, .slice A2 s.pairs.length c2, .slice A3 s.ses.length c3, .int .i64 (nf:Int), .int .i64 (ns:Int), .slice A6 s.peers.length c6] 30 wr v3 cur)∧af (cur++((s.table.drop j).flatMap iR++(bu s.pairs.length++(s.pairs.flatMap dY++(bu s.ses.length++(s.ses.flatMap ej++(bu nf++(bu ns++(((s.peers.length:Int)::s.peers.flatMap cX)++[]))))))))=T)) (fun _ v _=>s.table.length - (intOf v).toNat)
 case atStart=>exact ⟨0,_,aI _,rfl,S1,I1⟩
 case round=>
  obtain ⟨j,cur,hj,rfl,S1,E1⟩:=hrel;clear I1;generalize wr=w1 at S1 ⊢;have zz:w1.cell? ⟨bx,1,none⟩=some (.slice A1 s.table.length c1):=cell_of S1.1.box 1;by_cases hjt:j<s.table.length
  ·obtain ⟨ad,e1,m0,m1,m2⟩:=gd HR.1.r1 (j:Int) (by omega) (by omega);subst e1;simp only [Int.toNat_natCast] at m0 m1 m2;have hrd:bg s.table (j:Int)=s.table[j]:=by simp [bg,List.getD_eq_getElem?_getD,hjt]
   have HBn:=aa (HB.1.b1.2 _ (hrd▸List.getElem_mem hjt:bg s.table (j:Int)∈s.table));have F:=E1.1;rw [ap hjt,bY,List.append_assoc,←hrd] at F;generalize bg s.table (j:Int)=y at m0 m1 m2 F HBn;have F1:=aa F;have MM:=aa (And.intro m0 (And.intro m1 m2));clear F E1 hrd m0 m1 m2;have z:=zz;clear zz;have E1:=aa (show cur++(b8 y.f1++([y.f2]++((s.table.drop (j+1)).flatMap iR++(bu s.pairs.length++(s.pairs.flatMap dY++(bu s.ses.length++(s.ses.flatMap ej++(bu nf++(bu ns++(((s.peers.length:Int)::s.peers.flatMap cX)++[]))))))))))=T by have h:=F1.1;rw [iR,List.append_assoc] at h;exact h);clear F1;have m:=an S1.1.bel (MM.1.2.1);go_wp2_with fail;(with_reducible refine (S1.1.yZ y.f1 HBn.1.2.1.1 HBn.1.2.1.2 (by have h:=congrArg List.length E1.1;have ht:=HT.1;simp only [List.length_append] at h;omega)).mono ?_);rintro e w2 ⟨v2,rfl,hS⟩;have S2:=aa hS;have E2:=aa (show (cur++b8 y.f1)++([y.f2]++((s.table.drop (j+1)).flatMap iR++(bu s.pairs.length++(s.pairs.flatMap dY++(bu s.ses.length++(s.ses.flatMap ej++(bu nf++(bu ns++(((s.peers.length:Int)::s.peers.flatMap cX)++[])))))))))=T by rw [List.append_assoc];exact E1.1);generalize cur++b8 y.f1=o2 at S2 E2;clear hS S1 E1 z m;have z:w2.cell? ⟨bx,1,none⟩=some (.slice (some ad) s.table.length c1):=cell_of S2.1.box 1;have m:=an S2.1.bel (MM.1.2.2);go_wp2_with ((with_reducible refine aM (b:= .append) (xs:=#[.tmp 32, .tmp 39]) rfl ?_);at_builtin;refine Sb.Da S2.1 rfl (.tmp 32) (.tmp 39) rfl Tryz.underlying32 ff (y.f2) rfl rfl (by have h:=congrArg List.length E2.1;have ht:=HT.1;simp only [List.length_append] at h;omega) ?_;intro v3 w3 hS;have S3:=aa hS;have E3:=aa (show (o2++[y.f2])++((s.table.drop (j+1)).flatMap iR++(bu s.pairs.length++(s.pairs.flatMap dY++(bu s.ses.length++(s.ses.flatMap ej++(bu nf++(bu ns++(((s.peers.length:Int)::s.peers.flatMap cX)++[]))))))))=T by rw [List.append_assoc];exact E2.1);generalize o2++[y.f2]=o3 at S3 E3;clear hS S2 E2 z m);go_wp2_with fail;go_roundw
   case rel=>exact ⟨j+1,o3,by omega,by go_num,S3,E3⟩
   case measure=>
    show s.table.length - ((j:Int)+1).toNat<s.table.length - (j:Int).toNat;omega
  have E_:=aa (show cur++(bu s.pairs.length++(s.pairs.flatMap dY++(bu s.ses.length++(s.ses.flatMap ej++(bu nf++(bu ns++(((s.peers.length:Int)::s.peers.flatMap cX)++[])))))))=T by have h:=E1.1;rw [List.drop_eq_nil_of_le (by omega),ir,List.nil_append] at h;exact h);clear E1;have E1:=E_;clear E_;have z:w1.cell? ⟨bx,2,none⟩=some (.slice A2 s.pairs.length c2):=cell_of S1.1.box 2;go_wp2_with fail;(with_reducible refine (S1.1.group s.pairs.length (by omega) (by have h:=congrArg List.length E1.1;have ht:=HT.1;simp only [List.length_append] at h;omega)).mono ?_);rintro e w2 ⟨v2,rfl,hS⟩;have S2:=aa hS;have E2:=aa (show (cur++bu s.pairs.length)++(s.pairs.flatMap dY++(bu s.ses.length++(s.ses.flatMap ej++(bu nf++(bu ns++(((s.peers.length:Int)::s.peers.flatMap cX)++[]))))))=T by rw [List.append_assoc];exact E1.1);generalize cur++bu s.pairs.length=o2 at S2 E2;clear hS S1 E1 z;go_wp2_with fail;have I2:=aa (show o2++((s.pairs.drop 0).flatMap dY++(bu s.ses.length++(s.ses.flatMap ej++(bu nf++(bu ns++(((s.peers.length:Int)::s.peers.flatMap cX)++[]))))))=T by rw [List.drop_zero];exact E2.1);clear E2;go_loopw [3,5] (fun v3 v5 wr=>∃(j:Nat) (cur:List Int),j≤s.pairs.length∧v5 = .int .i64 j∧af (Sb W W (fun _=>False) bx #[.int .u8 s.self, .slice A1 s.table.length c1, .slice A2 s.pairs.length c2, .slice A3 s.ses.length c3, .int .i64 (nf:Int), .int .i64 (ns:Int), .slice A6 s.peers.length c6] 30 wr v3 cur)∧af (cur++((s.pairs.drop j).flatMap dY++(bu s.ses.length++(s.ses.flatMap ej++(bu nf++(bu ns++(((s.peers.length:Int)::s.peers.flatMap cX)++[]))))))=T)) (fun _ v _=>s.pairs.length - (intOf v).toNat)
  case atStart=>exact ⟨0,_,aI _,rfl,S2,I2⟩
  case round=>
   obtain ⟨j,cur,hj,rfl,S2,E2⟩:=hrel;clear I2;generalize wr=w2 at S2 ⊢;have zz:w2.cell? ⟨bx,2,none⟩=some (.slice A2 s.pairs.length c2):=cell_of S2.1.box 2;by_cases hjt:j<s.pairs.length
   ·obtain ⟨ad,Y1,q1,e1,m0,m1,hq1,hC1⟩:=iG HR.1.r2 (j:Int) (by omega) (by omega);subst e1;simp only [Int.toNat_natCast] at m0 m1 hC1 hq1;have hrd:cF s.pairs (j:Int)=s.pairs[j]:=by simp [cF,List.getD_eq_getElem?_getD,hjt]
    have HBn:=aa (HB.1.b2.2 _ (hrd▸List.getElem_mem hjt:cF s.pairs (j:Int)∈s.pairs));have F:=E2.1;rw [ap hjt,bY,List.append_assoc,←hrd] at F;generalize cF s.pairs (j:Int)=y at m0 m1 hC1 hq1 F HBn;have F2:=aa F;have HC:=aa hC1;have MM:=aa (And.intro m0 m1);clear F E2 hrd m0 m1 hC1;have z:=zz;clear zz;have E2:=aa (show cur++(b8 y.f0++(dI y.f1++((s.pairs.drop (j+1)).flatMap dY++(bu s.ses.length++(s.ses.flatMap ej++(bu nf++(bu ns++(((s.peers.length:Int)::s.peers.flatMap cX)++[]))))))))=T by have h:=F2.1;rw [dY,List.append_assoc] at h;exact h);clear F2;have m:=an S2.1.bel (MM.1.1);go_wp2_with fail;(with_reducible refine (S2.1.yZ y.f0 HBn.1.1.1 HBn.1.1.2 (by have h:=congrArg List.length E2.1;have ht:=HT.1;simp only [List.length_append] at h;omega)).mono ?_);rintro e w3 ⟨v3,rfl,hS⟩;have S3:=aa hS;have E3:=aa (show (cur++b8 y.f0)++(dI y.f1++((s.pairs.drop (j+1)).flatMap dY++(bu s.ses.length++(s.ses.flatMap ej++(bu nf++(bu ns++(((s.peers.length:Int)::s.peers.flatMap cX)++[])))))))=T by rw [List.append_assoc];exact E2.1);generalize cur++b8 y.f0=o3 at S3 E3;clear hS S2 E2 z m;have z:w3.cell? ⟨bx,2,none⟩=some (.slice (some ad) s.pairs.length c2):=cell_of S3.1.box 2;have m:=an S3.1.bel (MM.1.2);go_wp2_with fail;(with_reducible refine (S3.1.block Y1 q1 y.f1 HC.1 hq1 (by have:=HBn.1.2.1;omega) (by have h:=congrArg List.length E3.1;have ht:=HT.1;simp only [List.length_append] at h;omega)).mono ?_);rintro e w4 ⟨v4,rfl,hS⟩;have S4:=aa hS;have E4:=aa (show (o3++dI y.f1)++((s.pairs.drop (j+1)).flatMap dY++(bu s.ses.length++(s.ses.flatMap ej++(bu nf++(bu ns++(((s.peers.length:Int)::s.peers.flatMap cX)++[]))))))=T by rw [List.append_assoc];exact E3.1);generalize o3++dI y.f1=o4 at S4 E4;clear hS S3 E3 z m hq1;go_wp2_with fail;go_roundw
    case rel=>exact ⟨j+1,o4,by omega,by go_num,S4,E4⟩
    case measure=>
     show s.pairs.length - ((j:Int)+1).toNat<s.pairs.length - (j:Int).toNat;omega
   have E_:=aa (show cur++(bu s.ses.length++(s.ses.flatMap ej++(bu nf++(bu ns++(((s.peers.length:Int)::s.peers.flatMap cX)++[])))))=T by have h:=E2.1;rw [List.drop_eq_nil_of_le (by omega),ir,List.nil_append] at h;exact h);clear E2;have E2:=E_;clear E_;have z:w2.cell? ⟨bx,3,none⟩=some (.slice A3 s.ses.length c3):=cell_of S2.1.box 3;go_wp2_with fail;(with_reducible refine (S2.1.group s.ses.length (by omega) (by have h:=congrArg List.length E2.1;have ht:=HT.1;simp only [List.length_append] at h;omega)).mono ?_);rintro e w3 ⟨v3,rfl,hS⟩;have S3:=aa hS;have E3:=aa (show (cur++bu s.ses.length)++(s.ses.flatMap ej++(bu nf++(bu ns++(((s.peers.length:Int)::s.peers.flatMap cX)++[]))))=T by rw [List.append_assoc];exact E2.1);generalize cur++bu s.ses.length=o3 at S3 E3;clear hS S2 E2 z;go_wp2_with fail;have I3:=aa (show o3++((s.ses.drop 0).flatMap ej++(bu nf++(bu ns++(((s.peers.length:Int)::s.peers.flatMap cX)++[]))))=T by rw [List.drop_zero];exact E3.1);clear E3;go_loopw [3,6] (fun v3 v6 wr=>∃(j:Nat) (cur:List Int),j≤s.ses.length∧v6 = .int .i64 j∧af (Sb W W (fun _=>False) bx #[.int .u8 s.self, .slice A1 s.table.length c1, .slice A2 s.pairs.length c2, .slice A3 s.ses.length c3, .int .i64 (nf:Int), .int .i64 (ns:Int), .slice A6 s.peers.length c6] 30 wr v3 cur)∧af (cur++((s.ses.drop j).flatMap ej++(bu nf++(bu ns++(((s.peers.length:Int)::s.peers.flatMap cX)++[]))))=T)) (fun _ v _=>s.ses.length - (intOf v).toNat)
   case atStart=>exact ⟨0,_,aI _,rfl,S3,I3⟩
   case round=>
    obtain ⟨j,cur,hj,rfl,S3,E3⟩:=hrel;clear I3;generalize wr=w3 at S3 ⊢;have zz:w3.cell? ⟨bx,3,none⟩=some (.slice A3 s.ses.length c3):=cell_of S3.1.box 3;by_cases hjt:j<s.ses.length
    ·obtain ⟨ad,e1,m0,m1,m2⟩:=iF HR.1.r3 (j:Int) (by omega) (by omega);subst e1;simp only [Int.toNat_natCast] at m0 m1 m2;have hrd:bW s.ses (j:Int)=s.ses[j]:=by simp [bW,List.getD_eq_getElem?_getD,hjt]
     have HBn:=aa (HB.1.b3.2 _ (hrd▸List.getElem_mem hjt:bW s.ses (j:Int)∈s.ses));have F:=E3.1;rw [ap hjt,bY,List.append_assoc,←hrd] at F;generalize bW s.ses (j:Int)=y at m0 m1 m2 F HBn;have F3:=aa F;have MM:=aa (And.intro m0 (And.intro m1 m2));clear F E3 hrd m0 m1 m2;have z:=zz;clear zz;have E3:=aa (show cur++([y.f0]++(b8 y.f1++([y.f2]++((s.ses.drop (j+1)).flatMap ej++(bu nf++(bu ns++(((s.peers.length:Int)::s.peers.flatMap cX)++[])))))))=T by have h:=F3.1;rw [ej,List.cons_append,List.append_assoc] at h;exact h);clear F3;have m:=an S3.1.bel (MM.1.1);go_wp2_with ((with_reducible refine aM (b:= .append) (xs:=#[.tmp 83, .tmp 90]) rfl ?_);at_builtin;refine Sb.Da S3.1 rfl (.tmp 83) (.tmp 90) rfl Tryz.underlying32 ff (y.f0) rfl rfl (by have h:=congrArg List.length E3.1;have ht:=HT.1;simp only [List.length_append] at h;omega) ?_;intro v4 w4 hS;have S4:=aa hS;have E4:=aa (show (cur++[y.f0])++(b8 y.f1++([y.f2]++((s.ses.drop (j+1)).flatMap ej++(bu nf++(bu ns++(((s.peers.length:Int)::s.peers.flatMap cX)++[]))))))=T by rw [List.append_assoc];exact E3.1);generalize cur++[y.f0]=o4 at S4 E4;clear hS S3 E3 z m;have z:w4.cell? ⟨bx,3,none⟩=some (.slice (some ad) s.ses.length c3):=cell_of S4.1.box 3;have m:=an S4.1.bel (MM.1.2.1));go_wp2_with fail;(with_reducible refine (S4.1.yZ y.f1 HBn.1.2.1.1 HBn.1.2.1.2 (by have h:=congrArg List.length E4.1;have ht:=HT.1;simp only [List.length_append] at h;omega)).mono ?_);rintro e w5 ⟨v5,rfl,hS⟩;have S5:=aa hS;have E5:=aa (show (o4++b8 y.f1)++([y.f2]++((s.ses.drop (j+1)).flatMap ej++(bu nf++(bu ns++(((s.peers.length:Int)::s.peers.flatMap cX)++[])))))=T by rw [List.append_assoc];exact E4.1);generalize o4++b8 y.f1=o5 at S5 E5;clear hS S4 E4 z m;have z:w5.cell? ⟨bx,3,none⟩=some (.slice (some ad) s.ses.length c3):=cell_of S5.1.box 3;have m:=an S5.1.bel (MM.1.2.2);go_wp2_with ((with_reducible refine aM (b:= .append) (xs:=#[.tmp 100, .tmp 107]) rfl ?_);at_builtin;refine Sb.Da S5.1 rfl (.tmp 100) (.tmp 107) rfl Tryz.underlying32 ff (y.f2) rfl rfl (by have h:=congrArg List.length E5.1;have ht:=HT.1;simp only [List.length_append] at h;omega) ?_;intro v6 w6 hS;have S6:=aa hS;have E6:=aa (show (o5++[y.f2])++((s.ses.drop (j+1)).flatMap ej++(bu nf++(bu ns++(((s.peers.length:Int)::s.peers.flatMap cX)++[]))))=T by rw [List.append_assoc];exact E5.1);generalize o5++[y.f2]=o6 at S6 E6;clear hS S5 E5 z m);go_wp2_with fail;go_roundw
     case rel=>exact ⟨j+1,o6,by omega,by go_num,S6,E6⟩
     case measure=>
      show s.ses.length - ((j:Int)+1).toNat<s.ses.length - (j:Int).toNat;omega
    have E_:=aa (show cur++(bu nf++(bu ns++(((s.peers.length:Int)::s.peers.flatMap cX)++[])))=T by have h:=E3.1;rw [List.drop_eq_nil_of_le (by omega),ir,List.nil_append] at h;exact h);clear E3;have E3:=E_;clear E_;have z:w3.cell? ⟨bx,4,none⟩=some (.int .i64 (nf:Int)):=cell_of S3.1.box 4;go_wp2_with fail;(with_reducible refine (S3.1.group nf (by omega) (by have h:=congrArg List.length E3.1;have ht:=HT.1;simp only [List.length_append] at h;omega)).mono ?_);rintro e w4 ⟨v4,rfl,hS⟩;have S4:=aa hS;have E4:=aa (show (cur++bu nf)++(bu ns++(((s.peers.length:Int)::s.peers.flatMap cX)++[]))=T by rw [List.append_assoc];exact E3.1);generalize cur++bu nf=o4 at S4 E4;clear hS S3 E3 z;have z:w4.cell? ⟨bx,5,none⟩=some (.int .i64 (ns:Int)):=cell_of S4.1.box 5;go_wp2_with fail;(with_reducible refine (S4.1.group ns (by omega) (by have h:=congrArg List.length E4.1;have ht:=HT.1;simp only [List.length_append] at h;omega)).mono ?_);rintro e w5 ⟨v5,rfl,hS⟩;have S5:=aa hS;have E5:=aa (show (o4++bu ns)++([(s.peers.length:Int)]++(s.peers.flatMap cX++[]))=T by rw [List.append_assoc];exact E4.1);generalize o4++bu ns=o5 at S5 E5;clear hS S4 E4 z;have z:w5.cell? ⟨bx,6,none⟩=some (.slice A6 s.peers.length c6):=cell_of S5.1.box 6;go_wp2_with ((with_reducible refine aM (b:= .append) (xs:=#[.tmp 119, .tmp 125]) rfl ?_);at_builtin;refine Sb.Da S5.1 rfl (.tmp 119) (.tmp 125) rfl Tryz.underlying32 ff ((s.peers.length:Int)) rfl rfl (by have h:=congrArg List.length E5.1;have ht:=HT.1;simp only [List.length_append] at h;omega) ?_;intro v6 w6 hS;have S6:=aa hS;have E6:=aa (show (o5++[(s.peers.length:Int)])++(s.peers.flatMap cX++[])=T by rw [List.append_assoc];exact E5.1);generalize o5++[(s.peers.length:Int)]=o6 at S6 E6;clear hS S5 E5 z);go_wp2_with fail;have I6:=aa (show o6++((s.peers.drop 0).flatMap cX++([]:List Int))=T by rw [List.drop_zero];exact E6.1);clear E6;go_loopw [3,7] (fun v3 v7 wr=>∃(j:Nat) (cur:List Int),j≤s.peers.length∧v7 = .int .i64 j∧af (Sb W W (fun _=>False) bx #[.int .u8 s.self, .slice A1 s.table.length c1, .slice A2 s.pairs.length c2, .slice A3 s.ses.length c3, .int .i64 (nf:Int), .int .i64 (ns:Int), .slice A6 s.peers.length c6] 30 wr v3 cur)∧af (cur++((s.peers.drop j).flatMap cX++([]:List Int))=T)) (fun _ v _=>s.peers.length - (intOf v).toNat)
    case atStart=>exact ⟨0,_,aI _,rfl,S6,I6⟩
    case round=>
     obtain ⟨j,cur,hj,rfl,S6,E6⟩:=hrel;clear I6;generalize wr=w6 at S6 ⊢;have zz:w6.cell? ⟨bx,6,none⟩=some (.slice A6 s.peers.length c6):=cell_of S6.1.box 6;by_cases hjt:j<s.peers.length
     ·obtain ⟨ad,X2,d2,X5,d5,e1,m0,m1,m2,m3,m4,m5,l2,C2,l5,C5⟩:=jY HR.1.r6 (j:Int) (by omega) (by omega);subst e1;simp only [Int.toNat_natCast] at m0 m1 m2 m3 m4 m5 C2 l2 C5 l5;have hrd:cN s.peers (j:Int)=s.peers[j]:=by simp [cN,List.getD_eq_getElem?_getD,hjt]
      have HBn:=aa (HB.1.b6.2 _ (hrd▸List.getElem_mem hjt:cN s.peers (j:Int)∈s.peers));have F:=E6.1;rw [ap hjt,bY,List.append_assoc,←hrd] at F;generalize cN s.peers (j:Int)=y at m0 m1 m2 m3 m4 m5 C2 l2 C5 l5 F HBn;have F6:=aa F;have HC2:=aa C2;have HC5:=aa C5;have MM:=aa (And.intro m0 (And.intro m1 (And.intro m2 (And.intro m3 (And.intro m4 m5)))));clear F E6 hrd m0 m1 m2 m3 m4 m5 C2 C5;have z:=zz;clear zz;have E6:=F6;clear F6;have m0:=an S6.1.bel (MM.1.1);have m1:=an S6.1.bel (MM.1.2.1);have m2:=an S6.1.bel (MM.1.2.2.1);have m3:=an S6.1.bel (MM.1.2.2.2.1);have m4:=an S6.1.bel (MM.1.2.2.2.2.1);have m5:=an S6.1.bel (MM.1.2.2.2.2.2);go_wp2_with fail;have PC:=aa (S6.1.peer y X2 X5 d2 d5 HC2.1 l2 HC5.1 l5 HBn.1 (by have h:=congrArg List.length E6.1;have ht:=HT.1;simp only [List.length_append] at h ⊢;omega));unfold ew at PC;(with_reducible refine PC.1.mono ?_);clear PC;rintro e w7 ⟨v7,rfl,hS⟩;have S7:=aa hS;have E7:=aa (show (cur++cX y)++((s.peers.drop (j+1)).flatMap cX++([]:List Int))=T by rw [List.append_assoc];exact E6.1);generalize cur++cX y=o7 at S7 E7;clear hS S6 E6 z m0 m1 m2 m3 m4 m5;go_wp2_with fail;go_roundw
      case rel=>exact ⟨j+1,o7,by omega,by go_num,S7,E7⟩
      case measure=>
       show s.peers.length - ((j:Int)+1).toNat<s.peers.length - (j:Int).toNat;omega
     have E_:=aa (show cur++([]:List Int)=T by have h:=E6.1;rw [List.drop_eq_nil_of_le (by omega),ir,List.nil_append] at h;exact h);clear E6;go_wp2_with fail;go_ret;have hS:=S6.1;have hE:cur=T:=by have h:=E_.1;rw [bM] at h;exact h
     rw [hE] at hS;exact ⟨_,rfl,Kd.bZ hS.row (fun _ _=>trivial),hS.bel⟩
theorem Bt (s:Hs) (A1 A2 A3 A6:Option Addr) (c1 c2 c3 c6:Nat) (W:World) (hr:pL W s A1 A2 A3 A6 c1 c2 c3 c6) (hb:oO s) :
 Calls Tryz.prog 8 #[.agg (jw s A1 A2 A3 A6 c1 c2 c3 c6)] W (Dx W s):=by
 have hu30:=Tryz.underlying30;obtain ⟨n,hn⟩:=ku s.self hb.b0.1;have FK:=aa (fun (w:World) (h:Below W.heap.size W w)=>yp s n hn A1 A2 A3 A6 c1 c2 c3 c6 w (hr.below h) hb);rw [Cj s n hn hb] at FK;have SK:=aa (fun (w:World) (h:Below W.heap.size W w) (hw:ni s=true)=>Bf s A1 A2 A3 A6 c1 c2 c3 c6 w (hr.below h) hb (lA s hw));have ZK:=aa (fun (w:World) (v:Value) (h:Below W.heap.size W w) (hw:ni s=true) (hR:Kd.R (Kd.int .u8) 5 w W.heap.size (fun _=>True) v (dV s))=>eY.calls (8*(dV s).length+66) (fun _=>True) v (dV s) _ W w h hR (pP (dV s) (kG s hb (by have:=(lA s hw).peers.1;omega)) (by have:=jG s (lA s hw);omega) _ (Nat.le_refl _)));clear hr hb hn;unfold jw at FK SK ⊢;go_in;go_wp2_with ((with_reducible refine az (N:=6) rfl ?_);refine lB (aJ W _) Tryz.underlying30 ?_);have B1:=aa (ah (Below.refl _ W) (.cells #[.int .u8 s.self, .slice A1 s.table.length c1, .slice A2 s.pairs.length c2, .slice A3 s.ses.length c3, .int .i64 s.free, .int .i64 s.spare, .slice A6 s.peers.length c6] 30));have X1:=aa (aJ W (.cells #[.int .u8 s.self, .slice A1 s.table.length c1, .slice A2 s.pairs.length c2, .slice A3 s.ses.length c3, .int .i64 s.free, .int .i64 s.spare, .slice A6 s.peers.length c6] 30));generalize World.alloc W _=W1 at B1 X1 ⊢;generalize W.heap.size=b1 at X1 ⊢;refine (FK.1 W1 B1.1).mono ?_;rintro e w2 ⟨rfl,hB⟩;have B2:=aa (B1.1.trans (hB.mono B1.1.size));have X2:=aa ((hB.block b1 (ak X1.1)).trans X1.1);clear hB FK B1 X1;cases hw:ni s with
 | false=>
  go_wp2_with fail;go_ret2;exact ⟨B2.1,by rw [if_neg (by rw [hw];exact Bool.false_ne_true)];rfl⟩
 | true=>
 have HW:=aa hw;clear hw;go_wp2_with ((with_reducible refine az (N:=10) rfl ?_);refine lB X2.1 Tryz.underlying30 ?_);refine (SK.1 w2 B2.1 HW.1).mono ?_;rintro e w3 ⟨v3,rfl,hR,hB⟩;have R3:=aa (Kd.cI hR B2.1.size);have B3:=aa (B2.1.trans (hB.mono B2.1.size));clear hR hB SK B2 X2;go_wp2_with fail;refine (ZK.1 w3 v3 B3.1 HW.1 R3.1).mono ?_;rintro e w4 ⟨v4,rfl,hR,hB,_⟩;have R4:=aa (Kd.bZ hR (fun _ _=>trivial) (ok':=fun _=>True));have B4:=aa hB;clear hR hB ZK B3 R3;go_wp2_with fail;go_ret2;exact ⟨B4.1,by rw [if_pos HW.1];exact ⟨v4,rfl,R4.1⟩⟩
theorem ta (l:List eW) (hL:l.length≤100000000):∀(d i k:Nat),i+d=l.length→d+1≤k→bq.l0 k l l (i:Int)=some true:=by
 intro d;induction d with
 | zero=>
  intro i k hi hk;obtain ⟨k,rfl⟩:∃n,k=n+1:=⟨k - 1,by omega⟩;rw [bq.l0,if_neg (by omega)]
 | succ d ih=>
  intro i k hi hk;obtain ⟨k,rfl⟩:∃n,k=n+1:=⟨k - 1,by omega⟩;have h1:(i:Int)<(l.length:Int):=by omega
  have h0:(0:Int)≤(i:Int):=by omega
  have hw:wrap64 ((i:Int)+1)=((i+1:Nat):Int):=IntWalk.wrap64_in _ (by omega);rw [bq.l0,if_pos h1,if_pos h0,if_pos h1,if_neg (by simp),hw];exact ih (i+1) k (by omega) (by omega)
theorem rX (l:List eW) (hL:l.length≤100000000) (k:Nat) (hk:l.length+1≤k):bq.f k l l=some true:=by
 unfold bq.f;rw [if_pos rfl];exact ta l hL l.length 0 k (by omega) hk
theorem BM (l:List Int):dk.f l l=some true:=by
 unfold dk.f;simp
theorem ur (l:List jx) (hL:l.length≤100000000):∀(d i k:Nat),i+d=l.length→d+1≤k→bj.l0 k l l (i:Int)=some true:=by
 intro d;induction d with
 | zero=>
  intro i k hi hk;obtain ⟨k,rfl⟩:∃n,k=n+1:=⟨k - 1,by omega⟩;rw [bj.l0,if_neg (by omega)]
 | succ d ih=>
  intro i k hi hk;obtain ⟨k,rfl⟩:∃n,k=n+1:=⟨k - 1,by omega⟩;have h1:(i:Int)<(l.length:Int):=by omega
  have h0:(0:Int)≤(i:Int):=by omega
  have hw:wrap64 ((i:Int)+1)=((i+1:Nat):Int):=IntWalk.wrap64_in _ (by omega);rw [bj.l0,if_pos h1,if_pos h0,if_pos h1,if_neg (by simp),hw];exact ih (i+1) k (by omega) (by omega)
theorem qS (l:List jx) (hL:l.length≤100000000) (k:Nat) (hk:l.length+1≤k):bj.f k l l=some true:=by
 unfold bj.f;rw [if_pos rfl];exact ur l hL l.length 0 k (by omega) hk
theorem uX (l:List (List Int)) (hL:l.length≤100000000):∀(d i k:Nat),i+d=l.length→d+1≤k→bw.l0 k l l (i:Int)=some true:=by
 intro d;induction d with
 | zero=>
  intro i k hi hk;obtain ⟨k,rfl⟩:∃n,k=n+1:=⟨k - 1,by omega⟩;rw [bw.l0,if_neg (by omega)]
 | succ d ih=>
  intro i k hi hk;obtain ⟨k,rfl⟩:∃n,k=n+1:=⟨k - 1,by omega⟩;have h1:(i:Int)<(l.length:Int):=by omega
  have h0:(0:Int)≤(i:Int):=by omega
  have hw:wrap64 ((i:Int)+1)=((i+1:Nat):Int):=IntWalk.wrap64_in _ (by omega);rw [bw.l0,if_pos h1,if_pos h0,if_pos h1,if_pos rfl,hw];exact ih (i+1) k (by omega) (by omega)
theorem tT (l:List (List Int)) (hL:l.length≤100000000) (k:Nat) (hk:l.length+1≤k):bw.f k l l=some true:=by
 unfold bw.f;rw [if_pos rfl];exact uX l hL l.length 0 k (by omega) hk
theorem wN (l:List jE) (hL:l.length≤100000000):∀(d i k:Nat),i+d=l.length→d+1≤k→bp.l0 k l l (i:Int)=some true:=by
 intro d;induction d with
 | zero=>
  intro i k hi hk;obtain ⟨k,rfl⟩:∃n,k=n+1:=⟨k - 1,by omega⟩;rw [bp.l0,if_neg (by omega)]
 | succ d ih=>
  intro i k hi hk;obtain ⟨k,rfl⟩:∃n,k=n+1:=⟨k - 1,by omega⟩;have h1:(i:Int)<(l.length:Int):=by omega
  have h0:(0:Int)≤(i:Int):=by omega
  have hw:wrap64 ((i:Int)+1)=((i+1:Nat):Int):=IntWalk.wrap64_in _ (by omega);rw [bp.l0,if_pos h1,if_pos h0,if_pos h1,if_pos rfl,if_pos rfl,hw];exact ih (i+1) k (by omega) (by omega)
theorem tB (l:List jE) (hL:l.length≤100000000) (k:Nat) (hk:l.length+1≤k):bp.f k l l=some true:=by
 unfold bp.f;rw [if_pos rfl];exact wN l hL l.length 0 k (by omega) hk
theorem aY {w w':World} {b:Nat} {o:Obj} (h:w.heap[b]? = some o) (hb:Below w.heap.size w w'):w'.heap[b]? = some o:=(hb.block b (ak h)).trans h
end Go.Proofs.YtpekmdpbfjdjkaaGreat.ref