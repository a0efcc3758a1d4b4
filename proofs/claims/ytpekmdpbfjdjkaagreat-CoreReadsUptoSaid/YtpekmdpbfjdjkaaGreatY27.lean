/- Part 27 of the proof that reading bytes answers as the document does. No condition. -/
import Derived.Test.YtpekmdpbfjdjkaaGreatY26
set_option maxHeartbeats 16000000
set_option maxRecDepth 100000
set_option linter.all false
namespace Go.Proofs.YtpekmdpbfjdjkaaGreat.ref
open Go Go.RowKit ag.ax ag.aV ag.aU aD fr iK cL plain fE
structure mF (m:Zm):Prop extends pK m where
 o0:0≤m.of_
 o1:m.of_≤255
 t0:0≤m.st
 t1:m.st≤255
theorem qo (a b:Int):(a == b)=true∨(a == b)=false:=by cases (a == b)<;>simp
theorem BP (a b:Int):decide (a≤b)=true∨decide (a≤b)=false:=by cases decide (a≤b)<;>simp
theorem Dv (a b:Int):decide (a<b)=true∨decide (a<b)=false:=by cases decide (a<b)<;>simp
theorem CF (m:Zm) (hm:pK m) (a x:Int) (hx0:0≤x) (hx1:x≤18446744073709551615) (fl:Bool) (z:Zs) (W:World):Calls Tryz.prog 191 #[.agg (aW m), .int .i64 3, .agg (bF a x 0 fl z.v)] W (mD W (fP 3 m x z)):=by
 have hu:=Tryz.underlying214;have e1:(bF a x 0 fl z.v)[1]? = some (.int .u64 x):=rfl;have K0:=aa (show Bk W.heap.size [] W (((W.alloc (.cells (aW m) 214)).alloc (.cells (bF a x 0 fl z.v) 308)).alloc (.cells #[.int .u8 0, .int .u64 0, .int .u64 0, .int .u64 0, .slice none 0 0, .slice none 0 0, .bool false, .int .u8 0, .int .u8 0, .int .u8 0, .int .u32 0, .int .u32 0, .int .u64 0, .int .u8 0, .slice none 0 0, .slice none 0 0, .slice none 0 0] 214)) [(W.heap.size+1+1,214,aW (zK 0)),(W.heap.size+1,308,bF a x 0 fl z.v),(W.heap.size,214,aW m)] from (((Bk.new (base:=W.heap.size) (ts:=[]) (Nat.le_refl W.heap.size)).cr rfl 214 (aW m)).cr (aX W _) 308 (bF a x 0 fl z.v)).cr (by rw [aX,aX]) 214 (aW (zK 0)));have hw:wrap64 m.k=m.k:=IntWalk.wrap64_in _ (by have:=hm.kk0;have:=hm.kk1;omega);by_cases g:m.k=6
 ·have gb:(m.k == 6)=true:=by rw [gw];exact g
  have hz:fP 3 m x z=({ m with hi:=x },true):=by simp only [fP,if_pos g]
  rw [hz];clear g hz;go_in;go_wp2_with (first|((with_reducible refine gS 23 22 rfl ?_);refine sC 3 (.int .u64 x) (aW { m with hi:=x }) K0.1.eS ?_;intro wz hW hG;have K1:=aa (show Bk W.heap.size [] W wz [(W.heap.size+1+1,214,aW (zK 0)),(W.heap.size+1,308,bF a x 0 fl z.v),(W.heap.size,214,(aW { m with hi:=x }))] from K0.1.set (l1:=[_,_]) hG.1 hW.1);have ck:wz.cell? ⟨W.heap.size,0,none⟩=some (.int .u8 m.k):=cell_of K1.1.eS 0;have cq:wz.cell? ⟨W.heap.size,2,none⟩=some (.int .u64 m.key):=cell_of K1.1.eS 2;have c1:wz.cell? ⟨W.heap.size+1,1,none⟩=some (.int .u64 x):=cell_of K1.1.fu 1)|((with_reducible refine az (N:=100) rfl ?_);refine lB K1.1.eS Tryz.underlying214 ?_)|((with_reducible refine gS 6 100 rfl ?_);refine sB (aW { m with hi:=x }) K1.1.cE ?_;intro wz hW hG;have KZ:=aa (K1.1.set (l1:=[]) hG.1 hW.1)));refine l9 KZ.1.cE hu ?_;exact ⟨rfl,KZ.1.bel⟩
 have gb:(m.k == 6)=false:=by rw [bi];exact g
 have hs:IntKind.u64.wrap (18446744073709551615 - m.key)=18446744073709551615 - m.key:=IntWalk.u64_in _ (by have:=hm.k0;have:=hm.k1;omega);by_cases g2:18446744073709551615 - m.key<x
 ·have g2b:decide (18446744073709551615 - m.key<x)=true:=decide_eq_true g2;have hz:fP 3 m x z=({ m with hi:=x },false):=by simp only [fP,if_neg g,if_pos g2]
  rw [hz];clear hz;go_in;go_wp2_with (first|((with_reducible refine gS 23 22 rfl ?_);refine sC 3 (.int .u64 x) (aW { m with hi:=x }) K0.1.eS ?_;intro wz hW hG;have K1:=aa (show Bk W.heap.size [] W wz [(W.heap.size+1+1,214,aW (zK 0)),(W.heap.size+1,308,bF a x 0 fl z.v),(W.heap.size,214,(aW { m with hi:=x }))] from K0.1.set (l1:=[_,_]) hG.1 hW.1);have ck:wz.cell? ⟨W.heap.size,0,none⟩=some (.int .u8 m.k):=cell_of K1.1.eS 0;have cq:wz.cell? ⟨W.heap.size,2,none⟩=some (.int .u64 m.key):=cell_of K1.1.eS 2;have c1:wz.cell? ⟨W.heap.size+1,1,none⟩=some (.int .u64 x):=cell_of K1.1.fu 1)|((with_reducible refine az (N:=34) rfl ?_);refine lB K1.1.eS Tryz.underlying214 ?_)|((with_reducible refine gS 6 34 rfl ?_);refine sB (aW { m with hi:=x }) K1.1.cE ?_;intro wz hW hG;have KZ:=aa (K1.1.set (l1:=[]) hG.1 hW.1)));refine l9 KZ.1.cE hu ?_;exact ⟨rfl,KZ.1.bel⟩
 have g2b:decide (18446744073709551615 - m.key<x)=false:=decide_eq_false g2;have hz:fP 3 m x z=({ m with hi:=m.key+x },true):=by simp only [fP,if_neg g,if_neg g2]
 rw [hz];have ha:IntKind.u64.wrap (m.key+x)=m.key+x:=IntWalk.u64_in _ (by have:=hm.k0;omega);clear hz;go_in;go_wp2_with (first|((with_reducible refine gS 23 22 rfl ?_);refine sC 3 (.int .u64 x) (aW { m with hi:=x }) K0.1.eS ?_;intro wz hW hG;have K1:=aa (show Bk W.heap.size [] W wz [(W.heap.size+1+1,214,aW (zK 0)),(W.heap.size+1,308,bF a x 0 fl z.v),(W.heap.size,214,(aW { m with hi:=x }))] from K0.1.set (l1:=[_,_]) hG.1 hW.1);have ck:wz.cell? ⟨W.heap.size,0,none⟩=some (.int .u8 m.k):=cell_of K1.1.eS 0;have cq:wz.cell? ⟨W.heap.size,2,none⟩=some (.int .u64 m.key):=cell_of K1.1.eS 2;have c1:wz.cell? ⟨W.heap.size+1,1,none⟩=some (.int .u64 x):=cell_of K1.1.fu 1)|((with_reducible refine gS 40 39 rfl ?_);refine sC 3 (.int .u64 (m.key+x)) (aW { m with hi:=m.key+x }) K1.1.eS ?_;intro wz hW hG;have K2:=aa (show Bk W.heap.size [] W wz [(W.heap.size+1+1,214,aW (zK 0)),(W.heap.size+1,308,bF a x 0 fl z.v),(W.heap.size,214,(aW { m with hi:=m.key+x }))] from K1.1.set (l1:=[_,_]) hG.1 hW.1))|((with_reducible refine az (N:=100) rfl ?_);refine lB K2.1.eS Tryz.underlying214 ?_)|((with_reducible refine gS 6 100 rfl ?_);refine sB (aW { m with hi:=m.key+x }) K2.1.cE ?_;intro wz hW hG;have KZ:=aa (K2.1.set (l1:=[]) hG.1 hW.1)));refine l9 KZ.1.cE hu ?_;exact ⟨rfl,KZ.1.bel⟩
theorem xl (m:Zm) (hm:mF m) (W:World):Calls Tryz.prog 196 #[.agg (aW m)] W fun e w'=>∃b,e = .returned (.bool b)∧Below W.heap.size W w':=by
 have e0:(aW m)[0]? = some (.int .u8 m.k):=rfl;have e7:(aW m)[7]? = some (.int .u8 m.of_):=rfl;have e8:(aW m)[8]? = some (.int .u8 m.st):=rfl;have hwk:wrap64 m.k=m.k:=IntWalk.wrap64_in _ (by have:=hm.kk0;have:=hm.kk1;omega);have hwo:wrap64 m.of_=m.of_:=IntWalk.wrap64_in _ (by have:=hm.o0;have:=hm.o1;omega);have hws:wrap64 m.st=m.st:=IntWalk.wrap64_in _ (by have:=hm.t0;have:=hm.t1;omega);clear hm;go_in;rcases qo m.k 9 with h|h
 ·rcases qo m.st 1 with q0|q0<;>rcases BP 4 m.st with q1|q1<;>rcases BP m.st 10 with q2|q2<;>(go_wp2_with fail;go_ret;exact ⟨_,rfl,ah (Below.refl _ _) _⟩)
 rcases qo m.of_ 1 with h1|h1
 ·rcases qo m.st 1 with q0|q0<;>rcases qo m.st 2 with q1|q1<;>(go_wp2_with fail;go_ret;exact ⟨_,rfl,ah (Below.refl _ _) _⟩)
 rcases qo m.of_ 3 with h3|h3
 ·rcases qo m.st 1 with q0|q0<;>rcases qo m.st 2 with q1|q1<;>(go_wp2_with fail;go_ret;exact ⟨_,rfl,ah (Below.refl _ _) _⟩)
 rcases qo m.of_ 2 with h2|h2
 ·rcases qo m.st 1 with q0|q0<;>rcases qo m.st 4 with q1|q1<;>(go_wp2_with fail;go_ret;exact ⟨_,rfl,ah (Below.refl _ _) _⟩)
 rcases qo m.of_ 4 with h4|h4
 ·rcases qo m.st 1 with q0|q0<;>rcases qo m.st 3 with q1|q1<;>rcases qo m.st 4 with q2|q2<;>(go_wp2_with fail;go_ret;exact ⟨_,rfl,ah (Below.refl _ _) _⟩)
 rcases qo m.st 1 with q0|q0<;>(go_wp2_with fail;go_ret;exact ⟨_,rfl,ah (Below.refl _ _) _⟩)
def qI (f:Nat) (m:Zm) (b:Bool):Prop:=match f with
 | 2=>b=true
 | 3=>b=decide (m.key≤m.hi)
 | 10=>b=decide (m.grant≤65535)
 | 11=>b=decide (m.bounds≤65535)
 | _=>True
theorem Bs (m:Zm) (hm:mF m) (W:World):Calls Tryz.prog 192 #[.agg (aW m), .int .i64 1] W fun e w'=>∃b,e = .returned (.bool b)∧qI 1 m b∧Below W.heap.size W w':=by
 have e0:(aW m)[0]? = some (.int .u8 m.k):=rfl;have e1:(aW m)[1]? = some (.int .u64 m.seq):=rfl;have hwk:wrap64 m.k=m.k:=IntWalk.wrap64_in _ (by have:=hm.kk0;have:=hm.kk1;omega);have hwo:wrap64 m.of_=m.of_:=IntWalk.wrap64_in _ (by have:=hm.o0;have:=hm.o1;omega);have hws:wrap64 m.st=m.st:=IntWalk.wrap64_in _ (by have:=hm.t0;have:=hm.t1;omega);clear hm;go_in;rcases Dv 0 m.seq with q0|q0<;>rcases qo m.k 11 with q1|q1<;>(go_wp2_with fail;go_ret;exact ⟨_,rfl,trivial,ah (Below.refl _ _) _⟩)
theorem Bj (m:Zm) (hm:mF m) (W:World):Calls Tryz.prog 192 #[.agg (aW m), .int .i64 2] W fun e w'=>∃b,e = .returned (.bool b)∧qI 2 m b∧Below W.heap.size W w':=by
 have hwk:wrap64 m.k=m.k:=IntWalk.wrap64_in _ (by have:=hm.kk0;have:=hm.kk1;omega);have hwo:wrap64 m.of_=m.of_:=IntWalk.wrap64_in _ (by have:=hm.o0;have:=hm.o1;omega);have hws:wrap64 m.st=m.st:=IntWalk.wrap64_in _ (by have:=hm.t0;have:=hm.t1;omega);clear hm;go_in;(go_wp2_with fail;go_ret;exact ⟨_,rfl,rfl,ah (Below.refl _ _) _⟩)
theorem At (m:Zm) (hm:mF m) (W:World):Calls Tryz.prog 192 #[.agg (aW m), .int .i64 3] W fun e w'=>∃b,e = .returned (.bool b)∧qI 3 m b∧Below W.heap.size W w':=by
 have e2:(aW m)[2]? = some (.int .u64 m.key):=rfl;have e3:(aW m)[3]? = some (.int .u64 m.hi):=rfl;have hwk:wrap64 m.k=m.k:=IntWalk.wrap64_in _ (by have:=hm.kk0;have:=hm.kk1;omega);have hwo:wrap64 m.of_=m.of_:=IntWalk.wrap64_in _ (by have:=hm.o0;have:=hm.o1;omega);have hws:wrap64 m.st=m.st:=IntWalk.wrap64_in _ (by have:=hm.t0;have:=hm.t1;omega);clear hm;go_in;(go_wp2_with fail;go_ret;exact ⟨_,rfl,rfl,ah (Below.refl _ _) _⟩)
theorem AV (m:Zm) (hm:mF m) (W:World):Calls Tryz.prog 192 #[.agg (aW m), .int .i64 4] W fun e w'=>∃b,e = .returned (.bool b)∧qI 4 m b∧Below W.heap.size W w':=by
 have e4:(aW m)[4]? = some (.slice m.s4.A m.s4.n m.s4.c):=rfl;have hwk:wrap64 m.k=m.k:=IntWalk.wrap64_in _ (by have:=hm.kk0;have:=hm.kk1;omega);have hwo:wrap64 m.of_=m.of_:=IntWalk.wrap64_in _ (by have:=hm.o0;have:=hm.o1;omega);have hws:wrap64 m.st=m.st:=IntWalk.wrap64_in _ (by have:=hm.t0;have:=hm.t1;omega);clear hm;go_in;(go_wp2_with fail;go_ret;exact ⟨_,rfl,trivial,ah (Below.refl _ _) _⟩)
theorem AG (m:Zm) (hm:mF m) (W:World):Calls Tryz.prog 192 #[.agg (aW m), .int .i64 6] W fun e w'=>∃b,e = .returned (.bool b)∧qI 6 m b∧Below W.heap.size W w':=by
 have e13:(aW m)[13]? = some (.int .u8 m.limit):=rfl;have hwk:wrap64 m.k=m.k:=IntWalk.wrap64_in _ (by have:=hm.kk0;have:=hm.kk1;omega);have hwo:wrap64 m.of_=m.of_:=IntWalk.wrap64_in _ (by have:=hm.o0;have:=hm.o1;omega);have hws:wrap64 m.st=m.st:=IntWalk.wrap64_in _ (by have:=hm.t0;have:=hm.t1;omega);clear hm;go_in;rcases Dv 0 m.limit with q0|q0<;>rcases BP m.limit 16 with q1|q1<;>(go_wp2_with fail;go_ret;exact ⟨_,rfl,trivial,ah (Below.refl _ _) _⟩)
theorem zG (m:Zm) (hm:mF m) (W:World):Calls Tryz.prog 192 #[.agg (aW m), .int .i64 7] W fun e w'=>∃b,e = .returned (.bool b)∧qI 7 m b∧Below W.heap.size W w':=by
 have e7:(aW m)[7]? = some (.int .u8 m.of_):=rfl;have hwk:wrap64 m.k=m.k:=IntWalk.wrap64_in _ (by have:=hm.kk0;have:=hm.kk1;omega);have hwo:wrap64 m.of_=m.of_:=IntWalk.wrap64_in _ (by have:=hm.o0;have:=hm.o1;omega);have hws:wrap64 m.st=m.st:=IntWalk.wrap64_in _ (by have:=hm.t0;have:=hm.t1;omega);clear hm;go_in;rcases BP 1 m.of_ with q0|q0<;>rcases BP m.of_ 5 with q1|q1<;>(go_wp2_with fail;go_ret;exact ⟨_,rfl,trivial,ah (Below.refl _ _) _⟩)
theorem AA (m:Zm) (hm:mF m) (W:World):Calls Tryz.prog 192 #[.agg (aW m), .int .i64 9] W fun e w'=>∃b,e = .returned (.bool b)∧qI 9 m b∧Below W.heap.size W w':=by
 have e9:(aW m)[9]? = some (.int .u8 m.host):=rfl;have hwk:wrap64 m.k=m.k:=IntWalk.wrap64_in _ (by have:=hm.kk0;have:=hm.kk1;omega);have hwo:wrap64 m.of_=m.of_:=IntWalk.wrap64_in _ (by have:=hm.o0;have:=hm.o1;omega);have hws:wrap64 m.st=m.st:=IntWalk.wrap64_in _ (by have:=hm.t0;have:=hm.t1;omega);clear hm;go_in;(go_wp2_with fail;go_ret;exact ⟨_,rfl,trivial,ah (Below.refl _ _) _⟩)
theorem xq (m:Zm) (hm:mF m) (W:World):Calls Tryz.prog 192 #[.agg (aW m), .int .i64 10] W fun e w'=>∃b,e = .returned (.bool b)∧qI 10 m b∧Below W.heap.size W w':=by
 have e10:(aW m)[10]? = some (.int .u32 m.grant):=rfl;have hwk:wrap64 m.k=m.k:=IntWalk.wrap64_in _ (by have:=hm.kk0;have:=hm.kk1;omega);have hwo:wrap64 m.of_=m.of_:=IntWalk.wrap64_in _ (by have:=hm.o0;have:=hm.o1;omega);have hws:wrap64 m.st=m.st:=IntWalk.wrap64_in _ (by have:=hm.t0;have:=hm.t1;omega);clear hm;go_in;(go_wp2_with fail;go_ret;exact ⟨_,rfl,rfl,ah (Below.refl _ _) _⟩)
theorem yc (m:Zm) (hm:mF m) (W:World):Calls Tryz.prog 192 #[.agg (aW m), .int .i64 11] W fun e w'=>∃b,e = .returned (.bool b)∧qI 11 m b∧Below W.heap.size W w':=by
 have e11:(aW m)[11]? = some (.int .u32 m.bounds):=rfl;have hwk:wrap64 m.k=m.k:=IntWalk.wrap64_in _ (by have:=hm.kk0;have:=hm.kk1;omega);have hwo:wrap64 m.of_=m.of_:=IntWalk.wrap64_in _ (by have:=hm.o0;have:=hm.o1;omega);have hws:wrap64 m.st=m.st:=IntWalk.wrap64_in _ (by have:=hm.t0;have:=hm.t1;omega);clear hm;go_in;(go_wp2_with fail;go_ret;exact ⟨_,rfl,rfl,ah (Below.refl _ _) _⟩)
theorem xT (m:Zm) (hm:mF m) (W:World):Calls Tryz.prog 192 #[.agg (aW m), .int .i64 12] W fun e w'=>∃b,e = .returned (.bool b)∧qI 12 m b∧Below W.heap.size W w':=by
 have hwk:wrap64 m.k=m.k:=IntWalk.wrap64_in _ (by have:=hm.kk0;have:=hm.kk1;omega);have hwo:wrap64 m.of_=m.of_:=IntWalk.wrap64_in _ (by have:=hm.o0;have:=hm.o1;omega);have hws:wrap64 m.st=m.st:=IntWalk.wrap64_in _ (by have:=hm.t0;have:=hm.t1;omega);clear hm;go_in;(go_wp2_with fail;go_ret;exact ⟨_,rfl,trivial,ah (Below.refl _ _) _⟩)
theorem yl (m:Zm) (hm:mF m) (W:World):Calls Tryz.prog 192 #[.agg (aW m), .int .i64 13] W fun e w'=>∃b,e = .returned (.bool b)∧qI 13 m b∧Below W.heap.size W w':=by
 have e16:(aW m)[16]? = some (.slice m.s16.A m.s16.n m.s16.c):=rfl;have hwk:wrap64 m.k=m.k:=IntWalk.wrap64_in _ (by have:=hm.kk0;have:=hm.kk1;omega);have hwo:wrap64 m.of_=m.of_:=IntWalk.wrap64_in _ (by have:=hm.o0;have:=hm.o1;omega);have hws:wrap64 m.st=m.st:=IntWalk.wrap64_in _ (by have:=hm.t0;have:=hm.t1;omega);clear hm;go_in;generalize m.s16.A=A at e16;generalize m.s16.n=n at e16;generalize m.s16.c=c at e16;by_cases q0:0<n
 ·by_cases q1:n≤3072
  ·go_wp2_with fail;go_ret;exact ⟨_,rfl,trivial,ah (Below.refl _ _) _⟩
  ·go_wp2_with fail;go_ret;exact ⟨_,rfl,trivial,ah (Below.refl _ _) _⟩
 ·obtain rfl:n=0:=by omega
  go_wp2_with fail;go_ret;exact ⟨_,rfl,trivial,ah (Below.refl _ _) _⟩
theorem AW (m:Zm) (hm:mF m) (W:World):Calls Tryz.prog 192 #[.agg (aW m), .int .i64 8] W fun e w'=>∃b,e = .returned (.bool b)∧qI 8 m b∧Below W.heap.size W w':=by
 have hwk:wrap64 m.k=m.k:=IntWalk.wrap64_in _ (by have:=hm.kk0;have:=hm.kk1;omega);have hwo:wrap64 m.of_=m.of_:=IntWalk.wrap64_in _ (by have:=hm.o0;have:=hm.o1;omega);have hws:wrap64 m.st=m.st:=IntWalk.wrap64_in _ (by have:=hm.t0;have:=hm.t1;omega);have HM:=aa hm;clear hm;go_in;have hu:=Tryz.underlying214;have K0:=aa ((Bk.new (base:=W.heap.size) (ts:=[]) (Nat.le_refl W.heap.size)).cr rfl 214 (aW m));go_wp2_with ((with_reducible refine az (N:=74) rfl ?_);refine lB K0.1.cE Tryz.underlying214 ?_);generalize World.alloc W _=w1 at K0 ⊢;refine (xl m HM.1 w1).mono ?_;rintro e w2 ⟨b,rfl,hB⟩;go_wp2_with fail;go_ret;exact ⟨_,rfl,trivial,K0.1.bel.trans (hB.mono K0.1.size)⟩
def Db (key hi:Int) (r:List Int):Option (Int × Int × List Int):=(jH r).bind fun q=>if q.1=true then (fJ 64 q.2).map fun b=>(key,hi,b.2) else some (key,hi,q.2)
theorem wE (m:Zm) (base br p:Nat) (l:List Int) (W:World) (h:Rg W base br l p 0) (hB:base≤W.heap.size) :
 Calls Tryz.prog 188 #[.pointer (some ⟨br,0,none⟩), .agg (aW m)] W (FR base br W l m (Db m.key m.hi (l.drop p))):=by
 have hu:=Tryz.underlying214;have K0:=aa (show Rk base W ((W.alloc (.cells (aW m) 214)).alloc (.cells #[.int .u8 0, .int .u64 0, .int .u64 0, .int .u64 0, .slice none 0 0, .slice none 0 0, .bool false, .int .u8 0, .int .u8 0, .int .u8 0, .int .u32 0, .int .u32 0, .int .u64 0, .int .u8 0, .slice none 0 0, .slice none 0 0, .slice none 0 0] 214)) [(W.heap.size+1,214,aW (zK 0)),(W.heap.size,214,aW m)] br l p 0 from ((Rk.new h hB).cr rfl 214 (aW m) (by decide) (by decide)).cr (aX W _) 214 (aW (zK 0)) (by decide) (by decide));have c2:=K0.1.rg.c2;clear h hB;generalize hO:Db m.key m.hi (l.drop p)=o;rw [Db] at hO;go_in;go_wp2_with fail;clear c2;generalize World.alloc (World.alloc W _) _=w1 at K0 ⊢;refine (AH K0.1.rg K0.1.bk.hb).mono ?_;intro e w2 hT;obtain ⟨a,x,f,z,q,er,rfl,hM,hB,hR,hv⟩:=hT.flat;have K2:=aa (K0.1.read hR hM hB);have V2:=aa hv;clear hT hM hB hR hv K0;rcases V2.1.flag with ⟨her,hv⟩|⟨rfl,hv⟩
 ·have gb:(er != 0)=true:=by rw [mq];exact her
  have HO2:=aa (show none=o by rw [←hO,hv];rfl);clear hv V2 hO;go_wp2_with (first|((with_reducible refine gS 8 15 rfl ?_);refine sB (bF a x 0 f z.v) (K2.1.push 308 dx (by decide) (by decide)).bk.cE ?_;intro wz hW hG;have K3:=aa (show Rk base W wz [(w2.heap.size,308,bF a x 0 f z.v),(W.heap.size+1,214,aW (zK 0)),(W.heap.size,214,aW m)] br l q er from (K2.1.push 308 dx (by decide) (by decide)).set (l1:=[]) hG.1 hW.1);have c3:=K3.1.rg.c3;have cf:wz.cell? ⟨w2.heap.size,3,none⟩=some (.bool f):=cell_of K3.1.bk.cE 3)|((with_reducible refine az (N:=21) rfl ?_);refine lB K3.1.bk.eS Tryz.underlying214 ?_)|((with_reducible refine gS 4 21 rfl ?_);refine sB (aW m) K3.1.bk.fu ?_;intro wz hW hG;have KZ:=aa (K3.1.set (l1:=[_]) hG.1 hW.1)));refine gK KZ.1.bk.fu hu ?_;exact FR.no KZ.1 rfl HO2.1 (by decide)
 rw [hv,aj] at hO;clear hv V2;cases f with
 | false=>
  have HO:=aa (show some (m.key,m.hi,l.drop q)=o from hO);clear hO;go_wp2_with (first|((with_reducible refine gS 8 15 rfl ?_);refine sB (bF a x 0 false z.v) (K2.1.push 308 dx (by decide) (by decide)).bk.cE ?_;intro wz hW hG;have K3:=aa (show Rk base W wz [(w2.heap.size,308,bF a x 0 false z.v),(W.heap.size+1,214,aW (zK 0)),(W.heap.size,214,aW m)] br l q 0 from (K2.1.push 308 dx (by decide) (by decide)).set (l1:=[]) hG.1 hW.1);have c3:=K3.1.rg.c3;have cf:wz.cell? ⟨w2.heap.size,3,none⟩=some (.bool false):=cell_of K3.1.bk.cE 3)|((with_reducible refine gS 25 24 rfl ?_);refine sC 6 (.bool false) (aW { m with has:=false }) K3.1.bk.eS ?_;intro w4 hW hG;have K4:=aa (show Rk base W w4 [(w2.heap.size,308,bF a x 0 false z.v),(W.heap.size+1,214,aW (zK 0)),(W.heap.size,214,(aW { m with has:=false }))] br l q 0 from K3.1.set (l1:=[_,_]) hG.1 hW.1);have cf:w4.cell? ⟨w2.heap.size,3,none⟩=some (.bool false):=cell_of K4.1.bk.cE 3;have c2:=K4.1.rg.c2)|((with_reducible refine az (N:=44) rfl ?_);refine lB K4.1.bk.eS Tryz.underlying214 ?_)|((with_reducible refine gS 4 44 rfl ?_);refine sB (aW { m with has:=false }) K4.1.bk.fu ?_;intro wz hW hG;have KZ:=aa (K4.1.set (l1:=[_]) hG.1 hW.1)));refine gK KZ.1.bk.fu hu ?_;exact FR.ok KZ.1 rfl HO.1
 | true=>
  have HO:=aa (show ((fJ 64 (l.drop q)).map fun b=>(m.key,m.hi,b.2))=o from hO);clear hO;go_wp2_with (first|((with_reducible refine gS 8 15 rfl ?_);refine sB (bF a x 0 true z.v) (K2.1.push 308 dx (by decide) (by decide)).bk.cE ?_;intro wz hW hG;have K3:=aa (show Rk base W wz [(w2.heap.size,308,bF a x 0 true z.v),(W.heap.size+1,214,aW (zK 0)),(W.heap.size,214,aW m)] br l q 0 from (K2.1.push 308 dx (by decide) (by decide)).set (l1:=[]) hG.1 hW.1);have c3:=K3.1.rg.c3;have cf:wz.cell? ⟨w2.heap.size,3,none⟩=some (.bool true):=cell_of K3.1.bk.cE 3)|((with_reducible refine gS 25 24 rfl ?_);refine sC 6 (.bool true) (aW { m with has:=true }) K3.1.bk.eS ?_;intro w4 hW hG;have K4:=aa (show Rk base W w4 [(w2.heap.size,308,bF a x 0 true z.v),(W.heap.size+1,214,aW (zK 0)),(W.heap.size,214,(aW { m with has:=true }))] br l q 0 from K3.1.set (l1:=[_,_]) hG.1 hW.1);have cf:w4.cell? ⟨w2.heap.size,3,none⟩=some (.bool true):=cell_of K4.1.bk.cE 3;have c2:=K4.1.rg.c2));clear c3 cf c2;refine (nI 64 K4.1.rg K4.1.bk.hb (by decide)).mono ?_;intro e w5 hT;obtain ⟨a1,x1,f1,z1,q1,e1,rfl,hM,hB,hR,hv⟩:=hT.flat;have K5:=aa (K4.1.read hR hM hB);have V5:=aa hv;clear hT hM hB hR hv K4 K3 K2;rcases V5.1.dI with ⟨her,hv⟩|⟨b,rfl,hv, -⟩
  ·have gb:(e1 != 0)=true:=by rw [mq];exact her
   have HO2:=aa (show none=o by rw [←HO.1,hv];rfl);clear hv V5 HO;go_wp2_with (first|((with_reducible refine gS 9 33 rfl ?_);refine sB (bF a1 x1 0 f1 z1.v) (K5.1.push 308 dx (by decide) (by decide)).bk.cE ?_;intro w6 hW hG;have K6:=aa (show Rk base W w6 [(w5.heap.size,308,bF a1 x1 0 f1 z1.v),(w2.heap.size,308,bF a x 0 true z.v),(W.heap.size+1,214,aW (zK 0)),(W.heap.size,214,(aW { m with has:=true }))] br l q1 e1 from (K5.1.push 308 dx (by decide) (by decide)).set (l1:=[]) hG.1 hW.1);have c3:=K6.1.rg.c3;have cv:w6.cell? ⟨w5.heap.size,4,none⟩=some z1.v:=cell_of K6.1.bk.cE 4)|((with_reducible refine az (N:=39) rfl ?_);refine lB K6.1.bk.jJ Tryz.underlying214 ?_)|((with_reducible refine gS 4 39 rfl ?_);refine sB (aW { m with has:=true }) K6.1.bk.eS ?_;intro wz hW hG;have KZ:=aa (K6.1.set (l1:=[_,_]) hG.1 hW.1)));refine gK KZ.1.bk.eS hu ?_;exact FR.no KZ.1 rfl HO2.1 (by decide)
  have HO2:=aa (show some (m.key,m.hi,l.drop q1)=o by rw [←HO.1,hv];rfl);clear hv V5 HO;go_wp2_with (first|((with_reducible refine gS 9 33 rfl ?_);refine sB (bF a1 x1 0 f1 z1.v) (K5.1.push 308 dx (by decide) (by decide)).bk.cE ?_;intro w6 hW hG;have K6:=aa (show Rk base W w6 [(w5.heap.size,308,bF a1 x1 0 f1 z1.v),(w2.heap.size,308,bF a x 0 true z.v),(W.heap.size+1,214,aW (zK 0)),(W.heap.size,214,(aW { m with has:=true }))] br l q1 0 from (K5.1.push 308 dx (by decide) (by decide)).set (l1:=[]) hG.1 hW.1);have c3:=K6.1.rg.c3;have cv:w6.cell? ⟨w5.heap.size,4,none⟩=some z1.v:=cell_of K6.1.bk.cE 4)|((with_reducible refine gS 43 42 rfl ?_);refine sC 5 z1.v (aW { m with has:=true,s5:=z1 }) K6.1.bk.jJ ?_;intro wz hW hG;have K7:=aa (show Rk base W wz [(w5.heap.size,308,bF a1 x1 0 f1 z1.v),(w2.heap.size,308,bF a x 0 true z.v),(W.heap.size+1,214,aW (zK 0)),(W.heap.size,214,(aW { m with has:=true,s5:=z1 }))] br l q1 0 from K6.1.set (l1:=[_,_,_]) hG.1 hW.1))|((with_reducible refine az (N:=44) rfl ?_);refine lB K7.1.bk.jJ Tryz.underlying214 ?_)|((with_reducible refine gS 4 44 rfl ?_);refine sB (aW { m with has:=true,s5:=z1 }) K7.1.bk.eS ?_;intro wz hW hG;have KZ:=aa (K7.1.set (l1:=[_,_]) hG.1 hW.1)));refine gK KZ.1.bk.eS hu ?_;exact FR.ok KZ.1 rfl HO2.1
theorem xF (q:Nat × Nat) (hq:q∈[(5,0),(4,0),(1,0),(9,64),(9,3072)]) {base br p:Nat} {l:List Int} {W:World} (h:Rg W base br l p 0) (hB:base≤W.heap.size):Calls Tryz.prog 190 #[.pointer (some ⟨br,0,none⟩), .int .i64 q.1, .int .i64 q.2] W (uc base br W l (dm q.1 q.2 (l.drop p))):=by
 simp only [List.mem_cons,ga,Ad] at hq;rcases hq with rfl|rfl|rfl|rfl|rfl
 ·exact nO h hB
 ·exact Bw h hB
 ·exact rN h hB
 ·exact nI 64 h hB (by decide)
 ·exact nI 3072 h hB (by decide)
theorem yq (f:Nat) (k:Int):lp f k∈[(5,0),(4,0),(1,0),(9,64),(9,3072)]:=by
 unfold lp;split
 ·simp
 split
 ·simp
 split
 ·split<;>simp
 split
 ·simp
 split<;>simp
theorem pc {r:List Int} {y:Int × List Int} (h:df r=some y) (hb:aq r):0≤y.1∧y.1≤18446744073709551615:=by
 have hs:=Au (r,0) hb;rw [df,pR] at h;split at h
 ·injection h with h;rw [←h];exact ⟨hs.1,by have:=hs.2.1;omega⟩
 ·cases h
theorem yu (q:Nat × Nat) (hq:q∈[(5,0),(4,0),(1,0),(9,64),(9,3072)]) {r r':List Int} {t:Th} (h:dm q.1 q.2 r=some (t,r')) (hb:aq r):0≤t.n∧t.n≤18446744073709551615:=by
 simp only [List.mem_cons,ga,Ad] at hq;rcases hq with rfl|rfl|rfl|rfl|rfl
 ·rw [show dm 5 0 r=(df r).map fun q=>((⟨5,q.1,false,[]⟩:Th),q.2) from rfl] at h;obtain ⟨y,hy,h⟩:=Option.map_eq_some_iff.1 h;injection h with h1 h2;rw [←h1];exact pc hy hb
 ·rw [show dm 4 0 r=(dQ 8 r).map fun q=>((⟨4,q.1,false,[]⟩:Th),q.2) from rfl] at h;obtain ⟨y,hy,h⟩:=Option.map_eq_some_iff.1 h;injection h with h1 h2;have:=nT (x:=y.1) (rest:=y.2) hy hb;rw [←h1];exact ⟨this.1,by have:=this.2;simp only;omega⟩
 ·rw [show dm 1 0 r=(dQ 1 r).map fun q=>((⟨1,q.1,false,[]⟩:Th),q.2) from rfl] at h;obtain ⟨y,hy,h⟩:=Option.map_eq_some_iff.1 h;injection h with h1 h2;have:=nT (x:=y.1) (rest:=y.2) hy hb;rw [←h1];exact ⟨this.1,by have:=this.2;simp only;omega⟩
 ·rw [show dm 9 64 r=(fJ 64 r).map fun q=>((⟨9,0,false,q.1⟩:Th),q.2) from rfl] at h;obtain ⟨y,hy,h⟩:=Option.map_eq_some_iff.1 h;injection h with h1 h2;rw [←h1];exact ⟨by simp,by simp⟩
 ·rw [show dm 9 3072 r=(fJ 3072 r).map fun q=>((⟨9,0,false,q.1⟩:Th),q.2) from rfl] at h;obtain ⟨y,hy,h⟩:=Option.map_eq_some_iff.1 h;injection h with h1 h2;rw [←h1];exact ⟨by simp,by simp⟩
def ki (f:Nat) (key hi:Int) (r:List Int):Option (Int × Int × List Int):=
 if f=2 then (dQ 8 r).map fun q=>(q.1,hi,q.2)
 else if f=3 then (df r).bind fun q=>if 18446744073709551615 - key<q.1 then none else some (key,key+q.1,q.2)
 else if f=14 then Gj 12 key hi r else if f=15 then Gk key hi r
 else (df r).bind fun q=>if 65535<q.1 then none else some (key,hi,q.2)
theorem xk (f:Nat) (hf:f∈[2,3,10,11]) {key hi:Int} {r:List Int} (h:dm (lp f 12).1 (lp f 12).2 r=none):ki f key hi r=none:=by
 simp only [List.mem_cons,ga,Ad] at hf;rcases hf with rfl|rfl|rfl|rfl
 ·have h':(dQ 8 r).map (fun q=>((⟨4,q.1,false,[]⟩:Th),q.2))=none:=h;rw [show ki 2 key hi r=(dQ 8 r).map fun q=>(q.1,hi,q.2) from rfl,Option.map_eq_none_iff.1 h'];rfl
 all_goals
  have h':(df r).map (fun q=>((⟨5,q.1,false,[]⟩:Th),q.2))=none:=h
  first
   | (rw [show ki 3 key hi r=(df r).bind fun q=>if 18446744073709551615 - key<q.1 then none else some (key,key+q.1,q.2) from rfl,Option.map_eq_none_iff.1 h'];rfl)
   | (rw [show ki _ key hi r=(df r).bind fun q=>if 65535<q.1 then none else some (key,hi,q.2) from rfl,Option.map_eq_none_iff.1 h'];rfl)
theorem Cv {x:Int} (h0:0≤x) (h1:x≤65535):IntKind.u32.wrap x=x:=gf _ (by omega)
theorem xh (f:Nat) (hf:f∈[2,3,10,11]) {m:Zm} (hm:pK m) (hk:m.k=12) {r r':List Int} {t:Th} {z:Zs} {b:Bool} (h:dm (lp f 12).1 (lp f 12).2 r=some (t,r')) (h0:0≤t.n) (hr:qI f (fP f m t.n z).1 b) :
 ki f m.key m.hi r=if ((fP f m t.n z).2&&b)=true then some ((fP f m t.n z).1.key,(fP f m t.n z).1.hi,r') else none:=by
 have hk6:¬m.k=6:=by omega
 simp only [List.mem_cons,ga,Ad] at hf;rcases hf with rfl|rfl|rfl|rfl
 ·have h':(dQ 8 r).map (fun q=>((⟨4,q.1,false,[]⟩:Th),q.2))=some (t,r'):=h;obtain ⟨y,hy,e⟩:=Option.map_eq_some_iff.1 h';injection e with e1 e2;simp only [qI] at hr;subst hr;rw [show ki 2 m.key m.hi r=(dQ 8 r).map fun q=>(q.1,m.hi,q.2) from rfl,hy,←e1,←e2];rfl
 ·have h':(df r).map (fun q=>((⟨5,q.1,false,[]⟩:Th),q.2))=some (t,r'):=h;obtain ⟨y,hy,e⟩:=Option.map_eq_some_iff.1 h';injection e with e1 e2;have e3:y.1=t.n:=by rw [←e1]
  simp only [qI] at hr;rw [show ki 3 m.key m.hi r=(df r).bind fun q=>if 18446744073709551615 - m.key<q.1 then none else some (m.key,m.key+q.1,q.2) from rfl,hy,aj,e3,e2];by_cases g:18446744073709551615 - m.key<t.n
  ·simp only [fP,if_neg hk6,if_pos g,ol,Bool.false_eq_true,if_false]
  ·simp only [fP,if_neg hk6,if_neg g] at hr;simp only [fP,if_neg hk6,if_neg g,hr,iJ,decide_eq_true_eq];rw [if_pos (by omega)]
 all_goals
  have h':(df r).map (fun q=>((⟨5,q.1,false,[]⟩:Th),q.2))=some (t,r'):=h
  obtain ⟨y,hy,e⟩:=Option.map_eq_some_iff.1 h'
  injection e with e1 e2
  have e3:y.1=t.n:=by rw [←e1]
  simp only [qI,fP] at hr
  rw [show ki _ m.key m.hi r=(df r).bind fun q=>if 65535<q.1 then none else some (m.key,m.hi,q.2) from rfl,hy,aj,e3,e2]
  simp only [fP,hr]
  by_cases g:65535<t.n
  ·rw [if_pos g,if_neg (by simp;intro h;omega)]
  ·rw [if_neg g,if_pos (by rw [Cv h0 (by omega)];simp;omega)]
theorem Dc (x:Int):0≤IntKind.u8.wrap x∧IntKind.u8.wrap x≤255:=by
 simp [IntKind.wrap,IntKind.signed,IntKind.bits];omega
theorem yy (f:Nat) (hf:f∈[1,2,3,4,6,7,8,9,10,11,12,13]) {m:Zm} (hm:mF m) {x:Int} {z:Zs} (h0:0≤x) (h1:x≤18446744073709551615):mF (fP f m x z).1∧(fP f m x z).1.k=m.k:=by
 have a0:=hm.k0;have u:=Dc x;simp only [List.mem_cons,ga,Ad] at hf;rcases hf with rfl|rfl|rfl|rfl|rfl|rfl|rfl|rfl|rfl|rfl|rfl|rfl
 ·exact ⟨⟨⟨hm.kk0,hm.kk1,hm.k0,hm.k1,hm.h0,hm.h1⟩,hm.o0,hm.o1,hm.t0,hm.t1⟩,rfl⟩
 ·exact ⟨⟨⟨hm.kk0,hm.kk1,h0,h1,hm.h0,hm.h1⟩,hm.o0,hm.o1,hm.t0,hm.t1⟩,rfl⟩
 ·simp only [fP];split
  ·exact ⟨⟨⟨hm.kk0,hm.kk1,hm.k0,hm.k1,h0,h1⟩,hm.o0,hm.o1,hm.t0,hm.t1⟩,rfl⟩
  ·split
   ·exact ⟨⟨⟨hm.kk0,hm.kk1,hm.k0,hm.k1,h0,h1⟩,hm.o0,hm.o1,hm.t0,hm.t1⟩,rfl⟩
   ·exact ⟨⟨⟨hm.kk0,hm.kk1,hm.k0,hm.k1,by simp only;omega,by simp only;omega⟩,hm.o0,hm.o1,hm.t0,hm.t1⟩,rfl⟩
 ·exact ⟨⟨⟨hm.kk0,hm.kk1,hm.k0,hm.k1,hm.h0,hm.h1⟩,hm.o0,hm.o1,hm.t0,hm.t1⟩,rfl⟩
 ·exact ⟨⟨⟨hm.kk0,hm.kk1,hm.k0,hm.k1,hm.h0,hm.h1⟩,hm.o0,hm.o1,hm.t0,hm.t1⟩,rfl⟩
 ·exact ⟨⟨⟨hm.kk0,hm.kk1,hm.k0,hm.k1,hm.h0,hm.h1⟩,u.1,u.2,hm.t0,hm.t1⟩,rfl⟩
 ·exact ⟨⟨⟨hm.kk0,hm.kk1,hm.k0,hm.k1,hm.h0,hm.h1⟩,hm.o0,hm.o1,u.1,u.2⟩,rfl⟩
 all_goals exact ⟨⟨⟨hm.kk0,hm.kk1,hm.k0,hm.k1,hm.h0,hm.h1⟩,hm.o0,hm.o1,hm.t0,hm.t1⟩,rfl⟩
theorem qZ (f:Nat) (hf:f∈[1,2,3,4,6,7,8,9,10,11,12,13]) (m:Zm) (hm:pK m) (a x:Int) (hx0:0≤x) (hx1:x≤18446744073709551615) (fl:Bool) (z:Zs) (W:World):Calls Tryz.prog 191 #[.agg (aW m), .int .i64 f, .agg (bF a x 0 fl z.v)] W (mD W (fP f m x z)):=by
 simp only [List.mem_cons,ga,Ad] at hf;rcases hf with rfl|rfl|rfl|rfl|rfl|rfl|rfl|rfl|rfl|rfl|rfl|rfl
 ·exact CM m hm a x hx0 hx1 fl z W
 ·exact CP m hm a x hx0 hx1 fl z W
 ·exact CF m hm a x hx0 hx1 fl z W
 ·exact CC m hm a x hx0 hx1 fl z W
 ·exact CH m hm a x hx0 hx1 fl z W
 ·exact CD m hm a x hx0 hx1 fl z W
 ·exact Ch m hm a x hx0 hx1 fl z W
 ·exact BU m hm a x hx0 hx1 fl z W
 ·exact Ga m hm a x hx0 hx1 fl z W
 ·exact Ag m hm a x hx0 hx1 fl z W
 ·exact z8 m hm a x hx0 hx1 fl z W
 ·exact Bg m hm a x hx0 hx1 fl z W
theorem yR (f:Nat) (hf:f∈[1,2,3,4,6,7,8,9,10,11,12,13]) (m:Zm) (hm:mF m) (W:World):Calls Tryz.prog 192 #[.agg (aW m), .int .i64 f] W fun e w'=>∃b,e = .returned (.bool b)∧qI f m b∧Below W.heap.size W w':=by
 simp only [List.mem_cons,ga,Ad] at hf;rcases hf with rfl|rfl|rfl|rfl|rfl|rfl|rfl|rfl|rfl|rfl|rfl|rfl
 ·exact Bs m hm W
 ·exact Bj m hm W
 ·exact At m hm W
 ·exact AV m hm W
 ·exact AG m hm W
 ·exact zG m hm W
 ·exact AW m hm W
 ·exact AA m hm W
 ·exact xq m hm W
 ·exact yc m hm W
 ·exact xT m hm W
 ·exact yl m hm W
theorem Sm.zo {m m':Zm} (h:(m'.k,m'.key,m'.hi,m'.of_,m'.st)=(m.k,m.key,m.hi,m.of_,m.st)) (hz:mF m):mF m'∧m'.k=m.k:=by
 simp only [cC] at h;obtain ⟨h1,h2,h3,h4,h5⟩:=h;exact ⟨⟨⟨h1▸hz.kk0,h1▸hz.kk1,h2▸hz.k0,h2▸hz.k1,h3▸hz.h0,h3▸hz.h1⟩,h4▸hz.o0,h4▸hz.o1,h5▸hz.t0,h5▸hz.t1⟩,h1⟩
def nK (w':World) (base br:Nat) (l:List Int) (m':Zm) (er:Int) (o:Option (Int × Int × List Int)):Prop:=
 match o with
 | none=>er≠0
 | some (key,hi,r)=>er=0∧m'.key=key∧m'.hi=hi∧∃q,Rg w' base br l q 0∧r=l.drop q
theorem nK.mv {ts:List Nat} {w w':World} {base br:Nat} {l:List Int} {m':Zm} {er:Int} {o:Option (Int × Int × List Int)} (h:nK w base br l m' er o) (hm:Mv ts w w') (h1:275∉ts) (h2:5∉ts):nK w' base br l m' er o:=by
 cases o with
 | none=>exact h
 | some y=>obtain ⟨a,b,c,q,d,e⟩:=h;exact ⟨a,b,c,q,d.move hm h1 h2,e⟩
def nG (base br:Nat) (W:World) (l:List Int) (m:Zm) (f:Nat) (r:List Int) (e:Ending) (w':World):Prop:=Mv TG W w'∧Below base W w'∧∃(m':Zm) (at_ er:Int) (o:Option (Int × Int × List Int)),e = .returned (.tuple #[.agg (aW m'), .int .i64 at_, .int .i64 er])∧m'.k=m.k∧mF m'∧nK w' base br l m' er o∧(m.k=12→f∈[2,3,10,11,14,15]→o=ki f m.key m.hi r)
theorem ql (m:Zm) (hm:mF m) (base br p:Nat) (l:List Int) (W:World) (h:Rg W base br l p 0) (hB:base≤W.heap.size):Calls Tryz.prog 175 #[.pointer (some ⟨br,0,none⟩), .agg (aW m), .int .i64 14] W (nG base br W l m 14 (l.drop p)):=by
 have hu:=Tryz.underlying214;have HM:=aa hm;have K0:=aa (show Rk base W ((W.alloc (.cells (aW m) 214)).alloc (.cells #[.int .u8 0, .int .u64 0, .int .u64 0, .int .u64 0, .slice none 0 0, .slice none 0 0, .bool false, .int .u8 0, .int .u8 0, .int .u8 0, .int .u32 0, .int .u32 0, .int .u64 0, .int .u8 0, .slice none 0 0, .slice none 0 0, .slice none 0 0] 214)) [(W.heap.size+1,214,aW (zK 0)),(W.heap.size,214,aW m)] br l p 0 from ((Rk.new h hB).cr rfl 214 (aW m) (by decide) (by decide)).cr (aX W _) 214 (aW (zK 0)) (by decide) (by decide));clear h hB hm;go_in;go_wp2_with ((with_reducible refine az (N:=20) rfl ?_);refine lB K0.1.bk.fu Tryz.underlying214 ?_);generalize World.alloc (World.alloc W _) _=w1 at K0 ⊢;refine (rB m base br p l _ w1 K0.1.rg K0.1.bk.hb HM.1.topK rfl).mono ?_;rintro e w2 ⟨hM,hB,m',at_,er,rfl,hk,hrest⟩;have K2:=aa (K0.1.bk.move hM (fun _ h=>h) hB (fun x hx=>by simpa [TG] using (K0.1.nt x hx).1));have FL:=aa (show nK w2 base br l m' er (Gj m.k m.key m.hi (l.drop p)) from hrest);have HK:=aa hk;clear hM hB hk hrest K0;go_wp2_with ((with_reducible refine gS 6 22 rfl ?_);refine sB (aW m') K2.1.cE ?_;intro wz hW hG;have KZ:=aa (K2.1.set (l1:=[]) hG.1 hW.1);have MZ:=aa (Mv.bG (ts:=[214]) hG.1 K2.1.cE (by simp)));refine gK KZ.1.cE hu ?_;exact ⟨KZ.1.mv,KZ.1.bel,m',at_,er,_,rfl,(Sm.zo HK.1 HM.1).2,(Sm.zo HK.1 HM.1).1,FL.1.mv MZ.1 (by decide) (by decide),fun hk _=>by rw [hk];rfl⟩
theorem qu (m:Zm) (hm:mF m) (base br p:Nat) (l:List Int) (W:World) (h:Rg W base br l p 0) (hB:base≤W.heap.size):Calls Tryz.prog 175 #[.pointer (some ⟨br,0,none⟩), .agg (aW m), .int .i64 15] W (nG base br W l m 15 (l.drop p)):=by
 have hu:=Tryz.underlying214;have HM:=aa hm;have K0:=aa (show Rk base W ((W.alloc (.cells (aW m) 214)).alloc (.cells #[.int .u8 0, .int .u64 0, .int .u64 0, .int .u64 0, .slice none 0 0, .slice none 0 0, .bool false, .int .u8 0, .int .u8 0, .int .u8 0, .int .u32 0, .int .u32 0, .int .u64 0, .int .u8 0, .slice none 0 0, .slice none 0 0, .slice none 0 0] 214)) [(W.heap.size+1,214,aW (zK 0)),(W.heap.size,214,aW m)] br l p 0 from ((Rk.new h hB).cr rfl 214 (aW m) (by decide) (by decide)).cr (aX W _) 214 (aW (zK 0)) (by decide) (by decide));clear h hB hm;go_in;go_wp2_with ((with_reducible refine az (N:=28) rfl ?_);refine lB K0.1.bk.fu Tryz.underlying214 ?_);generalize World.alloc (World.alloc W _) _=w1 at K0 ⊢;refine (Es m base br p l _ w1 K0.1.rg K0.1.bk.hb rfl).mono ?_;rintro e w2 ⟨hM,hB,m',at_,er,rfl,hk,hrest⟩;have K2:=aa (K0.1.bk.move hM (fun _ h=>h) hB (fun x hx=>by simpa [TG] using (K0.1.nt x hx).1));have FL:=aa (show nK w2 base br l m' er (Gk m.key m.hi (l.drop p)) from hrest);have HK:=aa hk;clear hM hB hk hrest K0;go_wp2_with ((with_reducible refine gS 6 30 rfl ?_);refine sB (aW m') K2.1.cE ?_;intro wz hW hG;have KZ:=aa (K2.1.set (l1:=[]) hG.1 hW.1);have MZ:=aa (Mv.bG (ts:=[214]) hG.1 K2.1.cE (by simp)));refine gK KZ.1.cE hu ?_;exact ⟨KZ.1.mv,KZ.1.bel,m',at_,er,_,rfl,(Sm.zo HK.1 HM.1).2,(Sm.zo HK.1 HM.1).1,FL.1.mv MZ.1 (by decide) (by decide),fun hk _=>by rfl⟩
theorem rq (m:Zm) (hm:mF m) (base br p:Nat) (l:List Int) (W:World) (h:Rg W base br l p 0) (hB:base≤W.heap.size):Calls Tryz.prog 175 #[.pointer (some ⟨br,0,none⟩), .agg (aW m), .int .i64 5] W (nG base br W l m 5 (l.drop p)):=by
 have hu:=Tryz.underlying214;have HM:=aa hm;have K0:=aa (show Rk base W ((W.alloc (.cells (aW m) 214)).alloc (.cells #[.int .u8 0, .int .u64 0, .int .u64 0, .int .u64 0, .slice none 0 0, .slice none 0 0, .bool false, .int .u8 0, .int .u8 0, .int .u8 0, .int .u32 0, .int .u32 0, .int .u64 0, .int .u8 0, .slice none 0 0, .slice none 0 0, .slice none 0 0] 214)) [(W.heap.size+1,214,aW (zK 0)),(W.heap.size,214,aW m)] br l p 0 from ((Rk.new h hB).cr rfl 214 (aW m) (by decide) (by decide)).cr (aX W _) 214 (aW (zK 0)) (by decide) (by decide));clear h hB hm;go_in;go_wp2_with ((with_reducible refine az (N:=36) rfl ?_);refine lB K0.1.bk.fu Tryz.underlying214 ?_);generalize World.alloc (World.alloc W _) _=w1 at K0 ⊢;refine (wE m base br p l w1 K0.1.rg K0.1.bk.hb).mono ?_;rintro e w2 ⟨hM,hB,m',at_,er,rfl,hk,hrest⟩;have K2:=aa (K0.1.bk.move hM (fun _ h=>h) hB (fun x hx=>by simpa [TG] using (K0.1.nt x hx).1));have FL:=aa (show nK w2 base br l m' er (Db m.key m.hi (l.drop p)) from hrest);have HK:=aa hk;clear hM hB hk hrest K0;go_wp2_with ((with_reducible refine gS 6 38 rfl ?_);refine sB (aW m') K2.1.cE ?_;intro wz hW hG;have KZ:=aa (K2.1.set (l1:=[]) hG.1 hW.1);have MZ:=aa (Mv.bG (ts:=[214]) hG.1 K2.1.cE (by simp)));refine gK KZ.1.cE hu ?_;exact ⟨KZ.1.mv,KZ.1.bel,m',at_,er,_,rfl,(Sm.zo HK.1 HM.1).2,(Sm.zo HK.1 HM.1).1,FL.1.mv MZ.1 (by decide) (by decide),fun _ h5=>absurd h5 (by decide)⟩
theorem rf (f:Nat) (hf:f∈[1,2,3,4,6,7,8,9,10,11,12,13]) (m:Zm) (hm:mF m) (base br p:Nat) (l:List Int) (W:World) (h:Rg W base br l p 0) (hB:base≤W.heap.size):Calls Tryz.prog 175 #[.pointer (some ⟨br,0,none⟩), .agg (aW m), .int .i64 f] W (nG base br W l m f (l.drop p)):=by
 have hu:=Tryz.underlying214;have HM:=aa hm;have HF:=aa hf;have K0:=aa (show Rk base W ((W.alloc (.cells (aW m) 214)).alloc (.cells #[.int .u8 0, .int .u64 0, .int .u64 0, .int .u64 0, .slice none 0 0, .slice none 0 0, .bool false, .int .u8 0, .int .u8 0, .int .u8 0, .int .u32 0, .int .u32 0, .int .u64 0, .int .u8 0, .slice none 0 0, .slice none 0 0, .slice none 0 0] 214)) [(W.heap.size+1,214,aW (zK 0)),(W.heap.size,214,aW m)] br l p 0 from ((Rk.new h hB).cr rfl 214 (aW m) (by decide) (by decide)).cr (aX W _) 214 (aW (zK 0)) (by decide) (by decide));have c2:=K0.1.rg.c2;have g14:((f:Int) == 14)=false:=by simp only [List.mem_cons,ga,Ad] at hf;rw [bi];omega
 have g15:((f:Int) == 15)=false:=by simp only [List.mem_cons,ga,Ad] at hf;rw [bi];omega
 have g5:((f:Int) == 5)=false:=by simp only [List.mem_cons,ga,Ad] at hf;rw [bi];omega
 have HS:=aa (show f∈[2,3,10,11,14,15]→f∈[2,3,10,11] by
  intro h2;simp only [List.mem_cons,ga,Ad] at hf h2 ⊢;omega)
 clear h hB hm hf;go_in;go_wp2_with ((with_reducible refine az (N:=46) rfl ?_);refine lB K0.1.bk.fu Tryz.underlying214 ?_);clear c2 g14 g15 g5;generalize World.alloc (World.alloc W _) _=w1 at K0 ⊢;refine (Dq m HM.1.topK w1 f HF.1).mono ?_;rintro e w2 ⟨rfl,hB⟩;have K2:=aa (K0.1.grow hB);have HQ:=aa (yq f m.k);have HQ2:=aa (show m.k=12→lp f m.k=lp f 12 from fun h=>by rw [h]);generalize lp f m.k=qh at HQ HQ2 ⊢;clear hB K0;go_wp2_with fail;refine (xF qh HQ.1 K2.1.rg K2.1.bk.hb).mono ?_;intro e w3 hT;obtain ⟨a,x,fl,z,q,er,rfl,hM,hB,hR,hv⟩:=hT.flat;have K3:=aa (K2.1.read hR hM hB);have HBY:=aa (show aq (l.drop p) from fun c hc=>K3.1.rg.Af c (bh hc));clear hT hM hB hR K2;cases hpt:dm qh.1 qh.2 (l.drop p) with
 | none=>
  rw [hpt] at hv;have her:er≠0:=hv;have gb:(er != 0)=true:=by rw [mq];exact her
  have HP:=aa hpt;clear hv hpt;go_wp2_with (first|((with_reducible refine gS 12 54 rfl ?_);refine sB (bF a x 0 fl z.v) (K3.1.push 308 dx (by decide) (by decide)).bk.cE ?_;intro w4 hW hG;have K4:=aa (show Rk base W w4 [(w3.heap.size,308,bF a x 0 fl z.v),(W.heap.size+1,214,aW (zK 0)),(W.heap.size,214,aW m)] br l q er from (K3.1.push 308 dx (by decide) (by decide)).set (l1:=[]) hG.1 hW.1);have c3:=K4.1.rg.c3)|((with_reducible refine az (N:=60) rfl ?_);refine lB K4.1.bk.eS Tryz.underlying214 ?_)|((with_reducible refine gS 6 60 rfl ?_);refine sB (aW m) K4.1.bk.fu ?_;intro wz hW hG;have KZ:=aa (K4.1.set (l1:=[_]) hG.1 hW.1)));refine gK KZ.1.bk.fu hu ?_;exact ⟨KZ.1.bk.mv,KZ.1.bk.bel,m,_,33,none,rfl,rfl,HM.1,(by decide:(33:Int)≠0),fun hk h12=>(xk f (HS.1 h12) (by rw [←HQ2.1 hk];exact HP.1)).symm⟩
 | some y=>
  obtain ⟨th,r'⟩:=y;rw [hpt] at hv;obtain ⟨rfl,hx, -,hr', -⟩:=hv;have hxb:=yu qh HQ.1 hpt HBY.1;rw [←hx] at hxb;have HP:=aa hpt;have HX:=aa hx;have HR:=aa hr';obtain ⟨hx0,hx1⟩:=hxb;have HX0:=aa hx0;clear hpt hx hr';go_wp2_with (first|((with_reducible refine gS 12 54 rfl ?_);refine sB (bF a x 0 fl z.v) (K3.1.push 308 dx (by decide) (by decide)).bk.cE ?_;intro w4 hW hG;have K4:=aa (show Rk base W w4 [(w3.heap.size,308,bF a x 0 fl z.v),(W.heap.size+1,214,aW (zK 0)),(W.heap.size,214,aW m)] br l q 0 from (K3.1.push 308 dx (by decide) (by decide)).set (l1:=[]) hG.1 hW.1);have c3:=K4.1.rg.c3)|((with_reducible refine az (N:=63) rfl ?_);refine lB K4.1.bk.eS Tryz.underlying214 ?_)|((with_reducible refine az (N:=65) rfl ?_);refine lB K4.1.bk.cE Tryz.underlying308 ?_));clear c3;refine (qZ f HF.1 m HM.1.topK a x hx0 hx1 fl z w4).mono ?_;rintro e w5 ⟨rfl,hB5⟩;have K5:=aa (K4.1.grow hB5);obtain ⟨hz1,hz2⟩:=yy f HF.1 HM.1 hx0 hx1 (z:=z);have Z1:=aa hz1;have Z2:=aa hz2;have HPZ:=aa (rfl:fP f m x z=fP f m x z);generalize hpz:fP f m x z=pz at Z1 Z2 HPZ ⊢;obtain ⟨m1,ok⟩:=pz;have HPE:=aa hpz;clear hz1 hz2 hpz hB5 hx0 hx1 K4 K3;go_wp2_with (first|((with_reducible refine gS 13 67 rfl ?_);refine sB (aW m1) (K5.1.push 214 (aW (zK 0)) (by decide) (by decide)).bk.cE ?_;intro w6 hW hG;have K6:=aa (show Rk base W w6 [(w5.heap.size,214,aW m1),(w3.heap.size,308,bF a x 0 fl z.v),(W.heap.size+1,214,aW (zK 0)),(W.heap.size,214,aW m)] br l q 0 from (K5.1.push 214 (aW (zK 0)) (by decide) (by decide)).set (l1:=[]) hG.1 hW.1))|((with_reducible refine az (N:=69) rfl ?_);refine lB K6.1.bk.cE Tryz.underlying214 ?_));refine (yR f HF.1 m1 Z1.1 w6).mono ?_;rintro e w7 ⟨b,rfl,hru,hB7⟩;have K7:=aa (K6.1.grow hB7);have RU:=aa hru;clear hru hB7 K6 K5;have SP:=aa (fun (hk:m.k=12) (h12:f∈[2,3,10,11,14,15])=>(show ki f m.key m.hi (l.drop p)=if (ok&&b)=true then some (m1.key,m1.hi,r') else none from by
   have h:=xh f (HS.1 h12) HM.1.topK hk (z:=z) (b:=b) (show dm (lp f 12).1 (lp f 12).2 (l.drop p)=some (th,r') by rw [←HQ2.1 hk];exact HP.1) (HX.1▸HX0.1) (by rw [←HX.1,HPE.1];exact RU.1);rw [←HX.1,HPE.1] at h;exact h))
  by_cases hob:(ok&&b)=true
  ·obtain ⟨rfl,rfl⟩:=Bool.and_eq_true_iff.1 hob;clear hob;go_wp2_with (first|((with_reducible refine az (N:=80) rfl ?_);refine lB K7.1.bk.cE Tryz.underlying214 ?_)|((with_reducible refine gS 6 80 rfl ?_);refine sB (aW m1) K7.1.bk.eS ?_;intro wz hW hG;have KZ:=aa (K7.1.set (l1:=[_,_]) hG.1 hW.1)));refine gK KZ.1.bk.eS hu ?_;exact ⟨KZ.1.bk.mv,KZ.1.bk.bel,m1,0,0,some (m1.key,m1.hi,r'),rfl,Z2.1,Z1.1,⟨rfl,rfl,rfl,q,KZ.1.rg,HR.1⟩,fun hk h12=>by rw [SP.1 hk h12];rfl⟩
  ·have SP2:=aa (fun (hk:m.k=12) (h12:f∈[2,3,10,11,14,15])=>(show none=ki f m.key m.hi (l.drop p) by rw [SP.1 hk h12,if_neg hob]));clear SP;cases ok with
   | false=>
    clear hob;go_wp2_with (first|((with_reducible refine az (N:=78) rfl ?_);refine lB K7.1.bk.jJ Tryz.underlying214 ?_)|((with_reducible refine gS 6 78 rfl ?_);refine sB (aW m) K7.1.bk.eS ?_;intro wz hW hG;have KZ:=aa (K7.1.set (l1:=[_,_]) hG.1 hW.1)));refine gK KZ.1.bk.eS hu ?_;exact ⟨KZ.1.bk.mv,KZ.1.bk.bel,m,_,35,none,rfl,rfl,HM.1,(by decide:(35:Int)≠0),SP2.1⟩
   | true=>
    have hbf:b=false:=by simpa using hob
    subst hbf;clear hob;go_wp2_with (first|((with_reducible refine az (N:=78) rfl ?_);refine lB K7.1.bk.jJ Tryz.underlying214 ?_)|((with_reducible refine gS 6 78 rfl ?_);refine sB (aW m) K7.1.bk.eS ?_;intro wz hW hG;have KZ:=aa (K7.1.set (l1:=[_,_]) hG.1 hW.1)));refine gK KZ.1.bk.eS hu ?_;exact ⟨KZ.1.bk.mv,KZ.1.bk.bel,m,_,35,none,rfl,rfl,HM.1,(by decide:(35:Int)≠0),SP2.1⟩
theorem nV (f:Nat) (hf:f∈[1,2,3,4,5,6,7,8,9,10,11,12,13,14,15]) (m:Zm) (hm:mF m) (base br p:Nat) (l:List Int) (W:World) (h:Rg W base br l p 0) (hB:base≤W.heap.size):Calls Tryz.prog 175 #[.pointer (some ⟨br,0,none⟩), .agg (aW m), .int .i64 f] W (nG base br W l m f (l.drop p)):=by
 by_cases h1:f=14
 ·subst h1;exact ql m hm base br p l W h hB
 by_cases h2:f=15
 ·subst h2;exact qu m hm base br p l W h hB
 by_cases h3:f=5
 ·subst h3;exact rq m hm base br p l W h hB
 exact rf f (by simp only [List.mem_cons,ga,Ad] at hf ⊢;omega) m hm base br p l W h hB
def jy (k of_ st:Int):List Nat:=
 if k=1∨k=3 then [1,2] else if k=2 then [1,2,4] else if k=4 then [1,2,5,4] else if k=5 then [1,2,3,6]
 else if k=6 then (if of_=1∧st=1 then [1,7,8,4] else if of_=5 then [1,7,8,3,14] else [1,7,8])
 else if k=7 then [1,2,3,9] else if k=8 then [1,2,3,9,10,11] else if k=9 then [1,8] else if k=10 then [1,13] else if k=11 then [1,12] else [2,3,10,11,14,15]
def nU (ls:List Nat):Array Value:=(ls.map fun (f:Nat)=>(Value.int .i64 (f:Int))).toArray
def qx (W:World) (ls:List Nat) (e:Ending) (w':World):Prop:=∃g,e = .returned (.slice (some ⟨g,0,none⟩) ls.length ls.length)∧w'.heap[g]? = some (.cells (nU ls) 3 (0,0))∧Below W.heap.size W w'∧W.heap.size≤g
theorem qx.end_ {W:World} {o:Obj} {ls:List Nat}:qx W ls (.returned (.slice (some ⟨W.heap.size+1,0,none⟩) ls.length ls.length)) ((W.alloc o).alloc (.cells (nU ls) 3)):=
 ⟨_,rfl,vr W _ _ _,ah (ah (Below.refl _ _) _) _,Nat.le_succ _⟩
theorem CO (m:Zm) (hm:mF m) (h1:1≤m.k) (h12:m.k≤12) (W:World):Calls Tryz.prog 174 #[.agg (aW m)] W (qx W (jy m.k m.of_ m.st)):=by
 have e0:(aW m)[0]? = some (.int .u8 m.k):=rfl;have e7:(aW m)[7]? = some (.int .u8 m.of_):=rfl;have e8:(aW m)[8]? = some (.int .u8 m.st):=rfl;have hwo:wrap64 m.of_=m.of_:=IntWalk.wrap64_in _ (by have:=hm.o0;have:=hm.o1;omega);have hws:wrap64 m.st=m.st:=IntWalk.wrap64_in _ (by have:=hm.t0;have:=hm.t1;omega);have hk:m.k=1∨m.k=2∨m.k=3∨m.k=4∨m.k=5∨m.k=7∨m.k=8∨m.k=9∨m.k=10∨m.k=11∨m.k=12∨m.k=6:=by omega
 clear hm h1 h12;rcases hk with h|h|h|h|h|h|h|h|h|h|h|h;rotate_right 1
 ·rw [h] at e0 ⊢;generalize m.of_=x at e7 hwo ⊢;generalize m.st=y at e8 hws ⊢;by_cases a:x=1
  ·subst a;by_cases b:y=1
   ·subst b;go_in;go_wp2_with fail;go_ret;exact qx.end_ (ls:=[1,7,8,4])
   ·have bb:(y == 1)=false:=by rw [bi];exact b
    rw [show jy 6 1 y=[1,7,8] by simp [jy,b]];clear b;go_in;go_wp2_with fail;go_ret;exact qx.end_ (ls:=[1,7,8])
  ·by_cases b:x=5
   ·subst b;rw [show jy 6 5 y=[1,7,8,3,14] by simp [jy]];go_in;go_wp2_with fail;go_ret;exact qx.end_ (ls:=[1,7,8,3,14])
   ·have ab:(x == 1)=false:=by rw [bi];exact a
    have bb:(x == 5)=false:=by rw [bi];exact b
    rw [show jy 6 x y=[1,7,8] by simp [jy,a,b]];clear a b;go_in;go_wp2_with fail;go_ret;exact qx.end_ (ls:=[1,7,8])
 all_goals
  rw [h] at e0 ⊢
  clear h hwo hws e7 e8
  go_in
  go_wp2_with fail
  go_ret
  first
   | exact qx.end_ (ls:=[1,2])
   | exact qx.end_ (ls:=[1,2,4])
   | exact qx.end_ (ls:=[1,2,5,4])
   | exact qx.end_ (ls:=[1,2,3,6])
   | exact qx.end_ (ls:=[1,2,3,9])
   | exact qx.end_ (ls:=[1,2,3,9,10,11])
   | exact qx.end_ (ls:=[1,8])
   | exact qx.end_ (ls:=[1,13])
   | exact qx.end_ (ls:=[1,12])
   | exact qx.end_ (ls:=[2,3,10,11,14,15])
theorem yN (x:Nat) (hx:x<4294967296):bD.f 6 (x:Int) 4=some (be 4 x):=by
 have q:∀y:Nat,y<18446744073709551616→IntKind.u64.wrap (Int.tdiv (y:Int) 256)=((y / 256:Nat):Int):=fun y hy=>by
  rw [show Int.tdiv (y:Int) 256=((y / 256:Nat):Int) from rfl];exact n9 _ (by omega)
 have t:∀y:Nat,Int.tmod (y:Int) 256 % 256=((y % 256:Nat):Int):=fun y=>by
  rw [show Int.tmod (y:Int) 256=((y % 256:Nat):Int) from rfl];omega
 have w3:wrap64 (4 - 1)=3:=(IntWalk.wrap64_in (4 - 1) (by omega)).trans rfl;have w2:wrap64 (3 - 1)=2:=(IntWalk.wrap64_in (3 - 1) (by omega)).trans rfl;have w1:wrap64 (2 - 1)=1:=(IntWalk.wrap64_in (2 - 1) (by omega)).trans rfl;have w0:wrap64 (1 - 1)=0:=(IntWalk.wrap64_in (1 - 1) (by omega)).trans rfl;have wm:wrap64 (0 - 1) = -1:=(IntWalk.wrap64_in (0 - 1) (by omega)).trans rfl;have st:∀(k:Nat) (y:Int) (l:List Int) (i:Int),0≤i→i<(l.length:Int)→bD.l0 (k+1) y l i=bD.l0 k (IntKind.u64.wrap (Int.tdiv y 256)) (l.set i.toNat (Int.tmod y 256 % 256)) (wrap64 (i - 1)):=fun k y l i h0 h1=>by
  rw [bD.l0,if_pos h0,if_pos h0,if_pos h1]
 have sn:∀(k:Nat) (y:Int) (l:List Int) (i:Int),i<0→bD.l0 (k+1) y l i=some l:=fun k y l i h0=>by
  rw [bD.l0,if_neg (by omega)]
 rw [bD.f,if_pos (by decide),if_pos (by decide),w3];rw [st 5 _ _ 3 (by decide) (by decide),q x (by omega),t,w2];rw [st 4 _ _ 2 (by decide) (by simp),q _ (by omega),t,w1];rw [st 3 _ _ 1 (by decide) (by simp),q _ (by omega),t,w0];rw [st 2 _ _ 0 (by decide) (by simp),q _ (by omega),t,wm];rw [sn 1 _ _ (-1) (by decide)];simp [be,Nat.div_div_eq_div_mul]
theorem yC (x:Nat) (hx:x<4294967296) (W:World):Calls Tryz.prog 193 #[.agg (bF 3 x 0 false (.slice none 0 0))] W (zE W (be 4 x)):=by
 have e0:(bF 3 x 0 false (.slice none 0 0))[0]? = some (.int .i64 3):=rfl;have e1:(bF 3 x 0 false (.slice none 0 0))[1]? = some (.int .u64 x):=rfl;go_in;go_wp2_with fail;have B0:=aa (ah (Below.refl _ W) (.cells (bF 3 x 0 false (.slice none 0 0)) 308));generalize World.alloc W _=w1 at B0 ⊢;refine (bD.calls 6 x 4 _ w1 (yN x hx)).mono ?_;rintro e w2 ⟨v,rfl,hR,hB⟩;go_wp2_with fail;go_ret;exact ⟨v,rfl,Kd.cI hR B0.1.size,B0.1.trans (hB.mono B0.1.size)⟩
theorem BV (x:Nat) (hx:x<4294967296) (W:World):Calls Tryz.prog 183 #[.int .u64 x, .int .i64 3] W (zE W (be 4 x)):=by
 go_in;go_wp2_with fail;refine (yC x hx W).mono ?_;rintro e w2 ⟨v,rfl,hR,hB⟩;go_wp2_with fail;go_ret;exact ⟨v,rfl,hR,hB⟩
theorem xQ (l0 l1:List Int) (h0:l0.length≤100000000) (h1:l1.length≤100000000):fM.f l0 l1=some (l0++l1):=by
 rw [fM.f,if_pos (by simp;omega),aj,List.nil_append,if_pos (by omega)]
theorem wH (A:Option Addr) (c:Nat) (l:List Int) (W:World) (hl:Kd.C (Kd.int .u8) W A l.length l) (hc:l.length≤c) (hL:l.length≤1000000) (hb:aq l):Calls Tryz.prog 172 #[.slice A l.length c] W (zE W (l++be 4 (eH l))):=by
 have HC:=aa hl;have hs:eH l<4294967296:=by unfold eH;omega
 have hcr:=uY l hb (by omega) (8*l.length+66) (Nat.le_refl _);have HLl:=aa hL;generalize eH l=s at hs hcr ⊢;go_in;go_wp2_with fail;refine (eD.calls _ A c l _ W hl hc hcr).mono ?_;rintro e w1 ⟨rfl,hd⟩;have B1:=aa hd.below;have hw:IntKind.u64.wrap (s:Int)=(s:Int):=n9 s (by omega);have HS:=aa hs;clear hd hcr hl hs hL;go_wp2_with fail;refine (BV s HS.1 w1).mono ?_;rintro e w2 ⟨v,rfl,hR,hB⟩;obtain ⟨A2,c2,rfl⟩:=Kd.aG hR;have B2:=aa (B1.1.trans (hB.mono B1.1.size));have C2:=aa (Kd.bI hR);have LB4:=aa (ia 4 s);clear hR hB hw;go_wp2_with fail;refine (fM.calls A c l A2 c2 (be 4 s) _ w2 (Kd.aN HC.1 B2.1) hc C2.1.2.2 C2.1.2.1 (xQ l _ (by have:=HLl.1;omega) (by rw [LB4.1];decide))).mono ?_;rintro e w3 ⟨v,rfl,hR,hB⟩;go_wp2_with fail;go_ret;exact ⟨v,rfl,Kd.cI hR B2.1.size,B2.1.trans (hB.mono B2.1.size)⟩
theorem zp {base br p:Nat} {l:List Int} {e:Int} {W:World} (h:Rg W base br l p e):Calls Tryz.prog 176 #[.pointer (some ⟨br,0,none⟩)] W fun r w'=>r = .returned (.int .i64 ((l.length - p:Nat):Int))∧Below W.heap.size W w':=by
 obtain ⟨v,hb,hr⟩:=h.dI;obtain ⟨A,c,rfl⟩:=Kd.aG hr;have c1:W.cell? ⟨br,1,none⟩=some (.slice A l.length c):=cell_of hb 1;have c2:W.cell? ⟨br,2,none⟩=some (.int .i64 p):=cell_of hb 2;have hL:=h.hL;have hp:=h.hp;have hw:IntKind.i64.wrap ((l.length:Int) - p)=((l.length - p:Nat):Int):=by rw [aA _ (by omega)];omega
 have hw2:wrap64 ((l.length:Int) - p)=((l.length - p:Nat):Int):=by rw [IntWalk.wrap64_in _ (by omega)];omega
 generalize l.length - p=d at hw hw2 ⊢;clear h hb hr hp;go_in;go_wp2_with fail;go_quiet (fail);go_wp2_with fail;go_ret;exact ⟨by first|rfl|rw [hw]|rw [hw2],ai (Below.refl _ _) _⟩
theorem nD (l:List Int):(strOfNums l).toList=l.map fun n=>UInt8.ofNat n.toNat:=by
 unfold strOfNums;first
  | exact ByteArray.toList_mk _
  | exact Go.ByteArray.toList_mk _
  | simp
theorem yG (a b:List Int) (ha:aq a) (hb:aq b):dk.f a b=some (decide (a=b)):=by
 have inj:∀(a b:List Int),aq a→aq b→(a.map fun n=>UInt8.ofNat n.toNat)=(b.map fun n=>UInt8.ofNat n.toNat)→a=b:=by
  intro a;induction a with
  | nil=>intro b _ _ h;cases b with
   | nil=>rfl
   | cons y b=>cases h
  | cons x a ih=>
   intro b ha hb h;cases b with
   | nil=>cases h
   | cons y b=>
    simp only [List.map_cons,List.cons.injEq] at h;have hx:=ha x List.mem_cons_self;have hy:=hb y List.mem_cons_self;have e:=congrArg UInt8.toNat h.1;rw [UInt8.toNat_ofNat',UInt8.toNat_ofNat'] at e;rw [show x=y by omega,ih b (fun c hc=>ha c (List.mem_cons_of_mem _ hc)) (fun c hc=>hb c (List.mem_cons_of_mem _ hc)) h.2]
 rw [dk.f,nD,nD];congr 1;by_cases h:a=b
 ·rw [h];simp
 ·rw [decide_eq_false h,bi];exact fun e=>h (inj a b ha hb e)
end Go.Proofs.YtpekmdpbfjdjkaaGreat.ref