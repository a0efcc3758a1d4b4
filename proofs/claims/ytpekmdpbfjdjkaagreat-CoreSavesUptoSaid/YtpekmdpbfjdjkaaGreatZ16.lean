/- Part 16 of the proof that a state's bytes are the document's. No condition. -/
import Derived.Test.YtpekmdpbfjdjkaaGreatZ15
set_option maxHeartbeats 16000000
set_option maxRecDepth 100000
set_option linter.all false
namespace Go.Proofs.YtpekmdpbfjdjkaaGreat.ref
open Go Go.RowKit ag.ax ag.aV ag.aU aD fr iK cL plain fE dO
theorem bt {W w w':World} {g:Nat} (h:Below W.heap.size W w) (hG:w.grownBy w' (some g)) (hg:W.heap.size≤g):Below W.heap.size W w':=
 h.trans ⟨hG.os,hG.tape,hG.output,hG.size,fun k hk=>by
  rcases dg k w.heap.size with hlt|hge
  ·exact hG.block k hlt (fun he=>by injection he with he;omega)
  ·exact absurd hk (by have:=h.size;omega)⟩
theorem zi (A:Option Addr) (c:Nat) (l:List Int) (W:World) (hl:Kd.C (Kd.int .u8) W A l.length l) (hc:l.length≤c) :
 Calls Tryz.prog 138 #[.slice A l.length c] W fun e w'=>e = .returned (.bool (!qO l.length))∧∃n,w'=W.drewN n:=
 (gV.calls A c l _ W hl hc (by
  unfold gV.f qO;by_cases h:(l.length:Int)=0
  ·rw [if_pos h,decide_eq_false (show ¬(1:Int)≤(l.length:Int) by omega)];rfl
  ·rw [if_neg h,decide_eq_true (show (1:Int)≤(l.length:Int) by omega),iJ,←decide_not];congr 1;exact decide_eq_decide.2 (by omega))).mono fun e w' h=>⟨h.1,h.2.1⟩
def AS (x:gX):Bool:=if x.f0<x.f1 then false else if IntKind.u64.wrap (x.f0 - x.f1)≠(x.f2.length:Int) then false else if 16<(x.f2.length:Int) then false else if mS x.f0 x.f1 x.f3=true then false else if kI x.f2=true then false else rE x.f4 16 none x.f5
def kE (l:List jE) (i:Nat):Option Int:=if i=0 then none else some (dG l ((i - 1:Nat):Int)).f0
theorem zv (b:Nat) (self hosts:Int) (v:Value) (x:gX) (A2 A5:Option Addr) (c2 c5:Nat) (W:World) (hb:W.heap[b]? = some (.cells #[.bool true, .int .i64 self, .int .i64 hosts, .int .i64 16, .int .i64 16,v] 192 (0,0)))
 (h2:Kd.C (Kd.slice 5 (Kd.int .u8)) W A2 x.f2.length x.f2) (l2:x.f2.length≤c2) (h5:Kd.C jC W A5 x.f5.length x.f5) (l5:x.f5.length≤c5) (hx:qQ x) :
 Calls Tryz.prog 109 #[.pointer (some ⟨b,0,none⟩), .agg (ew x A2 A5 c2 c5)] W (rV W (AS x)):=by
 have hu68:=Tryz.underlying68;have hu99:=Tryz.underlying99;have HB:=aa hb;have H2:=aa h2;have H5:=aa h5;have HX:=aa hx;have hL:=hx.l2;have hL5:=hx.l5;have LB:=aa (ak hb);generalize hO:AS x=o;unfold AS at hO;have HO:=aa hO;have NO:=aa (show ∀W',false=o→Below W.heap.size W W'→rV W o (.returned (.bool false)) W' from fun W' e h=>by subst e;exact ⟨rfl,h⟩);clear hb h2 h5 hx hO;have hwl:IntKind.u64.wrap (x.f2.length:Int)=(x.f2.length:Int):=IntWalk.u64_in _ (by omega);unfold ew;go_in;go_wp2_with fail;have BX:=aa (aJ W (.cells #[.int .u64 x.f0, .int .u64 x.f1, .slice A2 x.f2.length c2, .int .u64 x.f3, .int .u64 x.f4, .slice A5 x.f5.length c5] 68));have B1:=aa (ah (Below.refl _ W) (.cells #[.int .u64 x.f0, .int .u64 x.f1, .slice A2 x.f2.length c2, .int .u64 x.f3, .int .u64 x.f4, .slice A5 x.f5.length c5] 68));generalize World.alloc W _=W1 at BX B1 ⊢;have NB:=aa (show b≠W.heap.size by have:=LB.1;omega);generalize W.heap.size=bb at BX NB ⊢;have HB1:=aa ((B1.1.block b LB.1).trans HB.1);have k3:W1.cell? ⟨b,3,none⟩=some (.int .i64 16):=cell_of HB1.1 3;have e0:W1.cell? ⟨bb,0,none⟩=some (.int .u64 x.f0):=cell_of BX.1 0;have e1:W1.cell? ⟨bb,1,none⟩=some (.int .u64 x.f1):=cell_of BX.1 1;have e2:W1.cell? ⟨bb,2,none⟩=some (.slice A2 x.f2.length c2):=cell_of BX.1 2;have e3:W1.cell? ⟨bb,3,none⟩=some (.int .u64 x.f3):=cell_of BX.1 3;by_cases g1:x.f0<x.f1
 ·have g1b:decide (x.f0<x.f1)=true:=decide_eq_true g1;have HO2:=aa (show false=o by rw [←HO.1,if_pos g1]);clear HO g1;go_quiet (fail);go_wp2_with fail;go_ret;exact NO.1 _ HO2.1 (ai B1.1 _)
 have g1b:decide (x.f0<x.f1)=false:=decide_eq_false g1;have G1:=aa g1;by_cases g2:IntKind.u64.wrap (x.f0 - x.f1)≠(x.f2.length:Int)
 ·have g2b:(IntKind.u64.wrap (x.f0 - x.f1) != (x.f2.length:Int))=true:=by simpa using g2
  have HO2:=aa (show false=o by rw [←HO.1,if_neg g1,if_pos g2]);clear HO g1 g2;go_quiet (fail);go_wp2_with fail;go_ret;exact NO.1 _ HO2.1 (ai B1.1 _)
 have g2b:(IntKind.u64.wrap (x.f0 - x.f1) != (x.f2.length:Int))=false:=by simpa using g2
 by_cases g3:16<(x.f2.length:Int)
 ·have g3b:decide (16<(x.f2.length:Int))=true:=decide_eq_true g3;have HO2:=aa (show false=o by rw [←HO.1,if_neg g1,if_neg g2,if_pos g3]);clear HO g1 g2 g3;go_quiet (fail);go_wp2_with fail;go_ret;exact NO.1 _ HO2.1 (ai B1.1 _)
 have g3b:decide (16<(x.f2.length:Int))=false:=decide_eq_false g3;have TM:=aa (fun (n:Nat)=>(bA.calls 65 x.f1 x.f3 x.f0 _ (W1.drewN n) (qR x.f1 x.f0 x.f3 HX.1.m1'.1 (by omega) HX.1.m0'.2 HX.1.m0 HX.1.m1)).mono fun e w' h=>And.intro h.1 h.2.1);cases g4:mS x.f0 x.f1 x.f3 with
 | true=>
  have HO2:=aa (show false=o by rw [←HO.1,if_neg g1,if_neg g2,if_neg g3,if_pos g4]);rw [g4] at TM;clear HO g1 g2 g3 g4;go_quiet ((go_at_call 137;with_reducible exact gj (TM.1 _)));go_wp2_with fail;go_ret;exact NO.1 _ HO2.1 (ai B1.1 _)
 | false=>
 have HO2:=aa (show (if kI x.f2=true then false else rE x.f4 16 none x.f5)=o by rw [←HO.1,if_neg g1,if_neg g2,if_neg g3,if_neg (show ¬mS x.f0 x.f1 x.f3=true by rw [g4];simp)]);rw [g4] at TM;clear HO g1 g2 g3 g4;go_quiet ((go_at_call 137;with_reducible exact gj (TM.1 _)));clear g1b g2b g3b hwl e0 e1 e2 e3 k3 TM;have BX1:=aa (show (W1.drewN nq).heap[bb]? = some (.cells #[.int .u64 x.f0, .int .u64 x.f1, .slice A2 x.f2.length c2, .int .u64 x.f3, .int .u64 x.f4, .slice A5 x.f5.length c5] 68 (0,0)) from BX.1);have HB2:=aa (show (W1.drewN nq).heap[b]? = some (.cells #[.bool true, .int .i64 self, .int .i64 hosts, .int .i64 16, .int .i64 16,v] 192 (0,0)) from HB1.1);have B2:=aa (ai B1.1 nq);generalize World.drewN W1 nq=w1 at BX1 HB2 B2 ⊢;clear BX HB1 B1;go_wp2_with fail;go_loopw [5] (fun v5 wr=>∃i:Nat,i≤x.f2.length∧v5 = .int .i64 i∧af ((if kI (x.f2.drop i)=true then false else rE x.f4 16 none x.f5)=o)∧af (Below w1.heap.size w1 wr)) (fun v _=>x.f2.length - (intOf v).toNat)
 case atStart=>exact ⟨0,aI _,rfl,HO2,⟨Below.refl _ _⟩⟩
 case round=>
  obtain ⟨i,hi,rfl,HU,HW⟩:=hrel;clear HO2;have HWW:=aa (B2.1.trans (HW.1.mono B2.1.size));have BX3:=aa ((HW.1.block bb (ak BX1.1)).trans BX1.1);have HB3:=aa ((HW.1.block b (ak HB2.1)).trans HB2.1);have e2:wr.cell? ⟨bb,2,none⟩=some (.slice A2 x.f2.length c2):=cell_of BX3.1 2;by_cases hlt:i<x.f2.length
  ·obtain ⟨ad,c1,e1,_,hK,hc0⟩:=Kd.fw (Kd.aN H2.1 HWW.1) [] (i:Int) (by omega) (by omega);obtain ⟨A1,cc,rfl,hcc,hC1⟩:=hK;have hx0:=hc0 0 _ rfl;subst e1;simp only [Int.toNat_natCast,show (Kd.slice 5 (Kd.int .u8)).sz=1 from rfl,Nat.mul_one,Nat.add_zero,List.getD_eq_getElem?_getD,List.getElem?_eq_getElem hlt,Option.getD_some] at hx0 hcc hC1;have U:=HU.1;rw [ap hlt,kI,List.any_cons] at U;generalize x.f2[i]=y at hx0 U hcc hC1;have U2:=aa U;have LG:=aa (zi A1 cc y wr hC1 hcc);clear HU U hC1 hc0 hcc;go_wp2_with fail;refine LG.1.mono ?_;rintro r w2 ⟨rfl,nq,rfl⟩;clear LG;cases hz:qO y.length with
   | true=>
    have U3:=aa (show (if kI (x.f2.drop (i+1))=true then false else rE x.f4 16 none x.f5)=o by have U:=U2.1;rw [hz] at U;exact U);clear U2 hz;go_wp2_with fail;go_roundw
    case rel=>exact ⟨i+1,by omega,by go_num,U3,⟨ai HW.1 _⟩⟩
    case measure=>
     show x.f2.length - ((i:Int)+1).toNat<x.f2.length - (i:Int).toNat;omega
   | false=>
    have U3:=aa (show false=o by have U:=U2.1;rw [hz] at U;exact U);clear U2 hz;go_wp2_with fail;go_ret;exact NO.1 _ U3.1 (ai HWW.1 _)
  have HO5:=aa (show rE x.f4 16 (kE x.f5 0) (x.f5.drop 0)=o by have J:=HU.1;rw [List.drop_eq_nil_of_le (by omega)] at J;exact J);go_wp2_with fail;clear HU hlt hi e2 HW BX1 HB2 B2;generalize wr=wo at BX3 HB3 HWW ⊢;go_loopw [6] (fun v6 wr=>∃i:Nat,i≤x.f5.length∧v6 = .int .i64 i∧af (rE x.f4 16 (kE x.f5 i) (x.f5.drop i)=o)∧af (Below wo.heap.size wo wr)) (fun v _=>x.f5.length - (intOf v).toNat)
  case atStart=>exact ⟨0,aI _,rfl,HO5,⟨Below.refl _ _⟩⟩
  case round=>
   obtain ⟨i,hi,rfl,J0,HW⟩:=hrel;clear HO5;have HW2:=aa (HWW.1.trans (HW.1.mono HWW.1.size));have BX4:=aa ((HW.1.block bb (ak BX3.1)).trans BX3.1);have HB4:=aa ((HW.1.block b (ak HB3.1)).trans HB3.1);have e5:wr.cell? ⟨bb,5,none⟩=some (.slice A5 x.f5.length c5):=cell_of BX4.1 5;by_cases hlt:i<x.f5.length
   case neg=>
    have HO6:=aa (show true=o by have J:=J0.1;rw [List.drop_eq_nil_of_le (by omega),rE] at J;exact J);go_wp2_with fail;go_ret;exact ⟨by rw [←HO6.1];rfl,HW2.1⟩
   obtain ⟨ad,c1,e1,_,hK,hc0⟩:=Kd.fw (Kd.aN H5.1 HW2.1) sI (i:Int) (by omega) (by omega);obtain ⟨A1,cc,rfl,hcc,hC1⟩:=gn hK;have hx0:=hc0 0 _ rfl;have hx1:=hc0 1 _ rfl;subst e1;simp only [Int.toNat_natCast,show jC.sz=2 from rfl,Nat.add_zero,List.getD_eq_getElem?_getD,List.getElem?_eq_getElem hlt,Option.getD_some] at hx0 hx1 hcc hC1;rw [dw _ _ 1 (by omega)] at hx1;have J:=J0.1;rw [ap hlt,rE] at J;have PV:=aa (show kE x.f5 (i+1)=some x.f5[i].f0 by unfold kE;rw [if_neg (by omega)];simp [dG,List.getD_eq_getElem?_getD,hlt]);generalize x.f5[i]=f at hx0 hx1 hcc hC1 J PV;have HJ:=aa J;have LG:=aa (fun (W':World) (h:Below wr.heap.size wr W')=>zi A1 cc f.f1 W' (Kd.aN hC1 h) hcc);clear hC1 hc0 hK J J0 hcc;go_wp2_with ((with_reducible refine gS 7 68 rfl ?_);refine sB #[.int .u64 f.f0, .slice A1 f.f1.length cc] (aJ wr _) ?_;intro wz FN hG;have WP:=aa (bt (ah (Below.refl _ wr) _) hG.1 (Nat.le_refl _));generalize wz=w3 at FN WP ⊢);have f0:w3.cell? ⟨wr.heap.size,0,none⟩=some (.int .u64 f.f0):=cell_of FN.1 0;have f1:w3.cell? ⟨wr.heap.size,1,none⟩=some (.slice A1 f.f1.length cc):=cell_of FN.1 1;clear hx0 hx1 e5;have WA:=aa (HW.1.trans (WP.1.mono HW.1.size));have W4:=aa (HW2.1.trans (WP.1.mono HW2.1.size));have BX5:=aa ((WP.1.block bb (ak BX4.1)).trans BX4.1);have HB5:=aa ((WP.1.block b (ak HB4.1)).trans HB4.1);have LG2:=aa (fun (n:Nat)=>LG.1 (w3.drewN n) (ai WP.1 n));have FB:=aa (show wr.heap.size<w3.heap.size from ak FN.1);have e4:w3.cell? ⟨bb,4,none⟩=some (.int .u64 x.f4):=cell_of BX5.1 4;have e5:w3.cell? ⟨bb,5,none⟩=some (.slice (some ad) x.f5.length c5):=cell_of BX5.1 5;have k4:w3.cell? ⟨b,4,none⟩=some (.int .i64 16):=cell_of HB5.1 4;have PB:=aa (fun (j:Nat) (hj:j<x.f5.length)=>Kd.fw (Kd.aN H5.1 (W4.1)) sI (j:Int) (by omega) (by omega));clear LG BX4 HB4 HW HW2 WP;generalize wr.heap.size=fb at f0 f1 FN FB ⊢;cases hz:qO f.f1.length with
   | false=>
    have HO2:=aa (show false=o by have J:=HJ.1;rw [hz] at J;exact J);simp only [hz,Bool.not_false] at LG2;clear HJ hz;go_quiet ((go_at_call 138;with_reducible exact gj (LG2.1 _)));go_wp2_with fail;go_ret;exact NO.1 _ HO2.1 (ai W4.1 _)
   | true=>
   simp only [hz,Bool.not_true] at LG2;rw [hz] at HJ;clear hz;by_cases g1:f.f0≤x.f4
   ·have g1b:decide (f.f0≤x.f4)=true:=decide_eq_true g1;have HO2:=aa (show false=o by have J:=HJ.1;rw [if_pos rfl,if_pos g1] at J;exact J);clear HJ g1;go_quiet ((go_at_call 138;with_reducible exact gj (LG2.1 _)));go_wp2_with fail;go_ret;exact NO.1 _ HO2.1 (ai W4.1 _)
   have g1b:decide (f.f0≤x.f4)=false:=decide_eq_false g1;by_cases g2:IntKind.u64.wrap (f.f0 - x.f4)<2
   ·have g2b:decide (IntKind.u64.wrap (f.f0 - x.f4)<2)=true:=decide_eq_true g2;have HO2:=aa (show false=o by have J:=HJ.1;rw [if_pos rfl,if_neg g1,if_pos g2] at J;exact J);clear HJ g1 g2;go_quiet ((go_at_call 138;with_reducible exact gj (LG2.1 _)));go_wp2_with fail;go_ret;exact NO.1 _ HO2.1 (ai W4.1 _)
   have g2b:decide (IntKind.u64.wrap (f.f0 - x.f4)<2)=false:=decide_eq_false g2;by_cases g3:16<IntKind.u64.wrap (f.f0 - x.f4)
   ·have g3b:decide (16<IntKind.u64.wrap (f.f0 - x.f4))=true:=decide_eq_true g3;have HO2:=aa (show false=o by have J:=HJ.1;rw [if_pos rfl,if_neg g1,if_neg g2,if_pos g3] at J;exact J);clear HJ g1 g2 g3;go_quiet ((go_at_call 138;with_reducible exact gj (LG2.1 _)));go_wp2_with fail;go_ret;exact NO.1 _ HO2.1 (ai W4.1 _)
   have g3b:decide (16<IntKind.u64.wrap (f.f0 - x.f4))=false:=decide_eq_false g3;have HJ2:=aa (show (if (∃k∈kE x.f5 i,f.f0≤k) then false else rE x.f4 16 (kE x.f5 (i+1)) (x.f5.drop (i+1)))=o by have J:=HJ.1;rw [if_pos rfl,if_neg g1,if_neg g2,if_neg g3] at J;rw [PV.1];exact J);clear HJ g1 g2 g3;go_quiet ((go_at_call 138;with_reducible exact gj (LG2.1 _)));clear g1b g2b g3b k4 e4 f1 LG2;have FN6:=aa (show (w3.drewN nq).heap[fb]? = some (.cells #[.int .u64 f.f0, .slice A1 f.f1.length cc] 99 (0,0)) from FN.1);have BX6:=aa (show (w3.drewN nq).heap[bb]? = some (.cells #[.int .u64 x.f0, .int .u64 x.f1, .slice A2 x.f2.length c2, .int .u64 x.f3, .int .u64 x.f4, .slice (some ad) x.f5.length c5] 68 (0,0)) from BX5.1);have WA6:=aa (ai WA.1 nq);have W6:=aa (ai W4.1 nq);generalize World.drewN w3 nq=w6 at FN6 BX6 WA6 W6 ⊢;clear FN BX5 HB5 WA W4 PB;go_wp2_with fail;have f0:w6.cell? ⟨fb,0,none⟩=some (.int .u64 f.f0):=cell_of FN6.1 0;have e5:w6.cell? ⟨bb,5,none⟩=some (.slice (some ad) x.f5.length c5):=cell_of BX6.1 5;rcases Nat.eq_zero_or_pos i with rfl|hpos
   ·have HO4:=aa (show rE x.f4 16 (kE x.f5 (0+1)) (x.f5.drop (0+1))=o by
     rw [←HJ2.1,if_neg (c:=∃k,k∈kE x.f5 0∧f.f0≤k) (fun ⟨k,hk,_⟩=>by cases hk)])
    clear HJ2;go_quiet (fail);go_wp2_with fail;go_roundw
    case rel=>exact ⟨0+1,by omega,by go_num,HO4,⟨ai WA6.1 _⟩⟩
    case measure=>
     show x.f5.length - ((0:Nat)+1:Int).toNat<x.f5.length - ((0:Nat):Int).toNat;omega
   ·obtain ⟨i',rfl⟩:∃i',i=i'+1:=⟨i - 1,by omega⟩;obtain ⟨ad',c1',e2,_,hK',hc0'⟩:=Kd.fw (Kd.aN H5.1 W6.1) sI (i':Int) (by omega) (by omega);obtain ⟨A1',cc',rfl,_,_⟩:=gn hK';injection e2 with e2;subst e2;have n0:=hc0' 0 _ rfl;have PK:=aa (show kE x.f5 (i'+1)=some (x.f5.getD (i':Int).toNat sI).f0 by unfold kE;rw [if_neg (by omega)];rfl);simp only [Int.toNat_natCast,show jC.sz=2 from rfl,Nat.add_zero] at n0 PK;generalize (x.f5.getD i' sI).f0=pk at n0 PK;clear hc0' hK';have hip:(0:Int)<((i'+1:Nat):Int):=by omega
    have hsub:wrap64 (((i'+1:Nat):Int) - 1)=(i':Int):=by rw [IntWalk.wrap64_in _ (by omega)];omega
    have hsub2:IntKind.i64.wrap (((i'+1:Nat):Int) - 1)=(i':Int):=by rw [aA _ (by omega)];omega
    have hil:(i':Int)<(x.f5.length:Int):=by omega
    have hwi:IntKind.i64.wrap (i':Int)=(i':Int):=aA _ (by omega);have hi0:(0:Int)≤(i':Int):=by omega
    by_cases gk:f.f0≤pk
    ·have gkb:decide (f.f0≤pk)=true:=decide_eq_true gk;have HO4:=aa (show false=o by
      rw [←HJ2.1,PK.1,if_pos (c:=∃k,k∈some pk∧f.f0≤k) ⟨pk,rfl,gk⟩])
     clear HJ2 gk;go_quiet (fail);go_wp2_with fail;go_ret;exact NO.1 _ HO4.1 (ai W6.1 _)
    have gkb:decide (f.f0≤pk)=false:=decide_eq_false gk;have HO4:=aa (show rE x.f4 16 (kE x.f5 (i'+1+1)) (x.f5.drop (i'+1+1))=o by
     rw [←HJ2.1,PK.1,if_neg (c:=∃k,k∈some pk∧f.f0≤k) (fun ⟨k,hk,hk2⟩=>gk (by injection hk with hk;rw [hk];exact hk2))])
    clear HJ2 gk;go_quiet (fail);go_wp2_with fail;go_roundw
    case rel=>exact ⟨i'+1+1,by omega,by go_num,HO4,⟨ai WA6.1 _⟩⟩
    case measure=>
     show x.f5.length - (((i'+1:Nat):Int)+1).toNat<x.f5.length - ((i'+1:Nat):Int).toNat;omega
end Go.Proofs.YtpekmdpbfjdjkaaGreat.ref
namespace Go.Proofs.YtpekmdpbfjdjkaaGreat.dO
open Go Go.RowKit ag.ax ag.aV ag.aU aD fr iK cL plain
def b8 (x:Int):List Int:=be 8 x.toNat
def gr (n:Nat):List Int:=bu n
def dI (l:List Int):List Int:=bu l.length++l
def jN (f:jE):List Int:=b8 f.f0++dI f.f1
def cX (x:gX):List Int:=b8 x.f0++(b8 x.f1++(b8 x.f3++(b8 x.f4++(gr x.f2.length++(x.f2.flatMap dI++(gr x.f5.length++x.f5.flatMap jN))))))
def fI (l:List gX):List Int:=(l.length:Int)::l.flatMap cX
def iR (s:eW):List Int:=b8 s.f1++[s.f2]
def dY (p:iA):List Int:=b8 p.f0++dI p.f1
def ej (x:jx):List Int:=x.f0::(b8 x.f1++[x.f2])
def dV (s:Hs):List Int:=192::1::s.self::(gr s.table.length++(s.table.flatMap iR++(gr s.pairs.length++(s.pairs.flatMap dY++(gr s.ses.length++(s.ses.flatMap ej++(bu s.free.toNat++(bu s.spare.toNat++fI s.peers))))))))
theorem _root_.Go.Proofs.YtpekmdpbfjdjkaaGreat.cL.cO.grow {W W1 W2:World} {base b:Nat} {lim:Int} {o:List Int} (h:cO W W1 base b lim o) (hb:Below W1.heap.size W1 W2) (hB:base≤W1.heap.size):cO W W2 base b lim o:=by
 obtain ⟨v,hv⟩:=h.at_;exact ⟨⟨v,hv.below hb⟩,h.below.trans (hb.mono hB),h.mv.trans (Mv.cH hb)⟩
theorem _root_.Go.Proofs.YtpekmdpbfjdjkaaGreat.cL.cO.trans {W W1 W2:World} {base b:Nat} {lim:Int} {o o':List Int} (h:cO W W1 base b lim o) (k:cO W1 W2 base b lim o'):cO W W2 base b lim o':=⟨k.at_,h.below.trans k.below,h.mv.trans k.mv⟩
theorem _root_.Go.Proofs.YtpekmdpbfjdjkaaGreat.cL.cO.start {W:World} {base b:Nat} {lim:Int} {v:Value} {o:List Int} (h:jp W base b lim v o):cO W W base b lim o:=⟨⟨v,h⟩,Below.refl _ _,Mv.refl _ _⟩
def Wc (W W1:World) (base b:Nat) (lim:Int) (o:List Int) (f:FuncId) (args:Array Value) (add:List Int):Prop:=
 Calls Tryz.prog f args W1 fun e w'=>e = .returned (.tuple #[])∧cO W1 w' base b lim (o++add)∧cO W w' base b lim (o++add)
theorem Wc.mono {W W1:World} {base b:Nat} {lim:Int} {o:List Int} {f:FuncId} {args:Array Value} {add:List Int} {R:Ending→World→Prop} (h:Wc W W1 base b lim o f args add) (k:∀e w',(e = .returned (.tuple #[])∧cO W1 w' base b lim (o++add)∧cO W w' base b lim (o++add))→R e w'):Calls Tryz.prog f args W1 R:=Calls.mono h k
theorem w8 {W W1:World} {base b:Nat} {lim:Int} {o:List Int} (h:cO W W1 base b lim o) (hb:base≤W1.heap.size) (x:Int) (x0:0≤x) (x1:x≤255) (h2:lim≤1000000000) (hl:(1:Int)+o.length≤lim) :
 Wc W W1 base b lim o 25 #[.pointer (some ⟨b,0,none⟩), .int .u8 x] [x]:=by
 obtain ⟨v,hv⟩:=h.at_;obtain ⟨n,rfl⟩:=Int.eq_ofNat_of_zero_le x0;exact (u8 n lim base b v o W1 hv hb (by omega) h2 hl).mono fun e w' ⟨h1,h3⟩=>⟨h1,h3,h.trans h3⟩
theorem yY {W W1:World} {base b:Nat} {lim:Int} {o:List Int} (h:cO W W1 base b lim o) (hb:base≤W1.heap.size) (x:Int) (x0:0≤x) (x1:x≤18446744073709551615) (h2:lim≤1000000000) (hl:(8:Int)+o.length≤lim) :
 Wc W W1 base b lim o 27 #[.pointer (some ⟨b,0,none⟩), .int .u64 x] (b8 x):=by
 obtain ⟨v,hv⟩:=h.at_;obtain ⟨n,rfl⟩:=Int.eq_ofNat_of_zero_le x0;exact (u64 n lim base b v o W1 hv hb (by omega) h2 hl).mono fun e w' ⟨h1,h3⟩=>⟨h1,h3,h.trans h3⟩
theorem wV {W W1:World} {base b:Nat} {lim:Int} {o:List Int} (h:cO W W1 base b lim o) (hb:base≤W1.heap.size) (n:Nat) (x1:n<18446744073709551616) (h2:lim≤1000000000) (hl:((bu n).length:Int)+o.length≤lim) :
 Wc W W1 base b lim o 26 #[.pointer (some ⟨b,0,none⟩), .int .u64 n] (bu n):=by
 obtain ⟨v,hv⟩:=h.at_;exact (Bo n lim base b v o W1 hv hb x1 h2 hl).mono fun e w' ⟨h1,h3⟩=>⟨h1,h3,h.trans h3⟩
theorem wB {W W1:World} {base b:Nat} {lim:Int} {o:List Int} (h:cO W W1 base b lim o) (hb:base≤W1.heap.size) (zs:List Int) (A:Option Addr) (c:Nat) (hC:∀W',Below base W1 W'→Kd.C (Kd.int .u8) W' A zs.length zs) (h2:lim≤1000000000) (hl:((dI zs).length:Int)+o.length≤lim) :
 Wc W W1 base b lim o 28 #[.pointer (some ⟨b,0,none⟩), .slice A zs.length c] (dI zs):=by
 obtain ⟨v,hv⟩:=h.at_;refine (block zs A c lim base b v o W1 hC hv hb h2 (by unfold dI at hl;rw [List.length_append] at hl;omega)).mono fun e w' ⟨h1,h3⟩=>⟨h1,?_,h.trans ?_⟩
 ·exact h3
 ·exact h3
theorem dH (x:Int):(b8 x).length=8:=ia 8 _
theorem wh (l:List gX) (A:Option Addr) (c:Nat) (lim:Int) (base b:Nat) (o:List Int) (W0 W:World) (Wz:World) (hC:Kd.C ld Wz A l.length l) (hzW:Below Wz.heap.size Wz W) (hzb:Wz.heap.size≤base) (hc:l.length≤c) (hD:cO W0 W base b lim o) (hb:base≤W.heap.size) (hB:∀x∈l,qQ x) (hl:l.length≤255) (h2:lim≤1000000000) (hroom:((fI l).length:Int)+o.length≤lim) :
 Wc W0 W base b lim o 29 #[.pointer (some ⟨b,0,none⟩), .agg #[.slice A l.length c]] (fI l):=by
 have H0:=aa hD;suffices h:Calls Tryz.prog 29 #[.pointer (some ⟨b,0,none⟩), .agg #[.slice A l.length c]] W (fun e w'=>e = .returned (.tuple #[])∧cO W w' base b lim (o++fI l)) from
  h.mono fun e w' ⟨h1,h2⟩=>⟨h1,h2,H0.1.trans h2⟩
 obtain ⟨v0,hv0⟩:=hD.at_;have D0:=aa (cO.start hv0);have HC:=aa hC;have ZW:=aa (fun (W':World) (hW:Below base W W')=>hzW.trans (hW.mono hzb));have HB:=aa hB;have HL:=aa h2;have S0:=aa hb;generalize hT:o++fI l=T;have HT:=aa (show (T.length:Int)≤lim by rw [←hT,List.length_append];omega);have E0:=aa (show o++([(l.length:Int)]++l.flatMap cX)=T from hT);have hw:IntKind.u8.wrap (l.length:Int)=(l.length:Int):=IntWalk.u8_in _ (by omega);have hu68:=Tryz.underlying68;have hu99:=Tryz.underlying99;clear hC hD hb hB h2 hroom hT hv0 H0 hzW hzb;go_in;go_wp2_with fail;have BX:=aa (aJ W (.cells #[.slice A l.length c] 28));have D1:=aa (D0.1.grow (ah (Below.refl _ W) (.cells #[.slice A l.length c] 28)) S0.1);have SZ1:=aa (Nat.le_trans S0.1 (ah (Below.refl _ W) (.cells #[.slice A l.length c] 28)).size);generalize World.alloc W _=w1 at BX D1 SZ1 ⊢;generalize W.heap.size=bx at BX ⊢;clear D0 S0;(with_reducible refine (w8 D1.1 SZ1.1 (l.length:Int) (by omega) (by omega) HL.1 (by have h:=congrArg List.length E0.1;have ht:=HT.1;(try simp only [List.length_append,dH,List.length_cons,List.length_nil] at h ht ⊢);omega)).mono ?_);rintro e w2 ⟨rfl,hd,hD⟩;have E2:=aa (show (o++[(l.length:Int)])++(l.flatMap cX)=T by rw [List.append_assoc];exact E0.1);have D2:=aa hD;have SZ2:=aa (Nat.le_trans SZ1.1 hd.mv.size);have BX_2:=aa (hd.mv.at BX.1 (by decide));generalize o++[(l.length:Int)]=o2 at D2 E2;clear hd hD D1 SZ1 E0 BX;have z2_0bx:w2.cell? ⟨bx,0,none⟩=some (.slice A l.length c):=cell_of BX_2.1 0;clear hw;go_wp2_with fail;clear BX_2 z2_0bx;go_loopw [19] (fun v19 wr=>∃(i:Nat) (oi:List Int),i≤l.length∧v19 = .int .i64 i∧af (oi++(l.drop i).flatMap cX=T)∧af (cO W wr base b lim oi)∧af (base≤wr.heap.size)) (fun v _=>l.length - (intOf v).toNat)
 case atStart=>exact ⟨0,o2,aI _,rfl,E2,D2,SZ2⟩
 case round=>
  obtain ⟨i,oi,hi,rfl,EI,DI,SI⟩:=hrel;clear E2 D2 SZ2;generalize wr=wq at DI SI ⊢;by_cases hlt:i<l.length
  case neg=>
   have HO:=aa (show oi=T by have E:=EI.1;rw [List.drop_eq_nil_of_le (by omega)] at E;simpa using E);go_wp2_with fail;go_end0;exact ⟨rfl,by rw [←HO.1];exact DI.1⟩
  obtain ⟨ad,X2,d2,X5,d5,e1,n0,n1,n2,n3,n4,n5,l2,C2,l5,C5⟩:=jY HC.1 (i:Int) (by omega) (by omega);subst e1;have hrd:cN l (i:Int)=l[i]:=by simp [cN,List.getD_eq_getElem?_getD,hlt]
  have PO:=aa (HB.1 _ (hrd▸List.getElem_mem hlt:cN l (i:Int)∈l));have E:=EI.1;rw [ap hlt,bY,←hrd,cX] at E;simp only [List.append_assoc,gr] at E;simp only [Int.toNat_natCast] at n0 n1 n2 n3 n4 n5;generalize cN l (i:Int)=x at n0 n1 n2 n3 n4 n5 l2 C2 l5 C5 PO E;have ZQ:=ZW.1 wq DI.1.below;have m0:=an ZQ n0;have m1:=an ZQ n1;have m2:=an ZQ n2;have m3:=an ZQ n3;have m4:=an ZQ n4;have m5:=an ZQ n5;have Z2:=aa C2;have Z5:=aa C5;generalize hRR:(l.drop (i+1)).flatMap cX=RR at E;have HRR:=aa hRR;have E3:=aa E;have hx2:=PO.1.l2;have hx5:=PO.1.l5;have hwl2:IntKind.u64.wrap (x.f2.length:Int)=(x.f2.length:Int):=IntWalk.u64_in _ (by omega);have hwl5:IntKind.u64.wrap (x.f5.length:Int)=(x.f5.length:Int):=IntWalk.u64_in _ (by omega);clear n0 n1 n2 n3 n4 n5 C2 C5 ZQ E hRR hrd EI;go_wp2_with fail;have P3:=aa (aJ wq (.cells #[.int .u64 x.f0, .int .u64 x.f1, .slice X2 x.f2.length d2, .int .u64 x.f3, .int .u64 x.f4, .slice X5 x.f5.length d5] 68));have D3:=aa (DI.1.grow (ah (Below.refl _ wq) (.cells #[.int .u64 x.f0, .int .u64 x.f1, .slice X2 x.f2.length d2, .int .u64 x.f3, .int .u64 x.f4, .slice X5 x.f5.length d5] 68)) SI.1);have SZ3:=aa (Nat.le_trans SI.1 (ah (Below.refl _ wq) (.cells #[.int .u64 x.f0, .int .u64 x.f1, .slice X2 x.f2.length d2, .int .u64 x.f3, .int .u64 x.f4, .slice X5 x.f5.length d5] 68)).size);generalize World.alloc wq _=w3 at P3 D3 SZ3 ⊢;generalize wq.heap.size=pb at P3 ⊢;clear m0 m1 m2 m3 m4 m5 DI SI;(with_reducible refine (yY D3.1 SZ3.1 x.f0 PO.1.m0'.1 PO.1.m0'.2 HL.1 (by have h:=congrArg List.length E3.1;have ht:=HT.1;(try simp only [List.length_append,dH,List.length_cons,List.length_nil] at h ht ⊢);omega)).mono ?_);rintro e w4 ⟨rfl,hd,hD⟩;have E4:=aa (show (oi++b8 x.f0)++(b8 x.f1++(b8 x.f3++(b8 x.f4++(bu x.f2.length++(x.f2.flatMap dI++(bu x.f5.length++(x.f5.flatMap jN++RR)))))))=T by rw [List.append_assoc];exact E3.1);have D4:=aa hD;have SZ4:=aa (Nat.le_trans SZ3.1 hd.mv.size);have P3_4:=aa (hd.mv.at P3.1 (by decide));generalize oi++b8 x.f0=o4 at D4 E4;clear hd hD D3 SZ3 E3 P3;have z4_1pb:w4.cell? ⟨pb,1,none⟩=some (.int .u64 x.f1):=cell_of P3_4.1 1;go_wp2_with fail;(with_reducible refine (yY D4.1 SZ4.1 x.f1 PO.1.m1'.1 PO.1.m1'.2 HL.1 (by have h:=congrArg List.length E4.1;have ht:=HT.1;(try simp only [List.length_append,dH,List.length_cons,List.length_nil] at h ht ⊢);omega)).mono ?_);rintro e w5 ⟨rfl,hd,hD⟩;have E5:=aa (show (o4++b8 x.f1)++(b8 x.f3++(b8 x.f4++(bu x.f2.length++(x.f2.flatMap dI++(bu x.f5.length++(x.f5.flatMap jN++RR))))))=T by rw [List.append_assoc];exact E4.1);have D5:=aa hD;have SZ5:=aa (Nat.le_trans SZ4.1 hd.mv.size);have P3_5:=aa (hd.mv.at P3_4.1 (by decide));generalize o4++b8 x.f1=o5 at D5 E5;clear hd hD D4 SZ4 E4 P3_4 z4_1pb;have z5_3pb:w5.cell? ⟨pb,3,none⟩=some (.int .u64 x.f3):=cell_of P3_5.1 3;go_wp2_with fail;(with_reducible refine (yY D5.1 SZ5.1 x.f3 PO.1.m0 PO.1.m1 HL.1 (by have h:=congrArg List.length E5.1;have ht:=HT.1;(try simp only [List.length_append,dH,List.length_cons,List.length_nil] at h ht ⊢);omega)).mono ?_);rintro e w6 ⟨rfl,hd,hD⟩;have E6:=aa (show (o5++b8 x.f3)++(b8 x.f4++(bu x.f2.length++(x.f2.flatMap dI++(bu x.f5.length++(x.f5.flatMap jN++RR)))))=T by rw [List.append_assoc];exact E5.1);have D6:=aa hD;have SZ6:=aa (Nat.le_trans SZ5.1 hd.mv.size);have P3_6:=aa (hd.mv.at P3_5.1 (by decide));generalize o5++b8 x.f3=o6 at D6 E6;clear hd hD D5 SZ5 E5 P3_5 z5_3pb;have z6_4pb:w6.cell? ⟨pb,4,none⟩=some (.int .u64 x.f4):=cell_of P3_6.1 4;go_wp2_with fail;(with_reducible refine (yY D6.1 SZ6.1 x.f4 PO.1.m4'.1 PO.1.m4'.2 HL.1 (by have h:=congrArg List.length E6.1;have ht:=HT.1;(try simp only [List.length_append,dH,List.length_cons,List.length_nil] at h ht ⊢);omega)).mono ?_);rintro e w7 ⟨rfl,hd,hD⟩;have E7:=aa (show (o6++b8 x.f4)++(bu x.f2.length++(x.f2.flatMap dI++(bu x.f5.length++(x.f5.flatMap jN++RR))))=T by rw [List.append_assoc];exact E6.1);have D7:=aa hD;have SZ7:=aa (Nat.le_trans SZ6.1 hd.mv.size);have P3_7:=aa (hd.mv.at P3_6.1 (by decide));generalize o6++b8 x.f4=o7 at D7 E7;clear hd hD D6 SZ6 E6 P3_6 z6_4pb;have z7_2pb:w7.cell? ⟨pb,2,none⟩=some (.slice X2 x.f2.length d2):=cell_of P3_7.1 2;go_wp2_with fail;(with_reducible refine (wV D7.1 SZ7.1 x.f2.length (by omega) HL.1 (by have h:=congrArg List.length E7.1;have ht:=HT.1;(try simp only [List.length_append,dH,List.length_cons,List.length_nil] at h ht ⊢);omega)).mono ?_);rintro e w8 ⟨rfl,hd,hD⟩;have E8:=aa (show (o7++bu x.f2.length)++(x.f2.flatMap dI++(bu x.f5.length++(x.f5.flatMap jN++RR)))=T by rw [List.append_assoc];exact E7.1);have D8:=aa hD;have SZ8:=aa (Nat.le_trans SZ7.1 hd.mv.size);have P3_8:=aa (hd.mv.at P3_7.1 (by decide));generalize o7++bu x.f2.length=o8 at D8 E8;clear hd hD D7 SZ7 E7 P3_7 z7_2pb;have z8_2pb:w8.cell? ⟨pb,2,none⟩=some (.slice X2 x.f2.length d2):=cell_of P3_8.1 2;go_wp2_with fail;clear z8_2pb;go_loopw [48] (fun v48 wr=>∃(j:Nat) (oj:List Int),j≤x.f2.length∧v48 = .int .i64 j∧af (oj++((x.f2.drop j).flatMap dI++(bu x.f5.length++(x.f5.flatMap jN++RR)))=T)∧af (cO W wr base b lim oj)∧af (base≤wr.heap.size)∧af (wr.heap[pb]? = some (.cells #[.int .u64 x.f0, .int .u64 x.f1, .slice X2 x.f2.length d2, .int .u64 x.f3, .int .u64 x.f4, .slice X5 x.f5.length d5] 68 (0,0)))) (fun v _=>x.f2.length - (intOf v).toNat)
  case atStart=>exact ⟨0,o8,aI _,rfl,E8,D8,SZ8,P3_8⟩
  case round=>
   obtain ⟨j,oj,hj,rfl,EJ,DJ,SJ,PJ⟩:=hrel;clear E8 D8 SZ8 P3_8;generalize wr=wj at DJ SJ PJ ⊢;by_cases hjt:j<x.f2.length
   ·obtain ⟨ad2,c9,e1,_,hK,hc0⟩:=Kd.fw Z2.1 [] (j:Int) (by omega) (by omega);obtain ⟨Y1,q1,rfl,hq1,hC1⟩:=hK;have hy0:=hc0 0 _ rfl;subst e1;simp only [Int.toNat_natCast,show (Kd.slice 5 (Kd.int .u8)).sz=1 from rfl,Nat.mul_one,Nat.add_zero,List.getD_eq_getElem?_getD,List.getElem?_eq_getElem hjt,Option.getD_some] at hy0 hq1 hC1;have E:=EJ.1;rw [ap hjt,bY,List.append_assoc] at E;generalize x.f2[j]=y at hy0 hq1 hC1 E;have hy1:=an (ZW.1 wj DJ.1.below) hy0;have CY:=aa (fun (W':World) (hW:Below base wj W')=>Kd.aN hC1 (ZW.1 W' (DJ.1.below.trans hW)));have E9:=aa E;clear hy0 hC1 hc0 E EJ;go_wp2_with fail;refine (wB DJ.1 SJ.1 y Y1 q1 CY.1 HL.1 (by have h:=congrArg List.length E9.1;have ht:=HT.1;(try simp only [List.length_append,dH,List.length_cons,List.length_nil] at h ht ⊢);omega)).mono ?_;rintro e w9 ⟨rfl,hd,hD⟩;have EA:=aa (show (oj++dI y)++((x.f2.drop (j+1)).flatMap dI++(bu x.f5.length++(x.f5.flatMap jN++RR)))=T by rw [List.append_assoc];exact E9.1);have DA:=aa hD;have SA:=aa (Nat.le_trans SJ.1 hd.mv.size);have PA:=aa (hd.mv.at PJ.1 (by decide));clear hd hD DJ SJ E9 PJ CY hy1;go_wp2_with fail;go_roundw
    case rel=>exact ⟨j+1,oj++dI y,by omega,by go_num,EA,DA,SA,PA⟩
    case measure=>
     show x.f2.length - ((j:Int)+1).toNat<x.f2.length - (j:Int).toNat;omega
   have E8:=aa (show oj++(bu x.f5.length++(x.f5.flatMap jN++RR))=T by have E:=EJ.1;rw [List.drop_eq_nil_of_le (by omega)] at E;exact E);have zj:wj.cell? ⟨pb,5,none⟩=some (.slice X5 x.f5.length d5):=cell_of PJ.1 5;clear EJ;go_wp2_with fail;(with_reducible refine (wV DJ.1 SJ.1 x.f5.length (by omega) HL.1 (by have h:=congrArg List.length E8.1;have ht:=HT.1;(try simp only [List.length_append,dH,List.length_cons,List.length_nil] at h ht ⊢);omega)).mono ?_);rintro e w9 ⟨rfl,hd,hD⟩;have E9:=aa (show (oj++bu x.f5.length)++(x.f5.flatMap jN++RR)=T by rw [List.append_assoc];exact E8.1);have D9:=aa hD;have SZ9:=aa (Nat.le_trans SJ.1 hd.mv.size);have PJ_9:=aa (hd.mv.at PJ.1 (by decide));generalize oj++bu x.f5.length=o9 at D9 E9;clear hd hD DJ SJ E8 PJ;have z9_5pb:w9.cell? ⟨pb,5,none⟩=some (.slice X5 x.f5.length d5):=cell_of PJ_9.1 5;clear zj;go_wp2_with fail;go_loopw [65] (fun v65 wr=>∃(k:Nat) (ok:List Int),k≤x.f5.length∧v65 = .int .i64 k∧af (ok++((x.f5.drop k).flatMap jN++RR)=T)∧af (cO W wr base b lim ok)∧af (base≤wr.heap.size)) (fun v _=>x.f5.length - (intOf v).toNat)
   case atStart=>exact ⟨0,o9,aI _,rfl,E9,D9,SZ9⟩
   case round=>
    obtain ⟨k,ok,hk,rfl,EK,DK,SK⟩:=hrel;clear E9 D9 SZ9 PJ_9;generalize wr=wk at DK SK ⊢;by_cases hkt:k<x.f5.length
    ·obtain ⟨ad2,c9,e1,_,hK,hc0⟩:=Kd.fw Z5.1 sI (k:Int) (by omega) (by omega);obtain ⟨Y1,q1,rfl,hq1,hC1⟩:=gn hK;have hy0:=hc0 0 _ rfl;have hy1:=hc0 1 _ rfl;subst e1;simp only [Int.toNat_natCast,show jC.sz=2 from rfl,Nat.add_zero,List.getD_eq_getElem?_getD,List.getElem?_eq_getElem hkt,Option.getD_some] at hy0 hy1 hq1 hC1;rw [dw _ _ 1 (by omega)] at hy1;have E:=EK.1;rw [ap hkt,bY,jN] at E;simp only [List.append_assoc] at E;have FB:=aa (PO.1.y5 _ (List.getElem_mem hkt)).1;generalize x.f5[k]=f at hy0 hy1 hq1 hC1 E FB;have hy2:=an (ZW.1 wk DK.1.below) hy0;have hy3:=an (ZW.1 wk DK.1.below) hy1;have HC1:=aa hC1;have EA:=aa E;clear hy0 hy1 hC1 hc0 hK E EK;go_wp2_with fail;have F10:=aa (aJ wk (.cells #[.int .u64 f.f0, .slice Y1 f.f1.length q1] 99));have D10:=aa (DK.1.grow (ah (Below.refl _ wk) (.cells #[.int .u64 f.f0, .slice Y1 f.f1.length q1] 99)) SK.1);have SZ10:=aa (Nat.le_trans SK.1 (ah (Below.refl _ wk) (.cells #[.int .u64 f.f0, .slice Y1 f.f1.length q1] 99)).size);generalize World.alloc wk _=w10 at F10 D10 SZ10 ⊢;generalize wk.heap.size=fb at F10 ⊢;clear hy2 hy3 DK SK;(with_reducible refine (yY D10.1 SZ10.1 f.f0 FB.1.1 FB.1.2 HL.1 (by have h:=congrArg List.length EA.1;have ht:=HT.1;(try simp only [List.length_append,dH,List.length_cons,List.length_nil] at h ht ⊢);omega)).mono ?_);rintro e w11 ⟨rfl,hd,hD⟩;have E11:=aa (show (ok++b8 f.f0)++(dI f.f1++((x.f5.drop (k+1)).flatMap jN++RR))=T by rw [List.append_assoc];exact EA.1);have D11:=aa hD;have SZ11:=aa (Nat.le_trans SZ10.1 hd.mv.size);have F10_11:=aa (hd.mv.at F10.1 (by decide));generalize ok++b8 f.f0=o11 at D11 E11;clear hd hD D10 SZ10 EA F10;have z11_1fb:w11.cell? ⟨fb,1,none⟩=some (.slice Y1 f.f1.length q1):=cell_of F10_11.1 1;go_wp2_with fail;have CY:=aa (fun (W':World) (hW:Below base w11 W')=>Kd.aN HC1.1 (ZW.1 W' (D11.1.below.trans hW)));(with_reducible refine (wB D11.1 SZ11.1 f.f1 Y1 q1 CY.1 HL.1 (by have h:=congrArg List.length E11.1;have ht:=HT.1;(try simp only [List.length_append,dH,List.length_cons,List.length_nil] at h ht ⊢);omega)).mono ?_);rintro e w12 ⟨rfl,hd,hD⟩;have E12:=aa (show (o11++dI f.f1)++((x.f5.drop (k+1)).flatMap jN++RR)=T by rw [List.append_assoc];exact E11.1);have D12:=aa hD;have SZ12:=aa (Nat.le_trans SZ11.1 hd.mv.size);have F10_12:=aa (hd.mv.at F10_11.1 (by decide));generalize o11++dI f.f1=o12 at D12 E12;clear hd hD D11 SZ11 E11 F10_11 z11_1fb;go_wp2_with fail;go_roundw
     case rel=>exact ⟨k+1,o12,by omega,by go_num,E12,D12,SZ12⟩
     case measure=>
      show x.f5.length - ((k:Int)+1).toNat<x.f5.length - (k:Int).toNat;omega
    have EL:=aa (show ok++RR=T by have E:=EK.1;rw [List.drop_eq_nil_of_le (by omega)] at E;exact E);go_wp2_with fail;go_roundw
    case rel=>exact ⟨i+1,ok,by omega,by go_num,⟨by rw [HRR.1];exact EL.1⟩,DK,SK⟩
    case measure=>
     show l.length - ((i:Int)+1).toNat<l.length - (i:Int).toNat;omega
end Go.Proofs.YtpekmdpbfjdjkaaGreat.dO
namespace Go.Proofs.YtpekmdpbfjdjkaaGreat.dO
open Go Go.RowKit ag.ax aD cL plain
theorem jF {α:Type} (f:α→List Int) (M:Nat) (l:List α) (h:∀x∈l,(f x).length≤M):(l.flatMap f).length≤l.length*M:=by
 induction l with
 | nil=>simp
 | cons a r ih=>
  rw [bY,List.length_append,List.length_cons,dz];have:=h a List.mem_cons_self;have:=ih (fun x hx=>h x (List.mem_cons_of_mem _ hx));omega
theorem pG (l:List Int) (h:l.length<18446744073709551616):(dI l).length≤10+l.length:=by
 unfold dI;rw [List.length_append];have:=dR l.length h;omega
theorem yK (l:List jx):∀k:Int,iW (some k) l=true→(l.length:Int)≤max 0 (31 - k):=by
 induction l with
 | nil=>intro k _;simp;omega
 | cons x r ih=>
  intro k h;rw [iW] at h;split at h
  ·cases h
  ·rename_i h0;have h0':¬x.f0≤k:=fun hh=>h0 ⟨k,rfl,hh⟩;split at h
   ·cases h
   ·split at h
    ·cases h
    ·split at h
     ·cases h
     ·split at h
      ·cases h
      ·split at h
       ·cases h
       ·have:=ih _ h;rw [List.length_cons];omega
theorem uU (l:List jx) (h:iW none l=true):l.length≤16:=by
 cases l with
 | nil=>simp
 | cons x r=>
  rw [iW] at h;split at h
  ·cases h
  ·split at h
   ·cases h
   ·split at h
    ·cases h
    ·split at h
     ·cases h
     ·split at h
      ·cases h
      ·split at h
       ·cases h
       ·have:=yK r _ h;rw [List.length_cons];omega
theorem sR (tab:List eW) (self:Int) (l:List iA):∀prev,oC tab self prev l=true→∀p∈l,p.f1.length≤64:=by
 induction l with
 | nil=>intro prev _ p hp;cases hp
 | cons a r ih=>
  intro prev h p hp;rw [oC] at h;split at h
  ·cases h
  ·split at h
   ·cases h
   ·split at h
    ·rcases List.mem_cons.1 hp with rfl|hp
     ·omega
     ·exact ih _ h p hp
    ·cases h
theorem AP (del reach:Int) (l:List jE):∀last:Int,last≤reach→kp del reach l last=true→(l.length:Int)≤reach - last∧∀f∈l,1≤f.f1.length∧f.f1.length≤3072:=by
 induction l with
 | nil=>
  intro last hl _;exact ⟨by simp;omega,fun f hf=>by cases hf⟩
 | cons a r ih=>
  intro last hl h;rw [kp] at h;split at h
  ·cases h
  ·split at h
   ·cases h
   ·split at h
    ·cases h
    ·split at h
     ·rename_i h4;obtain ⟨i1,i2⟩:=ih _ (by omega) h;refine ⟨by rw [List.length_cons];omega,fun f hf=>?_⟩;rcases List.mem_cons.1 hf with rfl|hf
      ·unfold qO at h4;simp only [Bool.and_eq_true,decide_eq_true_eq] at h4;omega
      ·exact i2 f hf
     ·cases h
theorem vJ (l:List (List Int)) (h:kI l=false):∀x∈l,1≤x.length∧x.length≤3072:=by
 intro x hx;unfold kI at h;rw [List.any_eq_false] at h;have:=h x hx;unfold qO at this;simp only [Bool.not_eq_true',Bool.and_eq_false_iff,decide_eq_false_iff_not,not_or,Decidable.not_not] at this;omega
structure BH (x:gX):Prop where
 n2:x.f2.length≤16
 n5:x.f5.length≤16
 s2:∀b∈x.f2,b.length≤3072
 s5:∀f∈x.f5,f.f1.length≤3072
theorem yF (self:Int) (l:List gX):∀i,oQ self 16 16 i l=true→∀x∈l,BH x:=by
 induction l with
 | nil=>intro i _ x hx;cases hx
 | cons a r ih=>
  intro i h x hx;rw [oQ,Bool.and_eq_true] at h;rcases List.mem_cons.1 hx with rfl|hx
  ·have h1:=h.1;split at h1
   ·unfold zr at h1;split at h1
    ·split at h1
     ·rename_i h2;have h3:(x.f5.length:Int)=0:=by simpa using h1
      refine ⟨by omega,by omega,fun b hb=>?_,fun f hf=>?_⟩
      ·have e:x.f2=[]:=List.length_eq_zero_iff.1 (by omega);rw [e] at hb;cases hb
      ·have e:x.f5=[]:=List.length_eq_zero_iff.1 (by omega);rw [e] at hf;cases hf
     ·cases h1
    ·cases h1
   ·rw [Bool.and_eq_true] at h1;obtain ⟨h2,h3⟩:=h1;unfold lf at h2;split at h2
    ·cases h2
    ·split at h2
     ·cases h2
     ·split at h2
      ·cases h2
      ·rw [Bool.and_eq_true] at h2;have h4:=vJ x.f2 (by simpa using h2.2);obtain ⟨h5,h6⟩:=AP x.f4 16 x.f5 1 (by omega) h3;exact ⟨by omega,by omega,fun b hb=>(h4 b hb).2,fun f hf=>(h6 f hf).2⟩
  ·exact ih _ h.2 x hx
theorem ug (x:gX) (h:BH x):(cX x).length≤98804:=by
 unfold cX;simp only [List.length_append,dH];have h1:(gr x.f2.length).length≤10:=dR _ (by have:=h.n2;omega);have h2:(gr x.f5.length).length≤10:=dR _ (by have:=h.n5;omega);have h3:=jF dI 3082 x.f2 (fun b hb=>by have:=pG b (by have:=h.s2 b hb;omega);have:=h.s2 b hb;omega);have h4:=jF jN 3090 x.f5 (fun f hf=>by
  have:=pG f.f1 (by have:=h.s5 f hf;omega);have:=h.s5 f hf;unfold jN;rw [List.length_append,dH];omega)
 have h5:x.f2.length*3082≤16*3082:=Nat.mul_le_mul_right _ h.n2;have h6:x.f5.length*3090≤16*3090:=Nat.mul_le_mul_right _ h.n5;omega
structure DS (s:Hs):Prop where
 self:s.self<16
 free:0≤s.free∧s.free≤1073741824
 spare:0≤s.spare∧s.spare≤1073741824
 tab:fY s.table=true∧s.table.length≤8192
 pairs:s.pairs.length≤32768∧oC s.table s.self none s.pairs=true
 ses:s.ses.length≤16∧iW none s.ses=true
 peers:s.peers.length≤16∧cJ s=true∧∀x∈s.peers,BH x
theorem lA (s:Hs) (h:ni s=true):DS s:=by
 unfold ni at h;split at h
 ·rename_i hh;split at h
  ·rename_i ht;split at h
   ·cases h
   ·rename_i hp;split at h
    ·rename_i hpw;split at h
     ·rename_i hsw;unfold oV at hh;split at hh
      ·cases hh
      ·split at hh
       ·cases hh
       ·split at hh
        ·cases hh
        ·split at hh
         ·cases hh
         ·split at hh
          ·cases hh
          ·have ht2:=ht;unfold fY at ht2;simp only [Bool.and_eq_true,decide_eq_true_eq] at ht2;have he:=h;unfold cJ at he;simp only [Bool.and_eq_true] at he;have hf:=of_decide_eq_true he.1.1;exact ⟨by omega,by omega,by omega,⟨ht,by omega⟩,⟨by omega,hpw⟩,⟨uU _ hsw,hsw⟩,⟨hf.2.1,h,yF _ _ _ he.1.2⟩⟩
     ·cases h
    ·cases h
  ·cases h
 ·cases h
theorem jG (s:Hs) (h:DS s):(dV s).length≤16777000:=by
 unfold dV fI;simp only [List.length_append,List.length_cons];have a1:(gr s.table.length).length≤10:=dR _ (by have:=h.tab.2;omega);have a2:(gr s.pairs.length).length≤10:=dR _ (by have:=h.pairs.1;omega);have a3:(gr s.ses.length).length≤10:=dR _ (by have:=h.ses.1;omega);have a4:(bu s.free.toNat).length≤10:=dR _ (by have:=h.free;omega);have a5:(bu s.spare.toNat).length≤10:=dR _ (by have:=h.spare;omega);have b1:=jF iR 9 s.table (fun x _=>by unfold iR;rw [List.length_append,dH];simp);have b2:=jF dY 82 s.pairs (fun p hp=>by
  have:=sR _ _ _ _ h.pairs.2 p hp;have:=pG p.f1 (by omega);unfold dY;rw [List.length_append,dH];omega)
 have b3:=jF ej 10 s.ses (fun x _=>by unfold ej;rw [List.length_cons,List.length_append,dH];simp);have b4:=jF cX 98804 s.peers (fun x hx=>ug x (h.peers.2.2 x hx));have c1:s.table.length*9≤8192*9:=Nat.mul_le_mul_right _ h.tab.2;have c2:s.pairs.length*82≤32768*82:=Nat.mul_le_mul_right _ h.pairs.1;have c3:s.ses.length*10≤16*10:=Nat.mul_le_mul_right _ h.ses.1;have c4:s.peers.length*98804≤16*98804:=Nat.mul_le_mul_right _ h.peers.1;omega
theorem cR {a b:List Int} (h:aq a) (k:aq b):aq (a++b):=fun c hc=>(List.mem_append.1 hc).elim (h c) (k c)
theorem fV {a:Int} {b:List Int} (h:0≤a∧a≤255) (k:aq b):aq (a::b):=fun c hc=>by
 rcases List.mem_cons.1 hc with rfl|hc
 ·exact h
 ·exact k c hc
theorem jR:aq []:=fun c hc=>by cases hc
theorem gU (n:Nat):aq (bu n):=s8 n
theorem jv (x:Int):aq (b8 x):=lY 8 _
theorem kD {l:List Int} (h:aq l):aq (dI l):=cR (gU _) h
theorem fD {α:Type} (f:α→List Int) (l:List α) (h:∀x∈l,aq (f x)):aq (l.flatMap f):=fun c hc=>by
 obtain ⟨x,hx,hc⟩:=List.mem_flatMap.1 hc;exact h x hx c hc
theorem pI {x:gX} (h:qQ x):aq (cX x):=
 cR (jv _) (cR (jv _) (cR (jv _) (cR (jv _) (cR (gU _) (cR (fD _ _ (fun b hb=>kD (h.y2 b hb))) (cR (gU _) (fD _ _ (fun f hf=>cR (jv _) (kD (h.y5 f hf).2)))))))))
theorem kG (s:Hs) (h:oO s) (hp:s.peers.length≤255):aq (dV s):=
 fV (by omega) (fV (by omega) (fV h.b0 (cR (gU _) (cR (fD _ _ (fun x hx=>cR (jv _) (fV (h.b1.2 x hx).2.2 jR))) (cR (gU _) (cR (fD _ _ (fun x hx=>cR (jv _) (kD (h.b2.2 x hx).2.2))) (cR (gU _) (cR (fD _ _ (fun x hx=>fV (h.b3.2 x hx).1 (cR (jv _) (fV (h.b3.2 x hx).2.2 jR)))) (cR (gU _) (cR (gU _) (fV (by omega) (fD _ _ (fun x hx=>pI (h.b6.2 x hx))))))))))))))
end Go.Proofs.YtpekmdpbfjdjkaaGreat.dO