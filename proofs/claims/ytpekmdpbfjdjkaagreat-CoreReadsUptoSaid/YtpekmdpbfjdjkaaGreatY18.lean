/- Part 18 of the proof that reading bytes answers as the document does. No condition. -/
import Derived.Test.YtpekmdpbfjdjkaaGreatY17
set_option maxHeartbeats 16000000
set_option maxRecDepth 100000
set_option linter.all false
namespace Go.Proofs.YtpekmdpbfjdjkaaGreat.dO
open Go Go.RowKit ag.ax ag.aV ag.aU aD fr iK cL plain fE
theorem rT {P:Program} {ops:Array Oper} {rest:List Oper} {o:Oper} {a:Act} {Q:Exit→Act→World→Prop} {W:World} (hN:o.dst=none) (hgd:o.guard=none) {t:TypeId} {p x:Operand} (ho:o.op = .store t p x) {g j:Nat} {cur cur':Array Value} {e:TypeId} {u y:Value}
 (haddr:a.eval p = .pointer (some ⟨g,j,none⟩)) (hx:a.eval x=u) (hh:W.heap[g]? = some (.cells cur e (0,0))) (hj:j<cur.size) (hc:u.cells.toList=[y]) (h1:y.oneCell'=true) (ht:(P.info? t).map (·.size)=some 1) (hcur:cur.setIfInBounds j y=cur')
 (h:∀W1,W1.heap[g]? = some (.cells cur' e (0,0))→W.grownBy W1 (some g)→wpList P ops Q rest a W1):wpList P ops Q (o::rest) a W:=by
 refine fm hgd fun K hK=>?_;have hrun:(Instr.storeAt t (.pointer (some ⟨g,j,none⟩)) u).run P W = .ok () (W.setCells g j [y]):=fy t u [y] hh hc ht (by simp only [List.length_singleton];omega) (fun q hq=>by rw [List.mem_singleton.1 hq];exact h1);unfold Oper.wp execOp;simp only [ho,haddr,hx,Sem.run_bind,Sem.run_pure,Result.andThen_ok,hrun];show K (a.put o.dst undef) _;rw [hN];exact hK _ _ (h _ (sO hh j y hcur) (fK W g j [y]))
theorem pH {P:Program} {ops:Array Oper} {rest:List Oper} {o:Oper} {a:Act} {Q:Exit→Act→World→Prop} {W:World} (hw:Region.wanted o (yielded ops a.tmps)=true) {t:TypeId} {p:Operand} (ho:o.op = .load t p) {g:Nat} {cs:Array Value} {e:TypeId} {d:TypeDesc}
 (haddr:a.eval p = .pointer (some ⟨g,0,none⟩)) (hh:W.heap[g]? = some (.cells cs e (0,0))) (hu:P.underlying t=some d) (hd:d.isRow=true) (hi:(P.info? t).map (·.size)=some cs.size)
 (h:wpList P ops Q rest (a.put o.dst (.agg cs)) W):wpList P ops Q (o::rest) a W:=by
 rw [wpList,if_pos hw];exact Or.inl (wp_load_mid t p ho g 0 haddr cs.toList d (fun j v hv=>by rw [fg,cell_of hh j];simpa using hv) hu hd (by simpa using hi) (by simpa using h))
def uC (l:List Int) (b:Hs × (List Int × Int)):Option Hs:=
 if b.2.2=0 then if b.2.1.length=4 then if (aZ 4 b.2).1=((eH (l.take (l.length - 4)):Nat):Int) then if ni b.1=true then some b.1 else none else none else none else none
theorem zg (l:List Int) (A:Option Addr) (c:Nat) (W:World) (hl:Kd.C (Kd.int .u8) W A l.length l) (hc:l.length≤c) (hL:l.length≤100000000) (hy:aq l) :
 Calls Tryz.prog 11 #[.slice A l.length c] W (sX W (lT l)):=by
 have hu30:=Tryz.underlying30;have hu59:=Tryz.underlying59;have hu62:=Tryz.underlying62;have hu76:=Tryz.underlying76;have HC:=aa hl;have HY:=aa hy;have hLi:(l.length:Int)≤100000000:=by omega
 generalize hO:lT l=o;have HO:=aa hO;clear hl hy hO;go_in;go_wp2_with fail;have RB0:=aa (aJ W (.cells hZ 30));have B0:=aa (ah (Below.refl _ W) (.cells hZ 30));have C0:=aa (Kd.eU HC.1 (.cells hZ 30));have RBS:=aa (Nat.le_refl W.heap.size);simp only [hZ] at RB0 B0 C0;generalize World.alloc W _=w1 at RB0 B0 C0 ⊢;generalize hrb:W.heap.size=rb at RB0 ⊢;replace RBS:=aa (show W.heap.size≤rb from kJ hrb);by_cases g0:(16777216:Int)<l.length
 ·have HO2:=aa (show none=o by rw [←HO.1,lT,if_pos g0]);have BE:=B0;refine (oe l A c w1 g0).mono ?_;rintro e w2 ⟨rfl,rfl⟩;go_wp2_with ((with_reducible refine gS 2 24 rfl ?_);refine sB hZ RB0.1 ?_;intro wz hW hG;have WZ:=aa (show wz.heap[rb]? = some (.cells hZ 30 (0,0)) from hW.1);have BZ:=aa (BE.1.grown hG.1 BE.1.size (fun k e=>by injection e with e;have:=RBS.1;omega)));refine l9 WZ.1 hu30 ?_;exact sX.no HO2.1 BZ.1
 refine (oG RT l A c w1 C0.1 g0 (by decide)).mono ?_;rintro e w2 ⟨br,rfl,hRd,hbr,hB⟩;have RBX:=aa ((hB.block rb (ak RB0.1)).trans RB0.1);have BE:=aa (B0.1.trans (hB.mono B0.1.size));have RS:=aa (show Rs W w2 W.heap.size br (l,0) from ⟨hRd,BE.1,Nat.le_trans B0.1.size hbr,BE.1.size,HY.1⟩);clear hRd hbr hB RB0;by_cases g1:(l.length:Int)<4
 ·have g1b:decide ((l.length:Int)<4)=true:=decide_eq_true g1;have HO2:=aa (show none=o by rw [←HO.1,lT,if_neg g0,if_pos g1]);clear g0 g1 HO;go_wp2_with ((with_reducible refine gS 2 24 rfl ?_);refine sB hZ RBX.1 ?_;intro wz hW hG;have WZ:=aa (show wz.heap[rb]? = some (.cells hZ 30 (0,0)) from hW.1);have BZ:=aa (BE.1.grown hG.1 BE.1.size (fun k e=>by injection e with e;have:=RBS.1;omega)));refine l9 WZ.1 hu30 ?_;exact sX.no HO2.1 BZ.1
 have g1b:decide ((l.length:Int)<4)=false:=decide_eq_false g1;go_wp2_with fail;refine (zR RS.1).mono ?_;rintro e w3 ⟨rfl,hs,hm⟩;have RS3:=aa hs;have RBX3:=aa (hm.at RBX.1 (by decide));have BE3:=aa hs.bel;clear hs hm RS RBX BE;by_cases g2:(aZ 1 (l,0)).1=192
 case neg=>
  have g2b:((aZ 1 (l,0)).1 != 192)=true:=by rw [mq];exact g2
  have HO2:=aa (show none=o by rw [←HO.1,lT,if_neg (by omega),if_neg (by omega),if_neg g2]);clear HO g2 g0 g1;go_wp2_with ((with_reducible refine gS 2 33 rfl ?_);refine sB hZ RBX3.1 ?_;intro wz hW hG;have WZ:=aa (show wz.heap[rb]? = some (.cells hZ 30 (0,0)) from hW.1);have BZ:=aa (BE3.1.grown hG.1 BE3.1.size (fun k e=>by injection e with e;have:=RBS.1;omega)));refine l9 WZ.1 hu30 ?_;exact sX.no HO2.1 BZ.1
 have g2b:((aZ 1 (l,0)).1 != 192)=false:=by rw [ci];exact g2
 go_wp2_with fail;refine (zR RS3.1).mono ?_;rintro e w4 ⟨rfl,hs,hm⟩;have RS4:=aa hs;have RBX4:=aa (hm.at RBX3.1 (by decide));have BE4:=aa hs.bel;clear hs hm RS3 RBX3 BE3;by_cases g3:(aZ 1 (aZ 1 (l,0)).2).1=1
 case neg=>
  have g3b:((aZ 1 (aZ 1 (l,0)).2).1 != 1)=true:=by rw [mq];exact g3
  have HO2:=aa (show none=o by rw [←HO.1,lT,if_neg (by omega),if_neg (by omega),if_pos g2,if_neg g3]);clear HO g2 g0 g1 g3;go_wp2_with ((with_reducible refine gS 2 33 rfl ?_);refine sB hZ RBX4.1 ?_;intro wz hW hG;have WZ:=aa (show wz.heap[rb]? = some (.cells hZ 30 (0,0)) from hW.1);have BZ:=aa (BE4.1.grown hG.1 BE4.1.size (fun k e=>by injection e with e;have:=RBS.1;omega)));refine l9 WZ.1 hu30 ?_;exact sX.no HO2.1 BZ.1
 have g3b:((aZ 1 (aZ 1 (l,0)).2).1 != 1)=false:=by rw [ci];exact g3
 have HF:=aa (show uC l (mI (aZ 1 (aZ 1 (l,0)).2).2)=o by rw [←HO.1,lT,if_neg (by omega),if_neg (by omega),if_pos g2,if_pos g3];rfl);have NL:=aa (show 4≤l.length by omega);clear HO g0;go_wp2_with fail;clear g2 g3 g2b g3b g1 g1b;have BY0:=aa RS4.1.Af;generalize (aZ 1 (aZ 1 (l,0)).2).2=s0 at RS4 HF BY0;refine (zR RS4.1).mono ?_;rintro e w5 ⟨rfl,hs,hm⟩;have RS5:=aa hs;have RBX5:=aa (hm.at RBX4.1 (by decide));have AB:=aa (nN RS4.1.Af);clear hs hm RS4 RBX4 BE4;generalize Ha:aZ 1 s0=a at RS5 AB ⊢;go_wp2_with fail;have HBX6:=aa (show (w5.alloc (.cells #[.int .u8 a.1, .slice none 0 0, .slice none 0 0, .slice none 0 0, .int .i64 0, .int .i64 0, .slice none 0 0] 30)).heap[w5.heap.size]? = some (.cells (hC a.1 (.slice none 0 0) (.slice none 0 0) (.slice none 0 0) 0 0 (.slice none 0 0)) 30 (0,0)) from aJ w5 (.cells #[.int .u8 a.1, .slice none 0 0, .slice none 0 0, .slice none 0 0, .int .i64 0, .int .i64 0, .slice none 0 0] 30));have RS6:=aa (RS5.1.grow (ah (Below.refl _ w5) (.cells #[.int .u8 a.1, .slice none 0 0, .slice none 0 0, .slice none 0 0, .int .i64 0, .int .i64 0, .slice none 0 0] 30)));have RBX6:=aa ((cm w5 (.cells #[.int .u8 a.1, .slice none 0 0, .slice none 0 0, .slice none 0 0, .int .i64 0, .int .i64 0, .slice none 0 0] 30) _ (ak RBX5.1)).trans RBX5.1);have HBN:=aa (show rb<w5.heap.size from ak RBX5.1);generalize World.alloc w5 _=w6 at HBX6 RS6 RBX6 ⊢;generalize w5.heap.size=hb at HBX6 HBN ⊢;clear RS5 RBX5;have BY6:=aa RS6.1.Af;refine (zY 8192 (by omega) RS6.1).mono ?_;rintro e w7 ⟨rfl,hs,hm⟩;have RS7:=aa hs;have RBX7:=aa (hm.at RBX6.1 (by decide));have HBX7:=aa (hm.at HBX6.1 (by decide));have K1:=aa (dJ 8192 a.2 BY6.1);clear hs hm RS6 RBX6 HBX6 BY6;generalize Hk1:bL 8192 a.2=k1 at RS7 K1 ⊢;obtain ⟨j1,hj1⟩:=Int.eq_ofNat_of_zero_le K1.1.1;have hj1b:(j1:Int)≤8192:=by have:=K1.1.2.1;omega
 rw [hj1];generalize hT1:eX j1 0 k1.2=T1;have TA:=aa (show (([]:List eW)++(eX j1 0 k1.2).1,(eX j1 0 k1.2).2)=T1 from hT1);have HT1:=aa (show eX k1.1.toNat 0 k1.2=T1 by rw [hj1];exact hT1);have JB:=aa (show j1≤8192 by omega);clear hT1 K1;go_wp2_with fail;go_loopw [7,8] (fun v7 v8 wr=>∃(j:Nat) (lo:Int) (s2:List Int × Int) (acc:List eW) (v:Value),v7 = .int .u64 lo∧v8 = .int .i64 j∧af (Rs W wr W.heap.size br s2)∧af (wr.heap[rb]? = some (.cells #[.int .u8 0, .slice none 0 0, .slice none 0 0, .slice none 0 0, .int .i64 0, .int .i64 0, .slice none 0 0] 30 (0,0)))∧af (wr.heap[hb]? = some (.cells (hC a.1 v (.slice none 0 0) (.slice none 0 0) 0 0 (.slice none 0 0)) 30 (0,0)))∧af (Kd.R jo 76 wr W.heap.size (fun _=>True) v acc)∧af ((acc++(eX j lo s2).1,(eX j lo s2).2)=T1)∧af (acc.length+j≤8192)) (fun _ v _=>(intOf v).toNat)
 case atStart=>exact ⟨j1,0,k1.2,[],_,rfl,rfl,RS7,RBX7,HBX7,⟨Kd.cY _ _ _ _ _⟩,TA,⟨by simpa using JB.1⟩⟩
 case round=>
  obtain ⟨j,lo,s2,acc,v,rfl,rfl,RS,RBX,HBX,R,TJ,QL⟩:=hrel;clear RS7 RBX7 HBX7 TA;generalize wr=wi at RS RBX HBX R ⊢;obtain ⟨Av,cv,rfl⟩:=Kd.aG R.1;have hjb:=QL.1;cases j with
  | succ j=>
   have hdec:wrap64 (((j+1:Nat):Int) - 1)=(j:Int):=by rw [IntWalk.wrap64_in _ (by omega)];omega
   have hdec2:IntKind.i64.wrap (((j+1:Nat):Int) - 1)=(j:Int):=by rw [aA _ (by omega)];omega
   have hjp:(0:Int)<((j+1:Nat):Int):=by omega
   go_wp2_with fail;refine (pZ RS.1).mono ?_;rintro e w8 ⟨rfl,hs,hm⟩;have RS8:=aa hs;have RBX8:=aa (hm.at RBX.1 (by decide));have HBX8:=aa (hm.at HBX.1 (by decide));have R8:=aa (dF R.1 hm (by decide));clear hs hm RS RBX HBX R;have TB:=aa (show (acc++(⟨lo,(aZ 8 s2).1,(aZ 1 (aZ 8 s2).2).1⟩::(eX j (IntKind.u64.wrap ((aZ 8 s2).1+1)) (aZ 1 (aZ 8 s2).2).2).1),(eX j (IntKind.u64.wrap ((aZ 8 s2).1+1)) (aZ 1 (aZ 8 s2).2).2).2)=T1 from TJ.1);clear TJ;generalize aZ 8 s2=x at RS8 TB ⊢;go_wp2_with fail;refine (zR RS8.1).mono ?_;rintro e w9 ⟨rfl,hs,hm⟩;have RS9:=aa hs;have RBX9:=aa (hm.at RBX8.1 (by decide));have HBX9:=aa (hm.at HBX8.1 (by decide));have R9:=aa (dF R8.1 hm (by decide));clear hs hm RS8 RBX8 HBX8 R8;generalize aZ 1 x.2=y at RS9 TB ⊢;have TC:=aa (show ((acc++[⟨lo,x.1,y.1⟩])++(eX j (IntKind.u64.wrap (x.1+1)) y.2).1,(eX j (IntKind.u64.wrap (x.1+1)) y.2).2)=T1 by rw [List.append_assoc];exact TB.1);clear TB;go_wp2_with (first
    | ((with_reducible refine az (N:=50) rfl ?_);have SBX:=aa (aJ w9 (.cells #[.int .u64 lo, .int .u64 x.1, .int .u8 y.1] 76));have RSA:=aa (RS9.1.grow (ah (Below.refl _ w9) (.cells #[.int .u64 lo, .int .u64 x.1, .int .u8 y.1] 76)));have RBXA:=aa ((cm w9 (.cells #[.int .u64 lo, .int .u64 x.1, .int .u8 y.1] 76) _ (ak RBX9.1)).trans RBX9.1);have HBXA:=aa ((cm w9 (.cells #[.int .u64 lo, .int .u64 x.1, .int .u8 y.1] 76) _ (ak HBX9.1)).trans HBX9.1);have RA:=aa (Kd.cM R9.1 (.cells #[.int .u64 lo, .int .u64 x.1, .int .u8 y.1] 76));have OV:=aa (fun k hk=>(mi R9.1 k hk).2);have SBS:=aa (ak HBX9.1);generalize World.alloc w9 _=wA at SBX RSA RBXA HBXA RA ⊢;generalize w9.heap.size=sb at SBX OV SBS ⊢;clear RS9 RBX9 HBX9 R9;have q1:wA.cell? ⟨hb,1,none⟩=some (.slice Av acc.length cv):=cell_of HBXA.1 1;have p0:wA.cell? ⟨sb,0,none⟩=some (.int .u64 lo):=cell_of SBX.1 0;have p1:wA.cell? ⟨sb,1,none⟩=some (.int .u64 x.1):=cell_of SBX.1 1;have p2:wA.cell? ⟨sb,2,none⟩=some (.int .u8 y.1):=cell_of SBX.1 2)
    | ((with_reducible refine aM (b:= .append) (xs:=#[.tmp 50, .tmp 52]) rfl ?_);at_builtin;refine Kd.cG jo (w0:=wA) W.heap.size rfl (.tmp 50) (.tmp 52) 23 76 (.agg #[.int .u64 0, .int .u64 0, .int .u8 0]) 24 rfl Tryz.underlying23 nF rfl (by decide) (by omega) (.slice Av acc.length cv) acc ⟨lo,x.1,y.1⟩ [.int .u64 lo, .int .u64 x.1, .int .u8 y.1] (fun _=>True) (fun _=>False) rfl rfl ?aP (fun _ h=>h.elim) (fun _ _=>trivial) ?aO ?aB ?aS ?aL ?_;(case aP=>exact nk _ _ _ _);(case aO=>exact RA.1);(case aB=>exact Below.refl _ _);(case aS=>exact RSA.1.b2);(case aL=>have:=QL.1;omega);intro v1 w10 h1 h2 h3 h4;obtain ⟨A1,k1_,hv⟩:=Kd.aG h1;rw [List.length_append,List.length_singleton] at hv;subst hv;have R10:=aa h1;have RS10:=aa (RSA.1.row h3 RA.1 (by decide) (by decide) (Nat.le_refl _));have MV10:=Mv.fB (ts:=[76]) h3 RA.1 (by simp);have RBX10:=aa (MV10.at RBXA.1 (by decide));have HBX10:=aa (MV10.at HBXA.1 (by decide));have SBX10:=aa ((h3.block sb (ak SBX.1) (fun e=>by have:=OV.1 sb e.symm;omega)).trans SBX.1);clear h1 h2 h3 h4 MV10)
    | ((with_reducible refine gS 54 53 rfl ?_);refine sC 1 (.slice A1 (acc.length+1) k1_) (hC a.1 (.slice A1 (acc.length+1) k1_) (.slice none 0 0) (.slice none 0 0) 0 0 (.slice none 0 0)) HBX10.1 ?_;intro w11 HBX11 hG;have RS11:=aa (RS10.1.set hG.1 HBX10.1 (by decide) (by decide) (by have:=RBS.1;have:=HBN.1;omega));have MV11:=Mv.bG (ts:=[30]) hG.1 HBX10.1 (by simp);have RBX11:=aa ((hG.1.block rb (ak RBX10.1) (fun e=>by injection e with e;have:=HBN.1;omega)).trans RBX10.1);have R11:=aa (eV R10.1 MV11 (by decide));have SBX11:=MV11.at SBX10.1 (by decide);have e1:w11.cell? ⟨sb,1,none⟩=some (.int .u64 x.1):=cell_of SBX11 1;clear MV11 SBX11))
   go_roundw
   case rel=>exact ⟨j,_,y.2,acc++[⟨lo,x.1,y.1⟩],_,rfl,by first|rfl|(rw [hdec]),RS11,RBX11,HBX11,R11,TC,⟨by rw [List.length_append];simp;omega⟩⟩
   case measure=>first|(simp [intOf];done)|(rw [hdec];show (j:Int).toNat<((j+1:Nat):Int).toNat;omega)|(show (j:Int).toNat<((j+1:Nat):Int).toNat;omega)
  | zero=>
   have T1e:=aa (show (acc,s2)=T1 by have h:=TJ.1;rw [eX,bM] at h;exact h);have BY6:=aa RS.1.Af;have KR1:=R;have hz2:wi.cell? ⟨hb,2,none⟩=some (.slice none 0 0):=cell_of HBX.1 2;clear TJ QL;go_wp2_with fail;refine (zY 32768 (by omega) RS.1).mono ?_;rintro e w12 ⟨rfl,hs,hm⟩;have RS12:=aa hs;have RBX12:=aa (hm.at RBX.1 (by decide));have HBX12:=aa (hm.at HBX.1 (by decide));have TR12:=aa (dF KR1.1 hm (by decide));have K2:=aa (dJ 32768 s2 BY6.1);clear hs hm RS RBX HBX KR1 R BY6 hz2;generalize Hk2:bL 32768 s2=k2 at RS12 K2 ⊢;obtain ⟨j2,hj2⟩:=Int.eq_ofNat_of_zero_le K2.1.1;have hj2b:(j2:Int)≤32768:=by have:=K2.1.2.1;omega
   rw [hj2];generalize hT2:cn oT j2 k2.2=T2;have TA2:=aa (show (([]:List iA)++(cn oT j2 k2.2).1,(cn oT j2 k2.2).2)=T2 from hT2);have HT2:=aa (show cn oT k2.1.toNat k2.2=T2 by rw [hj2];exact hT2);have JB2:=aa (show j2≤32768 by omega);clear hT2 K2;go_wp2_with fail;go_loopw [10] (fun v10 wr=>∃(j:Nat) (s3:List Int × Int) (ps:List iA) (vp:Value),v10 = .int .i64 j∧af (Rs W wr W.heap.size br s3)∧af (wr.heap[rb]? = some (.cells #[.int .u8 0, .slice none 0 0, .slice none 0 0, .slice none 0 0, .int .i64 0, .int .i64 0, .slice none 0 0] 30 (0,0)))∧af (wr.heap[hb]? = some (.cells (hC a.1 (.slice Av acc.length cv) vp (.slice none 0 0) 0 0 (.slice none 0 0)) 30 (0,0)))∧af (Kd.R jo 76 wr W.heap.size (fun _=>True) (.slice Av acc.length cv) acc)∧af (Kd.R Ee 59 wr W.heap.size (fun _=>True) vp ps)∧af ((ps++(cn oT j s3).1,(cn oT j s3).2)=T2)∧af (ps.length+j≤32768)) (fun v _=>(intOf v).toNat)
   case atStart=>exact ⟨j2,k2.2,[],_,rfl,RS12,RBX12,HBX12,TR12,⟨Kd.cY _ _ _ _ _⟩,TA2,⟨by simpa using JB2.1⟩⟩
   case round=>
    obtain ⟨j,s3,ps,vp,rfl,RS,RBX,HBX,RT1,R,TJ,QL⟩:=hrel;clear RS12 RBX12 HBX12 TR12 TA2;generalize wr=wl at RS RBX HBX RT1 R ⊢;obtain ⟨Ap,cp,rfl⟩:=Kd.aG R.1;have hjb2:=QL.1;cases j with
    | succ j=>
     have hdec:wrap64 (((j+1:Nat):Int) - 1)=(j:Int):=by rw [IntWalk.wrap64_in _ (by omega)];omega
     have hdec2:IntKind.i64.wrap (((j+1:Nat):Int) - 1)=(j:Int):=by rw [aA _ (by omega)];omega
     have hjp:(0:Int)<((j+1:Nat):Int):=by omega
     have c2:wl.cell? ⟨hb,2,none⟩=some (.slice Ap ps.length cp):=cell_of HBX.1 2;have Qd:=aa (RS.1.grow (Below.refl _ wl).drew);have RU:=aa (mi R.1);have RD:=aa (show Kd.R Ee 59 wl.drew W.heap.size (fun _=>True) (.slice Ap ps.length cp) ps from Kd.dc R.1);have RE:=aa (show Kd.R jo 76 wl.drew W.heap.size (fun _=>True) (.slice Av acc.length cv) acc from Kd.dc RT1.1);go_wp2_with fail;refine hY (fun w'=>w'.cell? ⟨hb,2,none⟩=some (.slice Ap ps.length cp)) 8 [(0,0),(1,1),(2,0),(4,0),(3,2),(5,2),(6,0),(7,2)] (by kernel_rfl) (by kernel_rfl) (fun _ _ _ _ _ h=>h) c2 ?_;iterate 1 (refine eF ?_;simp only [cS,Act.put])
     iterate 1 (refine aQ (v:=?_) rfl rfl ?_ ?_;rotate_left 1;(focus (intro w hSw;go_simp;try (with_reducible rfl)));simp only [cS,Act.put])
     iterate 2 (refine eF ?_;simp only [cS,Act.put])
     refine aT rfl ?_;go_wp2_with fail;refine (pZ Qd.1).mono ?_;rintro e w13 ⟨rfl,hs,hm⟩;have RS13:=aa hs;have RBX13:=aa (hm.at (show wl.drew.heap[rb]? = _ from RBX.1) (by decide));have HBX13:=aa (hm.at (show wl.drew.heap[hb]? = _ from HBX.1) (by decide));have RT13:=aa (dF RE.1 hm (by decide));have R13:=aa (dF RD.1 hm (by decide));have WW:=aa (show wl.heap.size≤w13.heap.size from hm.size);have WL:=aa RS.1.b2;have d2:w13.cell? ⟨hb,2,none⟩=some (.slice Ap ps.length cp):=cell_of HBX13.1 2;have TB:=aa (show (ps++(⟨(aZ 8 s3).1,(bX 64 (aZ 8 s3).2).1⟩::(cn oT j (bX 64 (aZ 8 s3).2).2).1),(cn oT j (bX 64 (aZ 8 s3).2).2).2)=T2 from TJ.1);clear hs hm RS RBX HBX RT1 R TJ Qd RD RE c2;generalize aZ 8 s3=x at RS13 TB ⊢;have BB1:=aa (eE 64 x.2 RS13.1.Af);go_wp2_with fail;refine bB.mk d2 (fun hSw=>?_);clear hSw d2;refine aT rfl ?_;go_wp2_with fail;refine (Dj 64 (by omega) RS13.1).mono ?_;rintro e w14 ⟨Ay,cy,rfl,hRy,hs,hm⟩;have RS14:=aa hs;have RBX14:=aa (hm.at RBX13.1 (by decide));have HBX14:=aa (hm.at HBX13.1 (by decide));have RT14:=aa (dF RT13.1 hm (by decide));have R14:=aa (dF R13.1 hm (by decide));have M14:=aa (show Ee.M w14 W.heap.size (fun k=>wl.heap.size≤k) ⟨x.1,(bX 64 x.2).1⟩ [.int .u64 x.1, .slice Ay (bX 64 x.2).1.length cy] from kT w14 W.heap.size (fun k=>wl.heap.size≤k) ⟨x.1,(bX 64 x.2).1⟩ (Kd.cI (Kd.bZ (Kd.bS hRy) (fun k hk=>Nat.le_trans WW.1 hk.2.1)) (Nat.le_trans WL.1 WW.1)));have O14:=aa (show ∀k,wl.heap.size≤k→True∧some k≠(Value.slice Ap ps.length cp).ownBlock from fun k hk=>⟨trivial,fun e=>by have:=(RU.1 k e.symm).2;omega⟩);have d2:w14.cell? ⟨hb,2,none⟩=some (.slice Ap ps.length cp):=cell_of HBX14.1 2;clear hs hm hRy RS13 RBX13 HBX13 RT13 R13;generalize bX 64 x.2=y at RS14 M14 TB BB1 ⊢;have TC:=aa (show ((ps++[⟨x.1,y.1⟩])++(cn oT j y.2).1,(cn oT j y.2).2)=T2 by rw [List.append_assoc];exact TB.1);clear TB;go_wp2_with fail;refine bB.mk d2 (fun hSw=>?_);clear hSw;iterate 1 (refine eF ?_;simp only [cS,Act.put])
     refine aT rfl ?_;go_wp2_with fail;refine bB.mk ((eT _ _ _ (ak HBX14.1)).trans d2) (fun hSw=>?_);clear hSw d2;refine bC ?_;simp only [aC,List.drop_zero];go_wp2_with (first
      | ((with_reducible refine aM (b:= .append) (xs:=#[.tmp 65, .tmp 71]) rfl ?_);at_builtin;refine Kd.cG Ee (w0:=w14) W.heap.size rfl (.tmp 65) (.tmp 71) 24 59 (.agg #[.int .u64 0, .slice none 0 0]) 32 rfl Tryz.underlying24 lE rfl (by decide) (by omega) (.slice Ap ps.length cp) ps ⟨x.1,y.1⟩ [.int .u64 x.1, .slice Ay y.1.length cy] (fun _=>True) (fun k=>wl.heap.size≤k) rfl rfl ?aP ?aK (fun _ _=>trivial) ?aO ?aB ?aS ?aL ?_;(case aP=>exact M14.1);(case aK=>exact O14.1);(case aO=>exact R14.1);(case aB=>exact Below.refl _ _);(case aS=>exact RS14.1.b2);(case aL=>have:=QL.1;omega);intro v1 w15 h1 h2 h3 h4;obtain ⟨A1,k1_,hv⟩:=Kd.aG h1;rw [List.length_append,List.length_singleton] at hv;subst hv;have R15:=aa h1;have RS15:=aa (RS14.1.row h3 R14.1 (by decide) (by decide) (Nat.le_refl _));have MV15:=Mv.fB (ts:=[59]) h3 R14.1 (by simp);have RBX15:=aa (MV15.at RBX14.1 (by decide));have HBX15:=aa (MV15.at HBX14.1 (by decide));have RT15:=aa (eV RT14.1 MV15 (by decide));clear h1 h2 h3 h4 MV15)
      | ((with_reducible refine gS 73 72 rfl ?_);refine sC 2 (.slice A1 (ps.length+1) k1_) (hC a.1 (.slice Av acc.length cv) (.slice A1 (ps.length+1) k1_) (.slice none 0 0) 0 0 (.slice none 0 0)) HBX15.1 ?_;intro w16 HBX16 hG;have RS16:=aa (RS15.1.set hG.1 HBX15.1 (by decide) (by decide) (by have:=RBS.1;have:=HBN.1;omega));have MV16:=Mv.bG (ts:=[30]) hG.1 HBX15.1 (by simp);have RBX16:=aa ((hG.1.block rb (ak RBX15.1) (fun e=>by injection e with e;have:=HBN.1;omega)).trans RBX15.1);have R16:=aa (eV R15.1 MV16 (by decide));have RT16:=aa (eV RT15.1 MV16 (by decide));clear MV16))
     go_roundw
     case rel=>exact ⟨j,y.2,ps++[⟨x.1,y.1⟩],_,by first|rfl|(rw [hdec]),RS16,RBX16,HBX16,RT16,R16,TC,⟨by rw [List.length_append];simp;omega⟩⟩
     case measure=>first|(simp [intOf];done)|(rw [hdec];show (j:Int).toNat<((j+1:Nat):Int).toNat;omega)|(show (j:Int).toNat<((j+1:Nat):Int).toNat;omega)
    | zero=>
     have T2e:=aa (show (ps,s3)=T2 by have h:=TJ.1;rw [cn,bM] at h;exact h)
     have BY6:=aa RS.1.Af
     have KR1:=R
     clear TJ QL
     go_wp2_with fail
     refine (zY 16 (by omega) RS.1).mono ?_
     rintro e w17 ⟨rfl,hs,hm⟩
     have RS17:=aa hs
     have RBX17:=aa (hm.at RBX.1 (by decide))
     have HBX17:=aa (hm.at HBX.1 (by decide))
     have RT17:=aa (dF RT1.1 hm (by decide))
     have RP17:=aa (dF KR1.1 hm (by decide))
     have K3:=aa (dJ 16 s3 BY6.1)
     clear hs hm RS RBX HBX KR1 R BY6 RT1
     generalize Hk3:bL 16 s3=k3 at RS17 K3 ⊢
     obtain ⟨j3,hj3⟩:=Int.eq_ofNat_of_zero_le K3.1.1
     have hj3b:(j3:Int)≤16:=by have:=K3.1.2.1;omega
     rw [hj3]
     generalize hT3:cn pY j3 k3.2=T3
     have TA3:=aa (show (([]:List jx)++(cn pY j3 k3.2).1,(cn pY j3 k3.2).2)=T3 from hT3)
     have HT3:=aa (show cn pY k3.1.toNat k3.2=T3 by rw [hj3];exact hT3)
     have JB3:=aa (show j3≤16 by omega)
     clear hT3 K3
     go_wp2_with fail
     go_loopw [11] (fun v11 wr=>∃(j:Nat) (s4:List Int × Int) (xs:List jx) (vx:Value),v11 = .int .i64 j∧af (Rs W wr W.heap.size br s4)∧af (wr.heap[rb]? = some (.cells #[.int .u8 0, .slice none 0 0, .slice none 0 0, .slice none 0 0, .int .i64 0, .int .i64 0, .slice none 0 0] 30 (0,0)))∧af (wr.heap[hb]? = some (.cells (hC a.1 (.slice Av acc.length cv) (.slice Ap ps.length cp) vx 0 0 (.slice none 0 0)) 30 (0,0)))∧af (Kd.R jo 76 wr W.heap.size (fun _=>True) (.slice Av acc.length cv) acc)∧af (Kd.R Ee 59 wr W.heap.size (fun _=>True) (.slice Ap ps.length cp) ps)∧af (Kd.R mg 62 wr W.heap.size (fun _=>True) vx xs)∧af ((xs++(cn pY j s4).1,(cn pY j s4).2)=T3)∧af (xs.length+j≤16)) (fun v _=>(intOf v).toNat)
     case atStart=>exact ⟨j3,k3.2,[],_,rfl,RS17,RBX17,HBX17,RT17,RP17,⟨Kd.cY _ _ _ _ _⟩,TA3,⟨by simpa using JB3.1⟩⟩
     case round=>
      obtain ⟨j,s4,xs,vx,rfl,RS,RBX,HBX,RT1,RP1,R,TJ,QL⟩:=hrel
      clear RS17 RBX17 HBX17 RT17 RP17 TA3
      generalize wr=wm at RS RBX HBX RT1 RP1 R ⊢
      obtain ⟨Ax,cx,rfl⟩:=Kd.aG R.1
      have hjb3:=QL.1
      cases j with
      | succ j=>
       have hdec:wrap64 (((j+1:Nat):Int) - 1)=(j:Int):=by rw [IntWalk.wrap64_in _ (by omega)];omega
       have hdec2:IntKind.i64.wrap (((j+1:Nat):Int) - 1)=(j:Int):=by rw [aA _ (by omega)];omega
       have hjp:(0:Int)<((j+1:Nat):Int):=by omega
       have c3:wm.cell? ⟨hb,3,none⟩=some (.slice Ax xs.length cx):=cell_of HBX.1 3;have Qd:=aa (RS.1.grow (Below.refl _ wm).drew);have RD:=aa (show Kd.R mg 62 wm.drew W.heap.size (fun _=>True) (.slice Ax xs.length cx) xs from Kd.dc R.1);have RTD:=aa (show Kd.R jo 76 wm.drew W.heap.size (fun _=>True) (.slice Av acc.length cv) acc from Kd.dc RT1.1);have RPD:=aa (show Kd.R Ee 59 wm.drew W.heap.size (fun _=>True) (.slice Ap ps.length cp) ps from Kd.dc RP1.1);have TB:=aa (show (xs++(⟨(aZ 1 s4).1,(aZ 8 (aZ 1 s4).2).1,(aZ 1 (aZ 8 (aZ 1 s4).2).2).1⟩::(cn pY j (aZ 1 (aZ 8 (aZ 1 s4).2).2).2).1),(cn pY j (aZ 1 (aZ 8 (aZ 1 s4).2).2).2).2)=T3 from TJ.1);clear TJ;go_wp2_with fail;refine hY (fun w'=>w'.cell? ⟨hb,3,none⟩=some (.slice Ax xs.length cx)) 10 [(0,0),(1,1),(2,0),(4,0),(6,0),(3,2),(5,2),(7,2),(8,0),(9,2)] (by kernel_rfl) (by kernel_rfl) (fun _ _ _ _ _ h=>h) c3 ?_;iterate 1 (refine eF ?_;simp only [cS,Act.put])
       iterate 1 (refine aQ (v:=?_) rfl rfl ?_ ?_;rotate_left 1;(focus (intro w hSw;go_simp;try (with_reducible rfl)));simp only [cS,Act.put])
       iterate 3 (refine eF ?_;simp only [cS,Act.put])
       refine aT rfl ?_;go_wp2_with fail;refine (zR Qd.1).mono ?_;rintro e w18 ⟨rfl,hs,hm⟩;have RS18:=aa hs;have RBX18:=aa (hm.at (show wm.drew.heap[rb]? = _ from RBX.1) (by decide));have HBX18:=aa (hm.at (show wm.drew.heap[hb]? = _ from HBX.1) (by decide));have RT18:=aa (dF RTD.1 hm (by decide));have RP18:=aa (dF RPD.1 hm (by decide));have R18:=aa (dF RD.1 hm (by decide));clear hs hm RS RBX HBX RT1 RP1 R Qd RTD RPD RD c3;have d18:w18.cell? ⟨hb,3,none⟩=some (.slice Ax xs.length cx):=cell_of HBX18.1 3;generalize aZ 1 s4=x at RS18 TB ⊢;go_wp2_with fail;refine bB.mk d18 (fun hSw=>?_);clear hSw;refine aT rfl ?_;go_wp2_with fail;refine (pZ RS18.1).mono ?_;rintro e w19 ⟨rfl,hs,hm⟩;have RS19:=aa hs;have RBX19:=aa (hm.at RBX18.1 (by decide));have HBX19:=aa (hm.at HBX18.1 (by decide));have RT19:=aa (dF RT18.1 hm (by decide));have RP19:=aa (dF RP18.1 hm (by decide));have R19:=aa (dF R18.1 hm (by decide));clear hs hm RS18 RBX18 HBX18 RT18 RP18 R18 d18;have d19:w19.cell? ⟨hb,3,none⟩=some (.slice Ax xs.length cx):=cell_of HBX19.1 3;generalize aZ 8 x.2=y at RS19 TB ⊢;go_wp2_with fail;refine bB.mk d19 (fun hSw=>?_);clear hSw;refine aT rfl ?_;go_wp2_with fail;refine (zR RS19.1).mono ?_;rintro e w20 ⟨rfl,hs,hm⟩;have RS20:=aa hs;have RBX20:=aa (hm.at RBX19.1 (by decide));have HBX20:=aa (hm.at HBX19.1 (by decide));have RT20:=aa (dF RT19.1 hm (by decide));have RP20:=aa (dF RP19.1 hm (by decide));have R20:=aa (dF R19.1 hm (by decide));clear hs hm RS19 RBX19 HBX19 RT19 RP19 R19 d19;have d20:w20.cell? ⟨hb,3,none⟩=some (.slice Ax xs.length cx):=cell_of HBX20.1 3;generalize aZ 1 y.2=z at RS20 TB ⊢;go_wp2_with fail;refine bB.mk d20 (fun hSw=>?_);clear hSw;have TC:=aa (show ((xs++[⟨x.1,y.1,z.1⟩])++(cn pY j z.2).1,(cn pY j z.2).2)=T3 by rw [List.append_assoc];exact TB.1);clear TB;iterate 1 (refine eF ?_;simp only [cS,Act.put])
       refine aT rfl ?_;go_wp2_with fail;refine bB.mk ((eT _ _ _ (ak HBX20.1)).trans d20) (fun hSw=>?_);clear hSw d20;refine bC ?_;simp only [aC,List.drop_zero];go_wp2_with (first
        | ((with_reducible refine aM (b:= .append) (xs:=#[.tmp 81, .tmp 89]) rfl ?_);at_builtin;refine Kd.cG mg (w0:=w20) W.heap.size rfl (.tmp 81) (.tmp 89) 25 62 (.agg #[.int .u8 0, .int .u64 0, .int .u8 0]) 24 rfl Tryz.underlying25 mr rfl (by decide) (by omega) (.slice Ax xs.length cx) xs ⟨x.1,y.1,z.1⟩ [.int .u8 x.1, .int .u64 y.1, .int .u8 z.1] (fun _=>True) (fun _=>False) rfl rfl ?aP (fun _ h=>h.elim) (fun _ _=>trivial) ?aO ?aB ?aS ?aL ?_;(case aP=>exact mX _ _ _ _);(case aO=>exact R20.1);(case aB=>exact Below.refl _ _);(case aS=>exact RS20.1.b2);(case aL=>have:=QL.1;omega);intro v1 w21 h1 h2 h3 h4;obtain ⟨A1,k1_,hv⟩:=Kd.aG h1;rw [List.length_append,List.length_singleton] at hv;subst hv;have R21:=aa h1;have RS21:=aa (RS20.1.row h3 R20.1 (by decide) (by decide) (Nat.le_refl _));have MV21:=Mv.fB (ts:=[62]) h3 R20.1 (by simp);have RBX21:=aa (MV21.at RBX20.1 (by decide));have HBX21:=aa (MV21.at HBX20.1 (by decide));have RT21:=aa (eV RT20.1 MV21 (by decide));have RP21:=aa (eV RP20.1 MV21 (by decide));clear h1 h2 h3 h4 MV21)
        | ((with_reducible refine gS 91 90 rfl ?_);refine sC 3 (.slice A1 (xs.length+1) k1_) (hC a.1 (.slice Av acc.length cv) (.slice Ap ps.length cp) (.slice A1 (xs.length+1) k1_) 0 0 (.slice none 0 0)) HBX21.1 ?_;intro w22 HBX22 hG;have RS22:=aa (RS21.1.set hG.1 HBX21.1 (by decide) (by decide) (by have:=RBS.1;have:=HBN.1;omega));have MV22:=Mv.bG (ts:=[30]) hG.1 HBX21.1 (by simp);have RBX22:=aa ((hG.1.block rb (ak RBX21.1) (fun e=>by injection e with e;have:=HBN.1;omega)).trans RBX21.1);have R22:=aa (eV R21.1 MV22 (by decide));have RT22:=aa (eV RT21.1 MV22 (by decide));have RP22:=aa (eV RP21.1 MV22 (by decide));clear MV22))
       go_roundw
       case rel=>exact ⟨j,z.2,xs++[⟨x.1,y.1,z.1⟩],_,by first|rfl|(rw [hdec]),RS22,RBX22,HBX22,RT22,RP22,R22,TC,⟨by rw [List.length_append];simp;omega⟩⟩
       case measure=>first|(simp [intOf];done)|(rw [hdec];show (j:Int).toNat<((j+1:Nat):Int).toNat;omega)|(show (j:Int).toNat<((j+1:Nat):Int).toNat;omega)
      | zero=>
       have T3e:=aa (show (xs,s4)=T3 by have h:=TJ.1;rw [cn,bM] at h;exact h)
       have RS30:=RS
       have RBX30:=RBX
       have HBX30:=HBX
       have RT30:=RT1
       have RP30:=RP1
       have RX30:=R
       clear RS RBX HBX RT1 RP1 R TJ QL
       go_wp2_with fail
       have BY30:=aa RS30.1.Af
       refine (zY 1073741824 (by omega) RS30.1).mono ?_
       rintro e w31 ⟨rfl,hs,hm⟩
       have RS31:=aa hs
       have RBX31:=aa (hm.at RBX30.1 (by decide))
       have HBX31:=aa (hm.at HBX30.1 (by decide))
       have RT31:=aa (dF RT30.1 hm (by decide))
       have RP31:=aa (dF RP30.1 hm (by decide))
       have RX31:=aa (dF RX30.1 hm (by decide))
       clear hs hm RS30 RBX30 HBX30 RT30 RP30 RX30 BY30
       generalize Hf:bL 1073741824 s4=f at RS31 ⊢
       go_wp2_with ((with_reducible refine gS 94 93 rfl ?_);refine sC 4 (.int .i64 f.1) (hC a.1 (.slice Av acc.length cv) (.slice Ap ps.length cp) (.slice Ax xs.length cx) f.1 0 (.slice none 0 0)) HBX31.1 ?_;intro w32 HBX32 hG;have RS32:=aa (RS31.1.set hG.1 HBX31.1 (by decide) (by decide) (by have:=RBS.1;have:=HBN.1;omega));have MV32:=Mv.bG (ts:=[30]) hG.1 HBX31.1 (by simp);have RBX32:=aa ((hG.1.block rb (ak RBX31.1) (fun e=>by injection e with e;have:=HBN.1;omega)).trans RBX31.1);have RX32:=aa (eV RX31.1 MV32 (by decide));have RT32:=aa (eV RT31.1 MV32 (by decide));have RP32:=aa (eV RP31.1 MV32 (by decide));clear MV32)
       have BY32:=aa RS32.1.Af
       refine (zY 1073741824 (by omega) RS32.1).mono ?_
       rintro e w33 ⟨rfl,hs,hm⟩
       have RS33:=aa hs
       have RBX33:=aa (hm.at RBX32.1 (by decide))
       have HBX33:=aa (hm.at HBX32.1 (by decide))
       have RT33:=aa (dF RT32.1 hm (by decide))
       have RP33:=aa (dF RP32.1 hm (by decide))
       have RX33:=aa (dF RX32.1 hm (by decide))
       clear hs hm RS32 RBX32 HBX32 RT32 RP32 RX32 BY32
       generalize Hg:bL 1073741824 f.2=g at RS33 ⊢
       go_wp2_with ((with_reducible refine gS 97 96 rfl ?_);refine sC 5 (.int .i64 g.1) (hC a.1 (.slice Av acc.length cv) (.slice Ap ps.length cp) (.slice Ax xs.length cx) f.1 g.1 (.slice none 0 0)) HBX33.1 ?_;intro w34 HBX34 hG;have RS34:=aa (RS33.1.set hG.1 HBX33.1 (by decide) (by decide) (by have:=RBS.1;have:=HBN.1;omega));have MV34:=Mv.bG (ts:=[30]) hG.1 HBX33.1 (by simp);have RBX34:=aa ((hG.1.block rb (ak RBX33.1) (fun e=>by injection e with e;have:=HBN.1;omega)).trans RBX33.1);have RX34:=aa (eV RX33.1 MV34 (by decide));have RT34:=aa (eV RT33.1 MV34 (by decide));have RP34:=aa (eV RP33.1 MV34 (by decide));clear MV34)
       have BY34:=aa RS34.1.Af
       have S34:=aa RS34.1.b2
       refine (wD W w34 W.heap.size br g.2 RS34.1).mono ?_
       rintro e w35 ⟨v6,rfl,hr6,hs,hm⟩
       have RS35:=aa hs
       have RBX35:=aa (hm.at RBX34.1 (by decide))
       have HBX35:=aa (hm.at HBX34.1 (by decide))
       have RT35:=aa (dF RT34.1 hm (by decide))
       have RP35:=aa (dF RP34.1 hm (by decide))
       have RX35:=aa (dF RX34.1 hm (by decide))
       have RE35:=aa (Kd.cI hr6 S34.1)
       clear hs hm hr6 RS34 RBX34 HBX34 RT34 RP34 RX34 BY34
       generalize Hen:pX g.2=en at RS35 RE35 ⊢
       obtain ⟨Ae,ce,rfl⟩:=Kd.aG RE35.1
       have HB:=aa (show mI s0=(⟨a.1,acc,ps,xs,f.1,g.1,en.1⟩,en.2) by
        unfold mI;simp only [Ha,Hk1];rw [HT1.1,←T1e.1];simp only [Hk2];rw [HT2.1,←T2e.1];simp only [Hk3];rw [HT3.1,←T3e.1];simp only [Hf,Hg,Hen])
       have HF2:=aa (show uC l (⟨a.1,acc,ps,xs,f.1,g.1,en.1⟩,en.2)=o by rw [←HB.1];exact HF.1)
       have HSB:=aa (show oO ⟨a.1,acc,ps,xs,f.1,g.1,en.1⟩ by have h:=(rR s0 BY0.1).1;rw [HB.1] at h;exact h)
       go_wp2_with ((with_reducible refine gS 100 99 rfl ?_);refine rT (j:=6) (u:= .agg #[.slice Ae en.1.length ce]) (y:= .slice Ae en.1.length ce) (cur':=hC a.1 (.slice Av acc.length cv) (.slice Ap ps.length cp) (.slice Ax xs.length cx) f.1 g.1 (.slice Ae en.1.length ce)) rfl rfl (t:=28) (p:= .tmp 100) (x:= .tmp 99) rfl ?addr ?ex HBX35.1 ?hj rfl ?h1 ?ht rfl ?_;(case addr=>rfl);(case ex=>rfl);(case h1=>rfl);(case hj=>exact (by decide:6<7));(case ht=>kernel_rfl);intro w36 hW hG;have RS36:=aa (RS35.1.set hG HBX35.1 (by decide) (by decide) (by have:=RBS.1;have:=HBN.1;omega));have MV36:=Mv.bG (ts:=[30]) hG HBX35.1 (by simp);have RBX36:=aa ((hG.block rb (ak RBX35.1) (fun e=>by injection e with e;have:=HBN.1;omega)).trans RBX35.1);have HBX36:=aa hW;have RX36:=aa (eV RX35.1 MV36 (by decide));have RT36:=aa (eV RT35.1 MV36 (by decide));have RP36:=aa (eV RP35.1 MV36 (by decide));have RE36:=aa (eV RE35.1 MV36 (by decide));clear hW hG MV36)
       have SM:=aa (show zw w36 W.heap.size ⟨a.1,acc,ps,xs,f.1,g.1,en.1⟩ (.slice Av acc.length cv) (.slice Ap ps.length cp) (.slice Ax xs.length cx) (.slice Ae en.1.length ce) from ⟨RT36.1,RP36.1,RX36.1,RE36.1⟩)
       clear RS35 RBX35 HBX35 RT35 RP35 RX35 RE35 RT36 RP36 RX36 RE36 RBX31 RBX33
       have BE36:=aa RS36.1.bel
       have EC:=aa (fun (n:Nat)=>Di (RS36.1.grow (ai (Below.refl _ w36) n)))
       have LC:=aa (fun (n:Nat)=>sy RT br en.2.1 en.2.2 (w36.drewN n) (RS36.1.grow (ai (Below.refl _ w36) n)).at_)
       have DN:=aa (fun (n:Nat)=>(show (w36.drewN n).heap[rb]? = some (.cells #[.int .u8 0, .slice none 0 0, .slice none 0 0, .slice none 0 0, .int .i64 0, .int .i64 0, .slice none 0 0] 30 (0,0)) from RBX36.1))
       by_cases g5:en.2.2=0
       case neg=>
        have g5b:(en.2.2 != 0)=true:=by rw [mq];exact g5
        have HO2:=aa (show none=o by rw [←HF2.1,uC,if_neg g5])
        clear HF2 g5
        go_quiet ((go_at_call 44;exact dA ((EC.1 _).mono fun _ _ h=>h)))
        have RBQ:=aa (DN.1 nq)
        have BQ:=aa (ai BE36.1 nq)
        generalize w36.drewN nq=w37 at RBQ BQ ⊢
        go_wp2_with ((with_reducible refine gS 2 125 rfl ?_);refine sB hZ RBQ.1 ?_;intro wz hW hG;have WZ:=aa (show wz.heap[rb]? = some (.cells hZ 30 (0,0)) from hW.1);have BZ:=aa (BQ.1.grown hG.1 BQ.1.size (fun k e=>by injection e with e;have:=RBS.1;omega)))
        refine l9 WZ.1 hu30 ?_
        exact sX.no HO2.1 BZ.1
       have g5b:(en.2.2 != 0)=false:=by rw [ci];exact g5
       by_cases g6:en.2.1.length=4
       case neg=>
        have g6b:((en.2.1.length:Int) != 4)=true:=by rw [mq];omega
        have HO2:=aa (show none=o by rw [←HF2.1,uC,if_pos g5,if_neg g6])
        clear HF2 g5 g6
        go_quiet (first|(go_at_call 44;exact dA ((EC.1 _).mono fun _ _ h=>h))|(go_at_call 45;exact dA ((LC.1 _).mono fun _ _ h=>h)))
        have RBQ:=aa (DN.1 nq)
        have BQ:=aa (ai BE36.1 nq)
        generalize w36.drewN nq=w37 at RBQ BQ ⊢
        go_wp2_with ((with_reducible refine gS 2 125 rfl ?_);refine sB hZ RBQ.1 ?_;intro wz hW hG;have WZ:=aa (show wz.heap[rb]? = some (.cells hZ 30 (0,0)) from hW.1);have BZ:=aa (BQ.1.grown hG.1 BQ.1.size (fun k e=>by injection e with e;have:=RBS.1;omega)))
        refine l9 WZ.1 hu30 ?_
        exact sX.no HO2.1 BZ.1
       have g6b:((en.2.1.length:Int) != 4)=false:=by rw [ci];omega
       have HF3:=aa (show (if (aZ 4 en.2).1=((eH (l.take (l.length - 4)):Nat):Int) then if ni ⟨a.1,acc,ps,xs,f.1,g.1,en.1⟩=true then some ⟨a.1,acc,ps,xs,f.1,g.1,en.1⟩ else none else none)=o by rw [←HF2.1,uC,if_pos g5,if_pos g6])
       clear HF2 g5 g6
       have n4:=NL.1
       have e4:(l.length:Int) - 4=((l.length - 4:Nat):Int):=by omega
       have HN:=aa (show l.length - 4≤l.length by omega)
       have C36:=aa (fun (n:Nat)=>Kd.aN HC.1 (Below.trans BE36.1 (ai (Below.refl _ w36) n)))
       generalize hm4:l.length - 4=m at HN e4 HF3
       have w4:IntKind.i64.wrap ((l.length:Int) - 4)=(m:Int):=by rw [e4];exact aA _ (by omega)
       have w4b:wrap64 ((l.length:Int) - 4)=(m:Int):=by rw [e4];exact IntWalk.wrap64_in _ (by omega)
       have hwm:IntKind.i64.wrap (m:Int)=(m:Int):=aA _ (by have:=HN.1;omega)
       have m1:(m:Int)≤(c:Int):=by have:=HN.1;omega
       have m2:m≤c:=by have:=HN.1;omega
       have RS36d:=aa (show Rs W w36.drew W.heap.size br en.2 from RS36.1.grow (ai (Below.refl _ w36) 1))
       have RBX36d:=aa (DN.1 1)
       have SMd:=aa (SM.1.mv (us:=[]) (Mv.cH (ai (Below.refl _ w36) 1)) (by decide) (by decide) (by decide) (by decide) (by decide) (by decide) (by decide))
       refine hY (fun _=>True) 16 [(0,0),(1,2),(2,0),(3,0),(4,0),(5,2),(6,0),(7,0),(8,0),(9,0),(11,0),(12,0),(13,0),(14,0),(15,0),(10,2)] (by kernel_rfl) (by kernel_rfl) (fun _ _ _ _ _ h=>h) trivial ?_
       iterate 1 (refine eF ?_;simp only [cS,Act.put])
       refine aT rfl ?_
       go_wp2_with fail
       refine (Di RS36d.1).mono ?_
       rintro e w37 ⟨rfl,rfl⟩
       go_wp2_with fail
       refine bB.mk trivial (fun _=>?_)
       iterate 3 (refine eF ?_;simp only [cS,Act.put])
       refine aT rfl ?_
       go_wp2_with fail
       refine (sy RT br en.2.1 en.2.2 w36.drew RS36d.1.at_).mono ?_
       rintro e w37 ⟨rfl,rfl⟩
       go_wp2_with fail
       refine bB.mk trivial (fun _=>?_)
       iterate 9 (refine eF ?_;simp only [cS,Act.put])
       refine aT rfl ?_
       go_wp2_with fail
       refine (Dd RS36d.1).mono ?_
       rintro e w38 ⟨rfl,hs,hm⟩
       have RS38:=aa hs
       have RBX38:=aa (hm.at RBX36d.1 (by decide))
       have HBX38:=aa (hm.at (show w36.drew.heap[hb]? = _ from HBX36.1) (by decide))
       have SM38:=aa (SMd.1.mv hm (by decide) (by decide) (by decide) (by decide) (by decide) (by decide) (by decide))
       have BE38:=aa hs.bel
       have C38:=aa (Kd.lq (Kd.aN HC.1 (BE38.1)) (m:=m) HN.1)
       clear hs hm RS36 RS36d RBX36 RBX36d SM SMd HBX36 EC LC DN C36 S34
       generalize Hsum:(aZ 4 en.2).1=sm at HF3 ⊢
       go_wp2_with fail
       refine bB.mk trivial (fun _=>?_)
       refine bC ?_
       simp only [aC,List.drop_zero]
       have hlen:(l.take m).length=m:=by rw [List.length_take];exact Nat.min_eq_left HN.1
       have CW:=zN A c (l.take m) w38 (C38.1) (by rw [hlen];exact m2) (by rw [hlen];have:=HN.1;omega) (fun x hx=>HY.1 x (List.mem_of_mem_take hx))
       rw [hlen] at CW
       replace CW:=aa CW
       clear hlen C38
       generalize hsu:((eH (l.take m):Nat):Int)=su at HF3 CW
       go_wp2_with fail
       refine CW.1.mono ?_
       rintro e w39 ⟨rfl,hD9⟩
       have MV9:=Mv.cH (ts:=[]) hD9.below
       have RBX39:=aa (MV9.at RBX38.1 (by decide))
       have HBX39:=aa (MV9.at HBX38.1 (by decide))
       have SM39:=aa (SM38.1.mv MV9 (by decide) (by decide) (by decide) (by decide) (by decide) (by decide) (by decide))
       have BE39:=aa (BE38.1.trans (hD9.below.mono BE38.1.size))
       clear MV9 hD9 CW RBX38 HBX38 SM38 BE38 RS38
       by_cases g7:sm=su
       case neg=>
        have g7b:(sm != su)=true:=by rw [mq];exact g7
        have HO2:=aa (show none=o by rw [←HF3.1,if_neg g7])
        clear HF3 g7
        go_wp2_with ((with_reducible refine gS 2 125 rfl ?_);refine sB hZ RBX39.1 ?_;intro wz hW hG;have WZ:=aa (show wz.heap[rb]? = some (.cells hZ 30 (0,0)) from hW.1);have BZ:=aa (BE39.1.grown hG.1 BE39.1.size (fun k e=>by injection e with e;have:=RBS.1;omega)))
        refine l9 WZ.1 hu30 ?_
        exact sX.no HO2.1 BZ.1
       have g7b:(sm != su)=false:=by rw [ci];exact g7
       have WF:=mK ⟨a.1,acc,ps,xs,f.1,g.1,en.1⟩ Av Ap Ax Ae cv cp cx ce w39 ⟨(Kd.bI SM39.1.r1).2.2,(Kd.bI SM39.1.r1).2.1,(Kd.bI SM39.1.r2).2.2,(Kd.bI SM39.1.r2).2.1,(Kd.bI SM39.1.r3).2.2,(Kd.bI SM39.1.r3).2.1,(Kd.bI SM39.1.r6).2.2,(Kd.bI SM39.1.r6).2.1⟩ HSB.1
       have HF4:=(show (if ni ⟨a.1,acc,ps,xs,f.1,g.1,en.1⟩=true then some ⟨a.1,acc,ps,xs,f.1,g.1,en.1⟩ else none)=o by rw [←HF3.1,if_pos g7])
       clear HF3 g7 HSB
       generalize ni ⟨a.1,acc,ps,xs,f.1,g.1,en.1⟩=wb at WF HF4
       replace WF:=aa (show Calls Tryz.prog 23 #[.agg (hC a.1 (.slice Av acc.length cv) (.slice Ap ps.length cp) (.slice Ax xs.length cx) f.1 g.1 (.slice Ae en.1.length ce))] w39 (rV w39 wb) from WF)
       replace HF4:=aa HF4
       go_wp2_with ((with_reducible refine az (N:=121) rfl ?_);refine pH rfl (t:=30) (p:= .tmp 6) rfl (g:=hb) rfl HBX39.1 hu30 rfl (by kernel_rfl) ?_)
       refine WF.1.mono ?_
       rintro e w40 ⟨rfl,hB⟩
       have MV10:=Mv.cH (ts:=[]) hB
       have RBX40:=aa (MV10.at RBX39.1 (by decide))
       have HBX40:=aa (MV10.at HBX39.1 (by decide))
       have SM40:=aa (SM39.1.mv MV10 (by decide) (by decide) (by decide) (by decide) (by decide) (by decide) (by decide))
       have BE40:=aa (BE39.1.trans (hB.mono BE39.1.size))
       clear MV10 hB WF RBX39 HBX39 SM39 BE39
       cases wb with
       | false=>
        have HO2:=aa (show none=o by rw [←HF4.1,if_neg (by decide)]);clear HF4;go_wp2_with ((with_reducible refine gS 2 125 rfl ?_);refine sB hZ RBX40.1 ?_;intro wz hW hG;have WZ:=aa (show wz.heap[rb]? = some (.cells hZ 30 (0,0)) from hW.1);have BZ:=aa (BE40.1.grown hG.1 BE40.1.size (fun k e=>by injection e with e;have:=RBS.1;omega)));refine l9 WZ.1 hu30 ?_;exact sX.no HO2.1 BZ.1
       | true=>
        have HO2:=aa (show some _=o by rw [←HF4.1,if_pos rfl]);clear HF4;go_wp2_with (first
         | ((with_reducible refine az (N:=126) rfl ?_);refine fL rfl (t:=30) (p:= .tmp 6) rfl (g:=hb) rfl HBX40.1 hu30 rfl (by kernel_rfl) ?_)
         | ((with_reducible refine gS 2 126 rfl ?_);refine sB (hC a.1 (.slice Av acc.length cv) (.slice Ap ps.length cp) (.slice Ax xs.length cx) f.1 g.1 (.slice Ae en.1.length ce)) RBX40.1 ?_;intro wz hW hG;have WZ:=aa (show wz.heap[rb]? = some (.cells (hC a.1 (.slice Av acc.length cv) (.slice Ap ps.length cp) (.slice Ax xs.length cx) f.1 g.1 (.slice Ae en.1.length ce)) 30 (0,0)) from hW.1);have BZ:=aa (BE40.1.grown hG.1 BE40.1.size (fun k e=>by injection e with e;have:=RBS.1;omega));have SMZ:=aa (SM40.1.mv (Mv.bG (ts:=[30]) hG.1 RBX40.1 (by simp)) (by decide) (by decide) (by decide) (by decide) (by decide) (by decide) (by decide))))
        refine l9 WZ.1 hu30 ?_;exact sX.ok HO2.1 BZ.1 SMZ.1
end Go.Proofs.YtpekmdpbfjdjkaaGreat.dO