/- Part 28 of the proof that reading bytes answers as the document does. No condition. -/
import Derived.Test.YtpekmdpbfjdjkaaGreatY27
set_option maxHeartbeats 16000000
set_option maxRecDepth 100000
set_option linter.all false
namespace Go.Proofs.YtpekmdpbfjdjkaaGreat.ref
open Go Go.RowKit ag.ax ag.aV ag.aU aD fr iK cL plain fE
def gY:List Nat→Int→Int→List Int→Option (List Int)
 | [],_,_,r=>some r
 | f::fs,key,hi,r=>(ki f key hi r).bind fun q=>gY fs q.1 q.2.1 q.2.2
theorem vS (k of_ st:Int):(jy k of_ st).length≤6∧(∀f∈jy k of_ st,f∈[1,2,3,4,5,6,7,8,9,10,11,12,13,14,15]):=by
 unfold jy;repeat' split
 all_goals exact ⟨by decide,by decide⟩
theorem Bu (of_ st:Int):jy 12 of_ st=[2,3,10,11,14,15]:=by simp [jy]
theorem Rk.add {base g t br p:Nat} {W w:World} {bs:List (Nat × Nat × Array Value)} {l:List Int} {e:Int} {cs:Array Value} (h:Rk base W w bs br l p e) (hg:w.heap[g]? = some (.cells cs t (0,0))) (hlo:W.heap.size≤g) (hn:∀x∈bs,g≠x.1) (h1:t≠275) (h2:t≠5):Rk base W w ((g,t,cs)::bs) br l p e:=
 ⟨⟨h.bk.mv,h.bk.bel,h.bk.hB,fun x hx=>by
  rcases List.mem_cons.1 hx with rfl|hx
  ·exact hg
  ·exact h.bk.at_ x hx,fun x hx=>by
  rcases List.mem_cons.1 hx with rfl|hx
  ·exact hlo
  ·exact h.bk.lo x hx,List.pairwise_cons.2 ⟨hn,h.bk.nd⟩⟩,h.rg,fun x hx=>by
  rcases List.mem_cons.1 hx with rfl|hx
  ·exact ⟨h1,h2⟩
  ·exact h.nt x hx⟩
theorem qi (ls:List Nat) (i:Nat) (h:i<ls.length):(nU ls)[i]? = some (.int .i64 (ls[i]:Int)):=by
 simp [nU,h]
structure mT (l:List Int):Prop where
 h1:l.length≤4096
 h2:7≤l.length
 h3:rd l 0=83
 h4:rd l 1=1
 h5:l.take (l.length - 4)++be 4 (eH (l.take (l.length - 4)))=l
 h6:rd l 2=12
 h7:gY [2,3,10,11,14,15] 0 0 ((l.take (l.length - 4)).drop 3)=some []
def sK (W:World) (l:List Int) (e:Ending) (w':World):Prop:=∃(z:Zm) (at_ er:Int),e = .returned (.tuple #[.agg (aW z), .int .i64 at_, .int .i64 er])∧Below W.heap.size W w'∧0≤z.k∧z.k≤255∧((er=0∧z.k=12)↔mT l)
theorem sK.no {W w':World} {l:List Int} {at_ er:Int} (hb:Below W.heap.size W w') (he:er≠0) (hd:¬mT l):sK W l (.returned (.tuple #[.agg (aW (zK 0)), .int .i64 at_, .int .i64 er])) w':=
 ⟨zK 0,at_,er,rfl,hb,fC _,(by decide:(0:Int)≤255),⟨fun h=>absurd h.1 he,fun h=>absurd h hd⟩⟩
theorem Bb (A:Option Addr) (c:Nat) (l:List Int) (W:World) (hl:Kd.C (Kd.int .u8) W A l.length l) (hc:l.length≤c) (hL:l.length≤100000000) (hb:aq l) :
 Calls Tryz.prog 150 #[.slice A l.length c] W (sK W l):=by
 have hu:=Tryz.underlying214;have HY:=aa hb;have HCW:=aa hl;have K0:=aa ((Bk.new (base:=W.heap.size) (ts:=TG) (Nat.le_refl W.heap.size)).cr rfl 214 (aW (zK 0)));clear hl hb;go_in;go_upto_region 1 with (fail);have K1:=aa (show Bk W.heap.size TG W (W.alloc (.cells #[.int .u8 0, .int .u64 0, .int .u64 0, .int .u64 0, .slice none 0 0, .slice none 0 0, .bool false, .int .u8 0, .int .u8 0, .int .u8 0, .int .u32 0, .int .u32 0, .int .u64 0, .int .u8 0, .slice none 0 0, .slice none 0 0, .slice none 0 0] 214)) [(W.heap.size,214,(aW (zK 0)))] from K0.1);generalize World.alloc W _=w1 at K1 ⊢;have HC:=aa (Kd.aN HCW.1 K1.1.bel);clear K0;by_cases g1:4096<l.length
 ·have g1b:decide ((4096:Int)<(l.length:Int))=true:=decide_eq_true (by omega);go_wp2_with ((with_reducible refine gS 2 21 rfl ?_);refine sB (aW (zK 0)) K1.1.cE ?_;intro wz hW hG;have KZ:=aa (K1.1.set (l1:=[]) hG.1 hW.1));refine gK KZ.1.cE hu ?_;exact sK.no KZ.1.bel (by decide) (fun h=>by have:=h.h1;omega)
 have g1b:decide ((4096:Int)<(l.length:Int))=false:=decide_eq_false (by omega);by_cases g2:l.length<7
 ·have g2b:decide ((l.length:Int)<7)=true:=decide_eq_true (by omega);go_wp2_with ((with_reducible refine gS 2 24 rfl ?_);refine sB (aW (zK 0)) K1.1.cE ?_;intro wz hW hG;have KZ:=aa (K1.1.set (l1:=[]) hG.1 hW.1));refine gK KZ.1.cE hu ?_;exact sK.no KZ.1.bel (by decide) (fun h=>by have:=h.h2;omega)
 have g2b:decide ((l.length:Int)<7)=false:=decide_eq_false (by omega);obtain ⟨ad,rfl,k0⟩:=mU HC.1 0 (by omega);have k1:w1.cell? ⟨ad.block,ad.off+1,none⟩=some (.int .u8 (rd l 1)):=by
  obtain ⟨ad',e,k⟩:=mU HC.1 1 (by omega);injection e with e;subst e;exact k
 have k0':w1.cell? ad=some (.int .u8 (rd l 0)):=k0;have hz0:(0:Int)<(l.length:Int):=by omega
 have hz1:(1:Int)<(l.length:Int):=by omega
 by_cases g3:rd l 0=83
 case neg=>
  have g3b:(rd l 0 != 83)=true:=by rw [mq];exact g3
  go_wp2_with ((with_reducible refine gS 2 30 rfl ?_);refine sB (aW (zK 0)) K1.1.cE ?_;intro wz hW hG;have KZ:=aa (K1.1.set (l1:=[]) hG.1 hW.1));refine gK KZ.1.cE hu ?_;exact sK.no KZ.1.bel (by decide) (fun h=>g3 h.h3)
 have g3b:(rd l 0 != 83)=false:=by rw [ci];exact g3
 by_cases g4:rd l 1=1
 case neg=>
  have g4b:(rd l 1 != 1)=true:=by rw [mq];exact g4
  go_wp2_with ((with_reducible refine gS 2 35 rfl ?_);refine sB (aW (zK 0)) K1.1.cE ?_;intro wz hW hG;have KZ:=aa (K1.1.set (l1:=[]) hG.1 hW.1));refine gK KZ.1.cE hu ?_;exact sK.no KZ.1.bel (by decide) (fun h=>g4 h.h4)
 have g4b:(rd l 1 != 1)=false:=by rw [ci];exact g4
 have n1:IntKind.i64.wrap ((l.length:Int) - 4)=((l.length - 4:Nat):Int):=by rw [aA _ (by omega)];omega
 have n2:wrap64 ((l.length:Int) - 4)=((l.length - 4:Nat):Int):=by rw [IntWalk.wrap64_in _ (by omega)];omega
 have n3:((l.length - 4:Nat):Int)≤(c:Int):=by omega
 have hlt4:(l.take (l.length - 4)).length=l.length - 4:=by rw [List.length_take];omega
 have SE:=aa (fun (w:World) (hw:Kd.C (Kd.int .u8) w (some ad) l.length l)=>(show Calls Tryz.prog 172 #[.slice (some ad) (l.length - 4) c] w (zE w (l.take (l.length - 4)++be 4 (eH (l.take (l.length - 4))))) from by
  have h:=wH (some ad) c (l.take (l.length - 4)) w (Kd.lq hw (by omega)) (by omega) (by omega) (fun x hx=>HY.1 x (List.mem_of_mem_take hx));rw [hlt4] at h;exact h))
 have G12:=aa (And.intro g1 g2);have G34:=aa (And.intro g3 g4);have GN:=aa hlt4;clear hlt4 g1 g2 g3 g4;go_wp2_with fail;refine (SE.1 w1 HC.1).mono ?_;rintro e w2 ⟨v,rfl,hR,hB⟩;obtain ⟨A2,c2,rfl⟩:=Kd.aG hR;have K2:=aa (K1.1.grow hB);have R2:=aa (Kd.bI hR);have C2:=aa (Kd.aN HC.1 hB);have BYT:aq (l.take (l.length - 4)):=fun x hx=>HY.1 x (List.mem_of_mem_take hx);have BYS:aq (l.take (l.length - 4)++be 4 (eH (l.take (l.length - 4)))):=fun x hx=>(List.mem_append.1 hx).elim (BYT x) (lY 4 _ x);have SM:=aa (yG _ l BYS HY.1);have NH5:=aa (fun (h:mT l)=>h.h5);have NH5C:=aa (rfl:l.take (l.length - 4)++be 4 (eH (l.take (l.length - 4)))=l.take (l.length - 4)++be 4 (eH (l.take (l.length - 4))));clear NH5C;generalize hsl:l.take (l.length - 4)++be 4 (eH (l.take (l.length - 4)))=sl at R2 SM NH5 ⊢;have HSE:=aa hsl;clear hsl;have CX:=aa (fun (w':World) (hB:Below W.heap.size W w')=>(show w'.cell? ⟨ad.block,ad.off+2,none⟩=some (.int .u8 (rd l 2)) from by
  obtain ⟨ad',e,h⟩:=mU (Kd.aN HCW.1 hB) 2 (by have:=G12.1.2;omega);injection e with e;subst e;exact h))
 have KB:=aa (show 0≤rd l 2∧rd l 2≤255 from by
  have hlt:2<l.length:=by have:=G12.1.2;omega
  exact HY.1 _ (by rw [rd,show Int.toNat 2=2 from rfl,List.getD_eq_getElem?_getD,List.getElem?_eq_getElem hlt];exact List.getElem_mem hlt))
 have NH6:=aa (fun (h:mT l)=>h.h6);clear hR hB K1 SE k0 k1 k0' BYT BYS HC;go_wp2_with fail;refine (dk.calls A2 c2 sl (some ad) c l _ w2 R2.1.2.2 R2.1.2.1 C2.1 hc SM.1).mono ?_;rintro e w3 ⟨rfl,hd⟩;have K3:=aa (K2.1.grow hd.below);have C3:=aa (Kd.aN C2.1 hd.below);clear hd K2 C2 R2 SM;by_cases g5:sl=l
 case neg=>
  rw [decide_eq_false g5];go_wp2_with ((with_reducible refine gS 2 46 rfl ?_);refine sB (aW (zK 0)) K3.1.cE ?_;intro wz hW hG;have KZ:=aa (K3.1.set (l1:=[]) hG.1 hW.1));refine gK KZ.1.cE hu ?_;exact sK.no KZ.1.bel (by decide) (fun h=>g5 (NH5.1 h))
 rw [decide_eq_true g5];have NH5B:=aa (show l.take (l.length - 4)++be 4 (eH (l.take (l.length - 4)))=l by rw [HSE.1];exact g5);have hz2:(2:Int)<(l.length:Int):=by have:=G12.1.2;omega
 have k2:=CX.1 w3 K3.1.bel;generalize hkd:rd l 2=kd at CX KB NH6 k2;have HKD:=aa hkd;clear g5 hkd;by_cases g6:kd<1
 ·have g6b:decide (kd<1)=true:=decide_eq_true g6;go_wp2_with ((with_reducible refine gS 2 59 rfl ?_);refine sB (aW (zK 0)) K3.1.cE ?_;intro wz hW hG;have KZ:=aa (K3.1.set (l1:=[]) hG.1 hW.1));refine gK KZ.1.cE hu ?_;exact sK.no KZ.1.bel (by decide) (fun h=>by have:=NH6.1 h;omega)
 have g6b:decide (kd<1)=false:=decide_eq_false g6;by_cases g7:12<kd
 ·have g7b:decide (12<kd)=true:=decide_eq_true g7;go_wp2_with ((with_reducible refine gS 2 59 rfl ?_);refine sB (aW (zK 0)) K3.1.cE ?_;intro wz hW hG;have KZ:=aa (K3.1.set (l1:=[]) hG.1 hW.1));refine gK KZ.1.cE hu ?_;exact sK.no KZ.1.bel (by decide) (fun h=>by have:=NH6.1 h;omega)
 have g7b:decide (12<kd)=false:=decide_eq_false g7;have G67:=aa (And.intro g6 g7);have n4:(3:Int)≤((l.length - 4:Nat):Int):=by have:=G12.1.2;omega
 have hC3:Kd.C (Kd.int .u8) w3 (some ⟨ad.block,ad.off+3,none⟩) ((l.take (l.length - 4)).drop 3).length ((l.take (l.length - 4)).drop 3):=by
  have h7:=G12.1.2;have h:=Kd.pw (Kd.lq C3.1 (m:=l.length - 4) (by omega)) (m:=3) (by rw [GN.1];omega) (c:=c) (by rw [GN.1];omega);rw [if_neg (show ¬c=3 by omega)] at h;simpa [Kd.int,Kd.scalar,Addr.add] using h
 have hl3:((l.take (l.length - 4)).drop 3).length=l.length - 4 - 3:=by rw [List.length_drop,GN.1]
 have NR:=aa (qq (some ⟨ad.block,ad.off+3,none⟩) (c - 3) _ w3 hC3 (by rw [hl3];omega) (by rw [hl3];have:=G12.1.1;omega));have LBo:=aa (show ((l.take (l.length - 4)).drop 3).length≤1000000 by rw [hl3];have:=G12.1.1;omega);have BYB:=aa (show aq ((l.take (l.length - 4)).drop 3) from fun x hx=>HY.1 x (List.mem_of_mem_take (bh hx)));rw [hl3] at NR;generalize hbd:(l.take (l.length - 4)).drop 3=body at NR LBo BYB;have HBD:=aa hbd;clear hC3 hl3 hbd g6 g7;go_wp2_with fail;refine NR.1.mono ?_;rintro e w4 ⟨v,rfl,hR,hB⟩;obtain ⟨A4,c4,rfl⟩:=Kd.aG hR;generalize hbl:body.length=nb at hR ⊢;have HBL:=aa hbl;have R4:=aa hR;have K4:=aa (K3.1.grow hB);have S3:=aa K3.1.size;clear hR hB hbl K3 C3 NR k2;go_wp2_with (first|((with_reducible refine gS 8 66 rfl ?_);refine sB (wJ (.slice A4 nb c4) 0 0) (K4.1.push 275 (#[.bool false, .slice none 0 0, .int .i64 0, .int .i64 0]:Array Value)).cE ?_;intro w5 hW hG;have K5:=aa (show Bk W.heap.size TG W w5 [(w4.heap.size,275,(wJ (.slice A4 nb c4) 0 0)),(W.heap.size,214,(aW (zK 0)))] from (K4.1.push 275 (#[.bool false, .slice none 0 0, .int .i64 0, .int .i64 0]:Array Value)).set (l1:=[]) hG.1 hW.1);have R5:=uu R4.1 ((Mv.alloc (Mv.refl [275] w4) _).trans (Mv.bG hG.1 (K4.1.push 275 (#[.bool false, .slice none 0 0, .int .i64 0, .int .i64 0]:Array Value)).cE (by simp))) (by decide);have k2:=CX.1 w5 K5.1.bel;have KR:=aa (show Rk W.heap.size W w5 [(W.heap.size,214,(aW (zK 0)))] w4.heap.size body 0 0 from ⟨K5.1.tail,⟨⟨_,K5.1.cE,Kd.cI R5 S3.1⟩,K5.1.DF,aI _,LBo.1,BYB.1⟩,fun x hx=>by rw [List.mem_singleton.1 hx];exact ⟨by show (214:Nat)≠275;decide,by show (214:Nat)≠5;decide⟩⟩);clear R5)|((with_reducible refine gS 10 71 rfl ?_);refine sB (aW (zK kd)) (KR.1.push 214 (aW (zK 0)) (by decide) (by decide)).bk.cE ?_;intro w6 hW hG;have K6:=aa (show Rk W.heap.size W w6 [(w5.heap.size,214,(aW (zK kd))),(W.heap.size,214,(aW (zK 0)))] w4.heap.size body 0 0 from (KR.1.push 214 (aW (zK 0)) (by decide) (by decide)).set (l1:=[]) hG.1 hW.1)));have ZO0:=aa (show mF (zK kd) from ⟨⟨KB.1.1,KB.1.2,fC _,(by decide:(0:Int)≤18446744073709551615),fC _,(by decide:(0:Int)≤18446744073709551615)⟩,fC _,(by decide:(0:Int)≤255),fC _,(by decide:(0:Int)≤255)⟩);clear K4 R4 S3 KR K5 k2 hz0 hz1 hz2 n1 n2 n3 n4 g1b g2b g3b g4b g6b g7b LBo BYB;generalize w5.heap.size=mb at K6 ⊢;generalize w4.heap.size=rb at K6 ⊢;go_loopw [11,12,13,14,15] (fun v11 v12 v13 v14 v15 wr=>∃(i:Nat) (m:Zm) (p:Nat),v11 = .int .i64 i∧i≤6∧af (Rk W.heap.size W wr [(mb,214,aW m),(W.heap.size,214,(aW (zK 0)))] rb body p 0)∧af (mF m)∧af (m.k=kd)∧af (kd=12→gY ([2,3,10,11,14,15].drop i) m.key m.hi (body.drop p)=gY [2,3,10,11,14,15] 0 0 body)) (fun v _ _ _ _ _=>6 - (intOf v).toNat)
 case atStart=>exact ⟨0,zK kd,0,rfl,by omega,K6,ZO0,⟨rfl⟩,⟨fun _=>rfl⟩⟩
 case round=>
  obtain ⟨i,m,p,rfl,hi6,K,ZO,MK,PA⟩:=hrel;clear K6 ZO0;generalize wr=wl at K ⊢;by_cases hin:i<6
  case neg=>
   have hib:¬(i:Int)<6:=by omega
   have FK:=aa (fun (h:kd=12)=>(show some (body.drop p)=gY [2,3,10,11,14,15] 0 0 body by rw [←PA.1 h,show i=6 by omega];rfl));clear PA hi6 hin;go_wp2_with fail;refine (zp K.1.rg).mono ?_;rintro e w8 ⟨rfl,hB⟩;have K8:=aa (K.1.grow hB);clear hB K;by_cases gl:0<body.length - p
   ·have hd:¬mT l:=fun h=>by
     have h7:=h.h7;have h8:=FK.1 (HKD.1▸h.h6);rw [HBD.1,←h8] at h7;injection h7 with h7;have:=congrArg List.length h7;rw [List.length_drop,List.length_nil] at this;omega
    have HD:=aa hd;have glb:(0:Int)<((body.length - p:Nat):Int):=by omega
    generalize body.length - p=d at gl glb ⊢;clear hd FK;go_wp2_with fail;refine hY (fun w'=>w'.cell? ⟨rb,2,none⟩=some (.int .i64 p)) 5 [(0,0),(1,0),(2,1),(3,0),(4,2)] (by kernel_rfl) (by kernel_rfl) (fun _ _ _ _ _ h=>h) K8.1.rg.c2 ?_;have K9:=aa (K8.1.grow (w':=w8.drew) (dy (Below.refl _ _)));generalize w8.drew=w9 at K9 ⊢;iterate 2 (refine eF ?_;simp only [cS,Act.put])
    iterate 1 (refine aQ (v:=?_) rfl rfl ?_ ?_;rotate_left 1;(focus (intro w hSw;go_simp;try (with_reducible rfl)));simp only [cS,Act.put])
    iterate 1 (refine eF ?_;simp only [cS,Act.put])
    refine aT rfl ?_;go_wp2_with ((with_reducible refine gS 2 102 rfl ?_);refine sB (aW (zK 0)) K9.1.bk.fu ?_;intro wz hW hG;have KZ:=aa (K9.1.set (l1:=[_]) hG.1 hW.1));refine bB.mk KZ.1.rg.c2 (fun hSw=>?_);clear hSw;refine bC ?_;simp only [aC,List.drop_zero];go_wp2_with fail;refine gK KZ.1.bk.fu hu ?_;exact sK.no KZ.1.bk.bel (by decide) HD.1
   ·have glb:¬(0:Int)<((body.length - p:Nat):Int):=by omega
    have HD:=aa (show m.k=12↔mT l from ⟨fun h=>⟨by have:=G12.1.1;omega,by have:=G12.1.2;omega,G34.1.1,G34.1.2,NH5B.1,by rw [HKD.1,←MK.1];exact h,by
     rw [HBD.1,←FK.1 (by rw [←MK.1];exact h),List.drop_eq_nil_of_le (by omega)]⟩,fun h=>by rw [MK.1,←HKD.1];exact h.h6⟩)
    generalize body.length - p=d at gl glb ⊢;clear FK;go_wp2_with (first|((with_reducible refine az (N:=106) rfl ?_);refine lB K8.1.bk.cE Tryz.underlying214 ?_)|((with_reducible refine gS 2 106 rfl ?_);refine sB (aW m) K8.1.bk.fu ?_;intro wz hW hG;have KZ:=aa (K8.1.set (l1:=[_]) hG.1 hW.1)));refine gK KZ.1.bk.fu hu ?_;exact ⟨m,0,0,rfl,KZ.1.bk.bel,ZO.1.kk0,ZO.1.kk1,⟨fun h=>HD.1.1 h.2,fun h=>⟨rfl,HD.1.2 h⟩⟩⟩
  have hib:(i:Int)<6:=by omega
  have HI:=aa hin;clear hi6 hin;go_wp2_with ((with_reducible refine az (N:=76) rfl ?_);refine lB K.1.bk.cE Tryz.underlying214 ?_);refine (CO m ZO.1 (by rw [MK.1];have:=G67.1.1;omega) (by rw [MK.1];have:=G67.1.2;omega) wl).mono ?_;rintro e w7 ⟨g,rfl,hg,hB,hlo⟩;have K7:=aa ((K.1.grow hB).add hg (Nat.le_trans K.1.bk.size hlo) (fun x hx=>by have:=ak (K.1.bk.at_ x hx);omega) (by decide) (by decide));have UO:=aa (vS m.k m.of_ m.st);have U12:=aa (show kd=12→jy m.k m.of_ m.st=[2,3,10,11,14,15] from fun h=>by rw [MK.1,h];exact Bu _ _);generalize jy m.k m.of_ m.st=ls at K7 UO U12 ⊢;clear hg hB hlo K hib;by_cases hil:i<ls.length
  case neg=>
   have hib:((ls.length:Nat):Int)≤(i:Int):=by omega
   have FK:=aa (fun (h:kd=12)=>(show some (body.drop p)=gY [2,3,10,11,14,15] 0 0 body by exact absurd (by rw [U12.1 h];exact HI.1:i<ls.length) hil));have K:=aa K7.1.tail;clear PA hil K7;go_wp2_with fail;refine (zp K.1.rg).mono ?_;rintro e w8 ⟨rfl,hB⟩;have K8:=aa (K.1.grow hB);clear hB K;by_cases gl:0<body.length - p
   ·have hd:¬mT l:=fun h=>by
     have h7:=h.h7;have h8:=FK.1 (HKD.1▸h.h6);rw [HBD.1,←h8] at h7;injection h7 with h7;have:=congrArg List.length h7;rw [List.length_drop,List.length_nil] at this;omega
    have HD:=aa hd;have glb:(0:Int)<((body.length - p:Nat):Int):=by omega
    generalize body.length - p=d at gl glb ⊢;clear hd FK;go_wp2_with fail;refine hY (fun w'=>w'.cell? ⟨rb,2,none⟩=some (.int .i64 p)) 5 [(0,0),(1,0),(2,1),(3,0),(4,2)] (by kernel_rfl) (by kernel_rfl) (fun _ _ _ _ _ h=>h) K8.1.rg.c2 ?_;have K9:=aa (K8.1.grow (w':=w8.drew) (dy (Below.refl _ _)));generalize w8.drew=w9 at K9 ⊢;iterate 2 (refine eF ?_;simp only [cS,Act.put])
    iterate 1 (refine aQ (v:=?_) rfl rfl ?_ ?_;rotate_left 1;(focus (intro w hSw;go_simp;try (with_reducible rfl)));simp only [cS,Act.put])
    iterate 1 (refine eF ?_;simp only [cS,Act.put])
    refine aT rfl ?_;go_wp2_with ((with_reducible refine gS 2 102 rfl ?_);refine sB (aW (zK 0)) K9.1.bk.fu ?_;intro wz hW hG;have KZ:=aa (K9.1.set (l1:=[_]) hG.1 hW.1));refine bB.mk KZ.1.rg.c2 (fun hSw=>?_);clear hSw;refine bC ?_;simp only [aC,List.drop_zero];go_wp2_with fail;refine gK KZ.1.bk.fu hu ?_;exact sK.no KZ.1.bk.bel (by decide) HD.1
   ·have glb:¬(0:Int)<((body.length - p:Nat):Int):=by omega
    have HD:=aa (show m.k=12↔mT l from ⟨fun h=>⟨by have:=G12.1.1;omega,by have:=G12.1.2;omega,G34.1.1,G34.1.2,NH5B.1,by rw [HKD.1,←MK.1];exact h,by
     rw [HBD.1,←FK.1 (by rw [←MK.1];exact h),List.drop_eq_nil_of_le (by omega)]⟩,fun h=>by rw [MK.1,←HKD.1];exact h.h6⟩)
    generalize body.length - p=d at gl glb ⊢;clear FK;go_wp2_with (first|((with_reducible refine az (N:=106) rfl ?_);refine lB K8.1.bk.cE Tryz.underlying214 ?_)|((with_reducible refine gS 2 106 rfl ?_);refine sB (aW m) K8.1.bk.fu ?_;intro wz hW hG;have KZ:=aa (K8.1.set (l1:=[_]) hG.1 hW.1)));refine gK KZ.1.bk.fu hu ?_;exact ⟨m,0,0,rfl,KZ.1.bk.bel,ZO.1.kk0,ZO.1.kk1,⟨fun h=>HD.1.1 h.2,fun h=>⟨rfl,HD.1.2 h⟩⟩⟩
  have hib:¬((ls.length:Nat):Int)≤(i:Int):=by omega
  have hwi:wrap64 (i:Int)=(i:Int):=IntWalk.wrap64_in _ (by have:=HI.1;omega);have HII:=aa (show wrap64 ((i:Int)+1)=(i:Int)+1 from IntWalk.wrap64_in _ (by have:=HI.1;omega));have hwi2:IntKind.i64.wrap (i:Int)=(i:Int):=aA _ (by have:=HI.1;omega);have hil2:(i:Int)<((ls.length:Nat):Int):=by omega
  have hf:=UO.1.2 ls[i] (List.getElem_mem hil);have cf:w7.cell? ⟨g,i,none⟩=some (.int .i64 (ls[i]:Int)):=(cell_of K7.1.bk.cE i).trans (qi ls i hil);have F12:=aa (fun (h:kd=12)=>(show ([2,3,10,11,14,15]:List Nat).drop i=ls[i]::([2,3,10,11,14,15]:List Nat).drop (i+1)∧ls[i]∈([2,3,10,11,14,15]:List Nat) from by
   have hu:=U12.1 h;subst hu;exact ⟨ap hil,List.getElem_mem hil⟩))
  have cgi:(nU ls)[i]? = some (.int .i64 (ls[i]:Int)):=qi ls i hil;generalize hfi:ls[i]=f at hf cf F12 cgi;have HF:=aa hf;have CG:=aa cgi;clear hf hfi hil cgi U12 UO;generalize ls.length=nl at hib hil2 ⊢;go_wp2_with fail;refine kv (fun w'=>w'.heap[mb]? = some (.cells (aW m) 214 (0,0))∧w'.cell? ⟨g,i,none⟩=some (.int .i64 f)) 11 [(0,1),(1,0),(2,0),(3,0),(4,1)] 5 10 [(6,0),(7,0),(8,0),(9,0),(10,2)] [(5,2),(6,0),(7,0),(8,0),(9,0)] (by kernel_rfl) (by kernel_rfl) (fun _ _ _ _ _ h=>h) ⟨K7.1.bk.fu,cf⟩ ?_;have K8:=aa (K7.1.grow (w':=w7.drew) (dy (Below.refl _ _)));clear cf K7;generalize w7.drew=w8 at K8 ⊢;refine iM (g:=mb) rfl rfl rfl rfl (fun w h=>h.1) hu rfl (by kernel_rfl) ?_;simp only [cS,Act.put];iterate 3 (refine eF ?_;simp only [cS,Act.put])
  iterate 1 (refine aQ (v:=?_) rfl rfl ?_ ?_;rotate_left 1;(focus (intro w hSw;go_simp;try (with_reducible rfl)));simp only [cS,Act.put])
  refine ⟨?_,?_⟩
  ·refine aT rfl ?_;go_wp2_with fail;refine (nV f HF.1 m ZO.1 W.heap.size rb p body w8 K8.1.rg K8.1.bk.hb).mono ?_;rintro e w9 ⟨hM,hB,m',at_,er,o,rfl,hk,hz,hfl,hsp⟩;have B9:=aa (K8.1.bk.move hM (fun _ h=>h) hB (fun x hx=>by simpa [TG] using (K8.1.nt x hx).1));have S9:=aa (And.intro hk (And.intro hz hsp));have FL9:=aa hfl;clear hM hB hk hz hfl hsp K8;go_wp2_with fail;refine bB.mk ⟨B9.1.fu,(cell_of B9.1.cE i).trans CG.1⟩ (fun hSw=>?_);clear hSw;iterate 4 (refine eF ?_;simp only [cS,Act.put])
   refine aT rfl ?_;go_wp2_with fail;have B10:=aa (B9.1.push 214 (#[.int .u8 0, .int .u64 0, .int .u64 0, .int .u64 0, .slice none 0 0, .slice none 0 0, .bool false, .int .u8 0, .int .u8 0, .int .u8 0, .int .u32 0, .int .u32 0, .int .u64 0, .int .u8 0, .slice none 0 0, .slice none 0 0, .slice none 0 0]:Array Value));have FL10:=aa (FL9.1.mv (Mv.cH (ts:=[]) (ah (Below.refl w9.heap.size w9) (.cells #[.int .u8 0, .int .u64 0, .int .u64 0, .int .u64 0, .slice none 0 0, .slice none 0 0, .bool false, .int .u8 0, .int .u8 0, .int .u8 0, .int .u32 0, .int .u32 0, .int .u64 0, .int .u8 0, .slice none 0 0, .slice none 0 0, .slice none 0 0] 214))) (by simp) (by simp));refine bB.mk ⟨B10.1.eS,(cell_of B10.1.fu i).trans CG.1⟩ (fun hSw=>?_);clear hSw B9 FL9;generalize World.alloc w9 _=w10 at B10 FL10 ⊢;generalize w9.heap.size=tb at B10 ⊢;refine bC ?_;simp only [aC,List.drop_zero];cases o with
   | none=>
    have hd:¬mT l:=fun h=>by
     have h12:kd=12:=HKD.1▸h.h6;have h7:=h.h7;rw [HBD.1,←PA.1 h12,(F12.1 h12).1,gY,←S9.1.2.2 (MK.1.trans h12) (j7 [] (F12.1 h12).2 |> fun h=>by simpa using h)] at h7;cases h7
    have HD:=aa hd;have ER:=aa (show er≠0 from FL10.1);have erb:(er != 0)=true:=by rw [mq];exact ER.1
    clear hd;go_wp2_with (first|((with_reducible refine gS 13 89 rfl ?_);refine sB (aW m') B10.1.cE ?_;intro w11 hW hG;have B11:=aa (show Bk W.heap.size TG W w11 [(tb,214,(aW m')),(g,3,nU ls),(mb,214,aW m),(W.heap.size,214,(aW (zK 0)))] from B10.1.set (l1:=[]) hG.1 hW.1);have FL11:=aa (FL10.1.mv (Mv.bG (ts:=[214]) hG.1 B10.1.cE (by simp)) (by decide) (by decide)))|((with_reducible refine gS 2 94 rfl ?_);refine sB (aW (zK 0)) B11.1.jJ ?_;intro wz hW hG;have KZ:=aa (B11.1.set (l1:=[_,_,_]) hG.1 hW.1)));refine gK KZ.1.jJ hu ?_;exact sK.no KZ.1.bel ER.1 HD.1
   | some y=>
    obtain ⟨key,hi,r⟩:=y;obtain ⟨rfl,hkey,hhi,q, -,hrq⟩:=FL10.1;have PN:=aa (fun (h:kd=12)=>(show gY ([2,3,10,11,14,15].drop (i+1)) m'.key m'.hi (body.drop q)=gY [2,3,10,11,14,15] 0 0 body from by
     rw [←PA.1 h,(F12.1 h).1,gY,←S9.1.2.2 (MK.1.trans h) (by simpa using (F12.1 h).2),aj,hkey,hhi,hrq]))
    have HRQ:=aa hrq;clear hkey hhi hrq;go_wp2_with (first|((with_reducible refine gS 13 89 rfl ?_);refine sB (aW m') B10.1.cE ?_;intro w11 hW hG;have B11:=aa (show Bk W.heap.size TG W w11 [(tb,214,(aW m')),(g,3,nU ls),(mb,214,aW m),(W.heap.size,214,(aW (zK 0)))] from B10.1.set (l1:=[]) hG.1 hW.1);have FL11:=aa (FL10.1.mv (Mv.bG (ts:=[214]) hG.1 B10.1.cE (by simp)) (by decide) (by decide)))|((with_reducible refine az (N:=98) rfl ?_);refine lB B11.1.cE Tryz.underlying214 ?_)|((with_reducible refine gS 10 98 rfl ?_);refine sB (aW m') B11.1.eS ?_;intro wz hW hG;have B12:=aa (show Bk W.heap.size TG W wz [(tb,214,(aW m')),(g,3,nU ls),(mb,214,aW m'),(W.heap.size,214,(aW (zK 0)))] from B11.1.set (l1:=[_,_]) hG.1 hW.1);have FL12:=aa (FL11.1.mv (Mv.bG (ts:=[214]) hG.1 B11.1.eS (by simp)) (by decide) (by decide))));obtain ⟨-, -, -,q2,hg2,hq2⟩:=FL12.1;simp only [HII.1];go_roundw
    case rel=>exact ⟨i+1,m',q2,rfl,HI.1,⟨B12.1.tail.tail,hg2,fun x hx=>by
     simp only [List.mem_cons,ga,Ad] at hx;rcases hx with rfl|rfl
     ·exact ⟨by show (214:Nat)≠275;decide,by show (214:Nat)≠5;decide⟩
     ·exact ⟨by show (214:Nat)≠275;decide,by show (214:Nat)≠5;decide⟩⟩,⟨S9.1.2.1⟩,⟨S9.1.1.trans MK.1⟩,⟨fun h=>by rw [←PN.1 h,←hq2,HRQ.1]⟩⟩
    case measure=>
     simp only [intOf];exact wM HI.1
  ·refine aT rfl ?_;go_wp2_with fail;have K9:=aa (K8.1.push 214 (#[.int .u8 0, .int .u64 0, .int .u64 0, .int .u64 0, .slice none 0 0, .slice none 0 0, .bool false, .int .u8 0, .int .u8 0, .int .u8 0, .int .u32 0, .int .u32 0, .int .u64 0, .int .u8 0, .slice none 0 0, .slice none 0 0, .slice none 0 0]:Array Value) (by decide) (by decide));refine bB.mk ⟨K9.1.bk.eS,(cell_of K9.1.bk.fu i).trans CG.1⟩ (fun hSw=>?_);clear hSw K8;generalize World.alloc w8 _=w9 at K9 ⊢;generalize w8.heap.size=tb at K9 ⊢;refine aT rfl ?_;go_wp2_with fail;refine (nV f HF.1 m ZO.1 W.heap.size rb p body w9 K9.1.rg K9.1.bk.hb).mono ?_;rintro e w10 ⟨hM,hB,m',at_,er,o,rfl,hk,hz,hfl,hsp⟩;have B10:=aa (K9.1.bk.move hM (fun _ h=>h) hB (fun x hx=>by simpa [TG] using (K9.1.nt x hx).1));have S9:=aa (And.intro hk (And.intro hz hsp));have FL10:=aa hfl;clear hM hB hk hz hfl hsp K9;go_wp2_with fail;refine bB.mk ⟨B10.1.eS,(cell_of B10.1.fu i).trans CG.1⟩ (fun hSw=>?_);clear hSw;iterate 4 (refine eF ?_;simp only [cS,Act.put])
   refine bC ?_;simp only [aC,List.drop_zero];cases o with
   | none=>
    have hd:¬mT l:=fun h=>by
     have h12:kd=12:=HKD.1▸h.h6;have h7:=h.h7;rw [HBD.1,←PA.1 h12,(F12.1 h12).1,gY,←S9.1.2.2 (MK.1.trans h12) (j7 [] (F12.1 h12).2 |> fun h=>by simpa using h)] at h7;cases h7
    have HD:=aa hd;have ER:=aa (show er≠0 from FL10.1);have erb:(er != 0)=true:=by rw [mq];exact ER.1
    clear hd;go_wp2_with (first|((with_reducible refine gS 13 89 rfl ?_);refine sB (aW m') B10.1.cE ?_;intro w11 hW hG;have B11:=aa (show Bk W.heap.size TG W w11 [(tb,214,(aW m')),(g,3,nU ls),(mb,214,aW m),(W.heap.size,214,(aW (zK 0)))] from B10.1.set (l1:=[]) hG.1 hW.1);have FL11:=aa (FL10.1.mv (Mv.bG (ts:=[214]) hG.1 B10.1.cE (by simp)) (by decide) (by decide)))|((with_reducible refine gS 2 94 rfl ?_);refine sB (aW (zK 0)) B11.1.jJ ?_;intro wz hW hG;have KZ:=aa (B11.1.set (l1:=[_,_,_]) hG.1 hW.1)));refine gK KZ.1.jJ hu ?_;exact sK.no KZ.1.bel ER.1 HD.1
   | some y=>
    obtain ⟨key,hi,r⟩:=y;obtain ⟨rfl,hkey,hhi,q, -,hrq⟩:=FL10.1;have PN:=aa (fun (h:kd=12)=>(show gY ([2,3,10,11,14,15].drop (i+1)) m'.key m'.hi (body.drop q)=gY [2,3,10,11,14,15] 0 0 body from by
     rw [←PA.1 h,(F12.1 h).1,gY,←S9.1.2.2 (MK.1.trans h) (by simpa using (F12.1 h).2),aj,hkey,hhi,hrq]))
    have HRQ:=aa hrq;clear hkey hhi hrq;go_wp2_with (first|((with_reducible refine gS 13 89 rfl ?_);refine sB (aW m') B10.1.cE ?_;intro w11 hW hG;have B11:=aa (show Bk W.heap.size TG W w11 [(tb,214,(aW m')),(g,3,nU ls),(mb,214,aW m),(W.heap.size,214,(aW (zK 0)))] from B10.1.set (l1:=[]) hG.1 hW.1);have FL11:=aa (FL10.1.mv (Mv.bG (ts:=[214]) hG.1 B10.1.cE (by simp)) (by decide) (by decide)))|((with_reducible refine az (N:=98) rfl ?_);refine lB B11.1.cE Tryz.underlying214 ?_)|((with_reducible refine gS 10 98 rfl ?_);refine sB (aW m') B11.1.eS ?_;intro wz hW hG;have B12:=aa (show Bk W.heap.size TG W wz [(tb,214,(aW m')),(g,3,nU ls),(mb,214,aW m'),(W.heap.size,214,(aW (zK 0)))] from B11.1.set (l1:=[_,_]) hG.1 hW.1);have FL12:=aa (FL11.1.mv (Mv.bG (ts:=[214]) hG.1 B11.1.eS (by simp)) (by decide) (by decide))));obtain ⟨-, -, -,q2,hg2,hq2⟩:=FL12.1;simp only [HII.1];go_roundw
    case rel=>exact ⟨i+1,m',q2,rfl,HI.1,⟨B12.1.tail.tail,hg2,fun x hx=>by
     simp only [List.mem_cons,ga,Ad] at hx;rcases hx with rfl|rfl
     ·exact ⟨by show (214:Nat)≠275;decide,by show (214:Nat)≠5;decide⟩
     ·exact ⟨by show (214:Nat)≠275;decide,by show (214:Nat)≠5;decide⟩⟩,⟨S9.1.2.1⟩,⟨S9.1.1.trans MK.1⟩,⟨fun h=>by rw [←PN.1 h,←hq2,HRQ.1]⟩⟩
    case measure=>
     simp only [intOf];exact wM HI.1
theorem qK (A:Option Addr) (c:Nat) (l:List Int) (W:World) (hl:Kd.C (Kd.int .u8) W A l.length l) (hc:l.length≤c) (hL:l.length≤100000000) (hb:aq l) :
 Calls Tryz.prog 122 #[.slice A l.length c] W fun e w'=>∃(z:Zm) (b:Bool),e = .returned (.tuple #[.agg (aW z), .bool b])∧Below W.heap.size W w'∧(b=true↔mT l):=by
 have hu:=Tryz.underlying214;have K0:=aa ((Bk.new (base:=W.heap.size) (ts:=TG) (Nat.le_refl W.heap.size)).cr rfl 214 (aW (zK 0)));have HP:=aa (fun (w:World) (h:Below W.heap.size W w)=>Bb A c l w (Kd.aN hl h) hc hL hb);clear hl hb;go_in;go_upto_region 1 with (fail);have K1:=aa (show Bk W.heap.size TG W (W.alloc (.cells #[.int .u8 0, .int .u64 0, .int .u64 0, .int .u64 0, .slice none 0 0, .slice none 0 0, .bool false, .int .u8 0, .int .u8 0, .int .u8 0, .int .u32 0, .int .u32 0, .int .u64 0, .int .u8 0, .slice none 0 0, .slice none 0 0, .slice none 0 0] 214)) [(W.heap.size,214,aW (zK 0))] from K0.1);generalize World.alloc W _=w1 at K1 ⊢;clear K0;go_wp2_with fail;refine (HP.1 w1 K1.1.bel).mono ?_;rintro e w2 ⟨z,at_,er,rfl,hB,hz0,hz1,hd⟩;have K2:=aa (K1.1.grow hB);have HD:=aa hd;have hw:wrap64 z.k=z.k:=IntWalk.wrap64_in _ (by omega);have HW:=aa (show IntKind.i64.wrap z.k=z.k from aA _ (by omega));clear hB hd K1 HP;go_wp2_with ((with_reducible refine gS 4 10 rfl ?_);refine sB (aW z) (K2.1.push 214 (#[.int .u8 0, .int .u64 0, .int .u64 0, .int .u64 0, .slice none 0 0, .slice none 0 0, .bool false, .int .u8 0, .int .u8 0, .int .u8 0, .int .u32 0, .int .u32 0, .int .u64 0, .int .u8 0, .slice none 0 0, .slice none 0 0, .slice none 0 0]:Array Value)).cE ?_;intro w3 hW hG;have K3:=aa (show Bk W.heap.size TG W w3 [(w2.heap.size,214,aW z),(W.heap.size,214,aW (zK 0))] from (K2.1.push 214 (#[.int .u8 0, .int .u64 0, .int .u64 0, .int .u64 0, .slice none 0 0, .slice none 0 0, .bool false, .int .u8 0, .int .u8 0, .int .u8 0, .int .u32 0, .int .u32 0, .int .u64 0, .int .u8 0, .slice none 0 0, .slice none 0 0, .slice none 0 0]:Array Value)).set (l1:=[]) hG.1 hW.1));refine hY (fun w'=>w'.heap[w2.heap.size]? = some (.cells (aW z) 214 (0,0))) 10 [(0,1),(1,0),(2,0),(3,0),(4,0),(5,1),(6,0),(7,0),(8,0),(9,2)] (by kernel_rfl) (by kernel_rfl) (fun _ _ _ _ _ h=>h) K3.1.cE ?_;have K4:=aa (K3.1.grow (w':=w3.drew) (dy (Below.refl _ _)));clear K3 K2;generalize w3.drew=w4 at K4 ⊢;generalize w2.heap.size=tb at K4 ⊢;refine iM (g:=tb) rfl rfl rfl rfl (fun w h=>h) hu rfl (by kernel_rfl) ?_;simp only [cS,Act.put];by_cases ge:er=0
 ·subst ge;iterate 4 (refine eF ?_;simp only [cS,Act.put])
  refine aQ (v:= .int .u8 z.k) rfl rfl ?_ ?_
  ·intro w hSw;have ck:w.cell? ⟨tb,0,none⟩=some (.int .u8 z.k):=cell_of hSw 0;go_simp
  simp only [cS,Act.put];iterate 3 (refine eF ?_;simp only [cS,Act.put])
  refine aT rfl ?_;go_wp2_with ((with_reducible refine gS 2 13 rfl ?_);refine sB (aW z) K4.1.fu ?_;intro wz hW hG;have KZ:=aa (show Bk W.heap.size TG W wz [(tb,214,aW z),(W.heap.size,214,aW z)] from K4.1.set (l1:=[_]) hG.1 hW.1));refine bB.mk KZ.1.cE (fun hSw=>?_);clear hSw;refine bC ?_;try simp only [aC,List.drop_zero]
  go_wp2_with fail;refine l9 KZ.1.fu hu ?_;exact ⟨z,_,rfl,KZ.1.bel,by rw [←HD.1];simp [HW.1]⟩
 ·have gb:(er == 0)=false:=by rw [bi];exact ge
  have HE:=aa ge;clear ge;iterate 3 (refine eF ?_;simp only [cS,Act.put])
  (refine da rfl rfl ?_;simp only [cS,Act.put]);(refine iQ rfl rfl ?_;simp only [cS,Act.put]);(refine da rfl rfl ?_;simp only [cS,Act.put]);(refine da rfl rfl ?_;simp only [cS,Act.put]);iterate 1 (refine eF ?_;simp only [cS,Act.put])
  refine aT rfl ?_;go_wp2_with ((with_reducible refine gS 2 13 rfl ?_);refine sB (aW z) K4.1.fu ?_;intro wz hW hG;have KZ:=aa (show Bk W.heap.size TG W wz [(tb,214,aW z),(W.heap.size,214,aW z)] from K4.1.set (l1:=[_]) hG.1 hW.1));refine bB.mk KZ.1.cE (fun hSw=>?_);clear hSw;refine bC ?_;try simp only [aC,List.drop_zero]
  go_wp2_with fail;refine l9 KZ.1.fu hu ?_;exact ⟨z,false,rfl,KZ.1.bel,by rw [←HD.1];simp [HE.1]⟩
theorem kr {r:List Int} {y:Int × List Int} (h:df r=some y) (hb:aq r):aq y.2:=by
 have hs:=Au (r,0) hb;rw [df,pR] at h;split at h
 ·injection h with h;rw [←h];exact hs.2.2
 ·cases h
theorem we {n:Nat} {r:List Int} {y:List Int × List Int} (h:fJ n r=some y) (hb:aq r):aq y.2:=by
 have hs:=dO.eE n (r,0) hb;rw [fJ,pR] at h;split at h
 ·injection h with h;rw [←h];exact hs.2.1
 ·cases h
theorem rQ {n:Nat} {r:List Int} {y:Int × List Int} (h:dQ n r=some y) (hb:aq r):aq y.2:=by
 rw [kQ] at h;split at h
 ·cases h
 ·injection h with h;rw [←h];exact fun c hc=>hb c (bh hc)
def Kq (q:Mg × List Int):Int × Int × Int × List Int:=(q.1.k,q.1.key,q.1.hi,q.2)
theorem uK (key:Int) (n:Nat):∀(prev:Option Int) (first:Bool) (next:Int) (g:Mg) (l:List Int),
 ((prev=none∧first=true∧next=key∧0≤key∧key≤18446744073709551615)∨∃y,prev=some y∧first=false∧next=(y+1) % 18446744073709551616∧0≤y∧y≤18446744073709551615)→
 0≤g.hi∧g.hi≤18446744073709551615→aq l→(eR n first next g l).map Kq=(ux key g.hi n prev l).map fun r=>(g.k,g.key,g.hi,r):=by
 induction n with
 | zero=>intro prev first next g l _ _ _;rfl
 | succ n ih=>
  intro prev first next g l hr hh hb;rw [eR,ux];cases hv:df l with
  | none=>rfl
  | some q=>
   obtain ⟨x,r1⟩:=q;have hx:=pc hv hb;have hb1:=kr hv hb;simp only [aj];simp only at hx hb1;have fin:∀low:Int,low=(prev.map (· + 1)).getD key→prev≠some 18446744073709551615→next=low→0≤low→low≤18446744073709551615→(first=true∨0<next)→
    Option.map Kq (if next≤(next+x) % 18446744073709551616∧(next+x) % 18446744073709551616≤g.hi∧(first=true∨0<next) then
     (fJ 64 r1).bind fun b=>eR n false (((next+x) % 18446744073709551616+1) % 18446744073709551616) { g with pairs:=g.pairs++[⟨(next+x) % 18446744073709551616,b.1⟩] } b.2 else none) =
    Option.map (fun r=>(g.k,g.key,g.hi,r)) (if prev=some 18446744073709551615 then none else if g.hi<(prev.map (· + 1)).getD key then none else if g.hi - (prev.map (· + 1)).getD key<x then none else
     (fJ 64 r1).bind fun b=>ux key g.hi n (some ((prev.map (· + 1)).getD key+x)) b.2):=by
    intro low hlow hM hn h0 h1 hf
    rw [if_neg hM,←hlow,hn]
    by_cases g1:g.hi<low
    ·rw [if_pos g1,if_neg (by omega)];rfl
    rw [if_neg g1]
    by_cases g2:g.hi - low<x
    ·rw [if_pos g2,if_neg (by omega)];rfl
    have he:(low+x) % 18446744073709551616=low+x:=by omega
    rw [if_neg g2,he,if_pos ⟨by omega,by omega,hn▸hf⟩]
    cases hk:fJ 64 r1 with
    | none=>rfl
    | some b=>
     obtain ⟨b,r2⟩:=b;simp only [aj];exact ih (some (low+x)) false _ _ r2 (.inr ⟨low+x,rfl,rfl,rfl,by omega,by omega⟩) hh (we hk hb1)
   rcases hr with ⟨rfl,rfl,rfl,h0,h1⟩|⟨y,rfl,rfl,rfl,h0,h1⟩
   ·exact fin _ rfl (by simp) rfl h0 h1 (.inl rfl)
   ·by_cases hy:y=18446744073709551615
    ·subst hy;rw [if_neg (by simp),if_pos rfl];rfl
    ·exact fin (y+1) rfl (by simpa using hy) (by omega) (by omega) (by omega) (.inr (by omega))
theorem AJ (n:Nat):∀(prev:Option Int) (g:Mg) (l:List Int),kF g.ses=prev.getD (-1)→aq l→(kg n g l).map Kq=(yz n prev l).map fun r=>(g.k,g.key,g.hi,r):=by
 induction n with
 | zero=>intro prev g l _ _;rfl
 | succ n ih=>
  intro prev g l hp hb;rw [kg,yz];cases hc:dQ 1 l with
  | none=>rfl
  | some c=>
   obtain ⟨c,r1⟩:=c;have hcb:=nT hc hb;have hb1:=rQ hc hb;simp only [aj,hp];simp only at hb1;by_cases g1:c<16
   ·rw [if_pos g1,if_neg (by omega)];rfl
   rw [if_neg g1];by_cases g2:31<c
   ·rw [if_pos g2,if_neg (by omega)];rfl
   rw [if_neg g2];have hl:(prev.getD (-1)<c)↔¬lI prev c=true:=by
    cases prev with
    | none=>simp only [Option.getD_none,lI];constructor<;>intro _<;>first|omega|simp
    | some y=>simp only [Option.getD_some,lI,decide_eq_true_eq];omega
   by_cases g3:lI prev c=true
   ·rw [if_pos g3,if_neg (fun h=>hl.1 h.2 g3)];rfl
   rw [if_neg g3,if_pos ⟨⟨by omega,by omega⟩,hl.2 g3⟩];cases hq:df r1 with
   | none=>rfl
   | some q=>
    obtain ⟨q,r2⟩:=q;have hqb:=pc hq hb1;have hb2:=kr hq hb1;simp only [aj];simp only at hqb hb2;by_cases g4:q=0
    ·rw [if_pos g4,if_neg (by omega)];rfl
    rw [if_neg g4,if_pos (by omega)];cases hs:dQ 1 r2 with
    | none=>rfl
    | some s=>
     obtain ⟨s,r3⟩:=s;have hb3:=rQ hs hb2;simp only [aj];by_cases g5:s<1
     ·rw [if_pos g5,if_neg (by omega)];rfl
     rw [if_neg g5];by_cases g6:4<s
     ·rw [if_pos g6,if_neg (by omega)];rfl
     rw [if_neg g6,if_pos ⟨by omega,by omega⟩];exact ih (some c) _ r3 (by simp [kF]) hb3
def Kr (q:Mg × List Int):Int × List Int:=(q.1.k,q.2)
def Km (r:List Int):Int × List Int:=(12,r)
theorem pk (g:Mg) (l:List Int):gE 287 g l=(dQ 8 l).bind fun q=>some ({ g with key:=q.1 },q.2):=rfl
theorem ph (g:Mg) (l:List Int):gE 290 g l=(df l).bind fun q=>if g.key≤(g.key+q.1) % 18446744073709551616 then some ({ g with hi:=(g.key+q.1) % 18446744073709551616 },q.2) else none:=rfl
theorem pg (g:Mg) (l:List Int):gE 296 g l=((df l).bind (fun q=>if q.1≤65535 then some q else none)).bind fun q=>some ({ g with grant:=q.1 },q.2):=rfl
theorem pb (g:Mg) (l:List Int):gE 297 g l=((df l).bind (fun q=>if q.1≤65535 then some q else none)).bind fun q=>some ({ g with bounds:=q.1 },q.2):=rfl
theorem pp (g:Mg) (l:List Int):gE 302 g l=(df l).bind fun q=>if q.1≤(if g.k=6 then 16 else 32) then eR q.1.toNat true g.key g q.2 else none:=rfl
theorem ps (g:Mg) (l:List Int):gE 303 g l=(df l).bind fun q=>if q.1≤16 then kg q.1.toNat g q.2 else none:=rfl
theorem e5 (g:Mg) (l:List Int) (hk:g.k=12) (hs:g.ses=[]) (hb:aq l):(iH [303] g l).map Kr=(gY [15] g.key g.hi l).map Km:=by
 rw [iH,ps,gY,show ki 15 g.key g.hi l=Gk g.key g.hi l from rfl,Gk];cases hq:df l with
 | none=>rfl
 | some q=>
  obtain ⟨q,r⟩:=q;simp only [aj];by_cases g1:16<q
  ·rw [if_pos g1,if_neg (by omega)];rfl
  rw [if_neg g1,if_pos (by omega)];have h:=AJ q.toNat none g r (by rw [hs];rfl) (kr hq hb);cases hG:kg q.toNat g r with
  | none=>
   rw [hG] at h;cases hQ:yz q.toNat none r with
   | none=>rfl
   | some y=>rw [hQ] at h;cases h
  | some y=>
   rw [hG] at h;cases hQ:yz q.toNat none r with
   | none=>rw [hQ] at h;cases h
   | some z=>
    rw [hQ] at h;simp only [dh,bP,Kq,cC] at h;simp only [aj,iH,gY,dh,Kr,Km,h.1,h.2.2.2,hk]
theorem pu (n:Nat):∀(b:Bool) (k:Int) (g:Mg) (l:List Int) (g':Mg) (l':List Int),eR n b k g l=some (g',l')→aq l→aq l':=by
 induction n with
 | zero=>
  intro b k g l g' l' h hb;rw [eR] at h;injection h with h;injection h with h1 h2;rw [←h2];exact hb
 | succ n ih=>
  intro b k g l g' l' h hb;rw [eR] at h;cases hv:df l with
  | none=>rw [hv] at h;cases h
  | some q=>
   rw [hv,aj] at h;split at h
   ·cases hk:fJ 64 q.2 with
    | none=>rw [hk] at h;cases h
    | some y=>
     rw [hk,aj] at h;exact ih _ _ _ _ _ _ h (we hk (kr hv hb))
   ·cases h
theorem e4 (g:Mg) (l:List Int) (hk:g.k=12) (hs:g.ses=[]) (h0:0≤g.key∧g.key≤18446744073709551615) (h1:0≤g.hi∧g.hi≤18446744073709551615) (hb:aq l) :
 (iH [302,303] g l).map Kr=(gY [14,15] g.key g.hi l).map Km:=by
 rw [iH,pp,gY,show ki 14 g.key g.hi l=Gj 12 g.key g.hi l from rfl,Gj,show oR 12=32 from rfl,if_neg (by omega:¬g.k=6)];cases hq:df l with
 | none=>rfl
 | some q=>
  obtain ⟨q,r⟩:=q;simp only [aj];by_cases g1:32<q
  ·rw [if_pos g1,if_neg (by omega)];rfl
  rw [if_neg g1,if_pos (by omega)];have hbr:=kr hq hb;have h:=uK g.key q.toNat none true g.key g r (.inl ⟨rfl,rfl,rfl,h0⟩) h1 hbr;cases hG:eR q.toNat true g.key g r with
  | none=>
   rw [hG] at h;cases hQ:ux g.key g.hi q.toNat none r with
   | none=>rfl
   | some y=>rw [hQ] at h;cases h
  | some y=>
   obtain ⟨g',r'⟩:=y;have hkp:=iN _ _ _ _ _ _ _ hG;rw [hG] at h;cases hQ:ux g.key g.hi q.toNat none r with
   | none=>rw [hQ] at h;cases h
   | some z=>
    rw [hQ] at h;simp only [dh,bP,Kq,cC] at h;obtain ⟨a1,a2,a3,rfl⟩:=h;simp only [aj,dh];rw [←a2,←a3];exact e5 g' r' (a1.trans hk) (hkp.1.trans hs) (pu _ _ _ _ _ _ _ hG hbr)
theorem e3 (g:Mg) (l:List Int) (hk:g.k=12) (hs:g.ses=[]) (h0:0≤g.key∧g.key≤18446744073709551615) (h1:0≤g.hi∧g.hi≤18446744073709551615) (hb:aq l) :
 (iH [297,302,303] g l).map Kr=(gY [11,14,15] g.key g.hi l).map Km:=by
 rw [iH,pb,gY,show ki 11 g.key g.hi l=(df l).bind fun q=>if 65535<q.1 then none else some (g.key,g.hi,q.2) from rfl];cases hq:df l with
 | none=>rfl
 | some q=>
  simp only [aj];by_cases g1:65535<q.1
  ·rw [if_pos g1,if_neg (by omega)];rfl
  rw [if_neg g1,if_pos (by omega)];simp only [aj];exact e4 { g with bounds:=q.1 } q.2 hk hs h0 h1 (kr hq hb)
theorem e2 (g:Mg) (l:List Int) (hk:g.k=12) (hs:g.ses=[]) (h0:0≤g.key∧g.key≤18446744073709551615) (h1:0≤g.hi∧g.hi≤18446744073709551615) (hb:aq l) :
 (iH [296,297,302,303] g l).map Kr=(gY [10,11,14,15] g.key g.hi l).map Km:=by
 rw [iH,pg,gY,show ki 10 g.key g.hi l=(df l).bind fun q=>if 65535<q.1 then none else some (g.key,g.hi,q.2) from rfl];cases hq:df l with
 | none=>rfl
 | some q=>
  simp only [aj];by_cases g1:65535<q.1
  ·rw [if_pos g1,if_neg (by omega)];rfl
  rw [if_neg g1,if_pos (by omega)];simp only [aj];exact e3 { g with grant:=q.1 } q.2 hk hs h0 h1 (kr hq hb)
theorem e1 (g:Mg) (l:List Int) (hk:g.k=12) (hs:g.ses=[]) (h0:0≤g.key∧g.key≤18446744073709551615) (hb:aq l) :
 (iH [290,296,297,302,303] g l).map Kr=(gY [3,10,11,14,15] g.key g.hi l).map Km:=by
 rw [iH,ph,gY,show ki 3 g.key g.hi l=(df l).bind fun q=>if 18446744073709551615 - g.key<q.1 then none else some (g.key,g.key+q.1,q.2) from rfl];cases hq:df l with
 | none=>rfl
 | some q=>
  have hx:=pc hq hb;simp only [aj];by_cases g1:18446744073709551615 - g.key<q.1
  ·rw [if_pos g1,if_neg (by omega)];rfl
  have he:(g.key+q.1) % 18446744073709551616=g.key+q.1:=by omega
  rw [if_neg g1,he,if_pos (by omega)];simp only [aj];exact e2 { g with hi:=g.key+q.1 } q.2 hk hs h0 ⟨by simp only;omega,by simp only;omega⟩ (kr hq hb)
theorem e0 (l:List Int) (hb:aq l):(iH (fieldsOf 12) (sH 12) l).map Kr=(gY [2,3,10,11,14,15] 0 0 l).map Km:=by
 rw [show fieldsOf 12=[287,290,296,297,302,303] from rfl,iH,pk,gY,show ki 2 0 0 l=(dQ 8 l).map fun q=>(q.1,0,q.2) from rfl];cases hq:dQ 8 l with
 | none=>rfl
 | some q=>
  have hx:=nT (x:=q.1) (rest:=q.2) hq hb;simp only [aj,dh];exact e1 { sH 12 with key:=q.1 } q.2 rfl rfl ⟨hx.1,by have:=hx.2;simp only;omega⟩ (rQ hq hb)
theorem yg (d:List Int) (h:d.length=4):yO d=val d:=by
 obtain ⟨a,b,c,e,rfl⟩:∃a b c e,d=[a,b,c,e]:=by
  match d,h with
  | [a,b,c,e],_=>exact ⟨a,b,c,e,rfl⟩
 simp [yO,rd,val];omega
theorem wL (l:List Int) (hb:aq l) (h7:4≤l.length):l.take (l.length - 4)++be 4 (eH (l.take (l.length - 4)))=l↔(eH (l.take (l.length - 4)):Int)=yO (l.drop (l.length - 4)):=by
 have hd:(l.drop (l.length - 4)).length=4:=by rw [List.length_drop];omega
 have hbd:aq (l.drop (l.length - 4)):=fun c hc=>hb c (bh hc);have hs:eH (l.take (l.length - 4))<4294967296:=by unfold eH;omega
 generalize eH (l.take (l.length - 4))=s at hs ⊢;have h1:(l.take (l.length - 4)++be 4 s=l)↔be 4 s=l.drop (l.length - 4):=by
  constructor
  ·intro h;have:=congrArg (List.drop (l.length - 4)) h;rwa [List.drop_left' (by rw [List.length_take];omega)] at this
  ·intro h;rw [h,Eb]
 rw [h1,yg _ hd];constructor
 ·intro h;rw [←h,qU];omega
 ·intro h;have hv:=AX _ hbd;rw [hd,←h,Int.toNat_natCast] at hv;exact hv
theorem uJ (k:Int):∀t∈fieldsOf k,t∈AF:=by
 intro t ht;by_cases h:k=6
 ·subst h;have h':t∈[286,292,293,294]:=ht;revert t;decide
 ·exact List.mem_cons_of_mem _ (sg k h t ht)
theorem zJ (ts:List Nat):∀(g:Mg) (l:List Int) (q:Mg × List Int),(∀t∈ts,t∈AF)→iH ts g l=some q→q.1.k=g.k:=by
 induction ts with
 | nil=>
  intro g l q _ h;rw [iH] at h;injection h with h;rw [←h]
 | cons t ts ih=>
  intro g l q hs h;rw [iH] at h;cases hp:gE t g l with
  | none=>rw [hp] at h;cases h
  | some y=>
   rw [hp,aj] at h;exact (ih _ _ _ (fun t ht=>hs t (List.mem_cons_of_mem _ ht)) h).trans (za t g l (hs t List.mem_cons_self) y.1 y.2 hp)
theorem del_eq (l:List Int) (hb:aq l):mT l↔dO.hU l=true:=by
 have hbo:aq ((l.take (l.length - 4)).drop 3):=fun x hx=>hb x (List.mem_of_mem_take (bh hx));have hc:=e0 _ hbo;constructor
 ·intro h;have h2:=h.h2;rw [h.h7] at hc;unfold dO.hU ic;rw [if_pos h.h1,if_pos h.h2,if_pos h.h3,if_pos h.h4,if_pos ((wL l hb (by omega)).1 h.h5),h.h6,if_pos (by omega)];cases hp:iH (fieldsOf 12) (sH 12) ((l.take (l.length - 4)).drop 3) with
  | none=>rw [hp] at hc;cases hc
  | some q=>
   rw [hp] at hc;simp only [dh,bP,Kr,Km,cC] at hc;simp [dO.sc,hc.1,hc.2]
 ·intro h;unfold dO.hU ic at h;by_cases g1:l.length≤4096
  case neg=>rw [if_neg g1] at h;cases h
  rw [if_pos g1] at h;by_cases g2:7≤l.length
  case neg=>rw [if_neg g2] at h;cases h
  rw [if_pos g2] at h;by_cases g3:rd l 0=83
  case neg=>rw [if_neg g3] at h;cases h
  rw [if_pos g3] at h;by_cases g4:rd l 1=1
  case neg=>rw [if_neg g4] at h;cases h
  rw [if_pos g4] at h;by_cases g5:(eH (l.take (l.length - 4)):Int)=yO (l.drop (l.length - 4))
  case neg=>rw [if_neg g5] at h;cases h
  rw [if_pos g5] at h;by_cases g6:1≤rd l 2∧rd l 2≤12
  case neg=>rw [if_neg g6] at h;cases h
  rw [if_pos g6] at h;cases hp:iH (fieldsOf (rd l 2)) (sH (rd l 2)) ((l.take (l.length - 4)).drop 3) with
  | none=>rw [hp] at h;cases h
  | some q=>
   rw [hp,aj] at h;by_cases g7:q.2.length=0
   case neg=>rw [if_neg g7] at h;cases h
   rw [if_pos g7] at h;have hk:q.1.k=12:=by simpa [dO.sc] using h
   have hk2:q.1.k=rd l 2:=zJ _ _ _ _ (uJ _) hp;have h12:rd l 2=12:=hk2.symm.trans hk;rw [h12] at hp;rw [hp] at hc;cases hA:gY [2,3,10,11,14,15] 0 0 ((l.take (l.length - 4)).drop 3) with
   | none=>rw [hA] at hc;cases hc
   | some r=>
    rw [hA] at hc;simp only [dh,bP,Kr,Km,cC] at hc;exact ⟨g1,g2,g3,g4,(wL l hb (by omega)).2 g5,h12,by rw [hA,←hc.2,List.length_eq_zero_iff.1 g7]⟩
end Go.Proofs.YtpekmdpbfjdjkaaGreat.ref