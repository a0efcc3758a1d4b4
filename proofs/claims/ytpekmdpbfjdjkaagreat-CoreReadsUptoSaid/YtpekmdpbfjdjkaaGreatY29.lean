/- Part 29 of the proof that reading bytes answers as the document does. No condition. -/
import Derived.Test.YtpekmdpbfjdjkaaGreatY28
set_option maxHeartbeats 16000000
set_option maxRecDepth 100000
set_option linter.all false
namespace Go.Proofs.YtpekmdpbfjdjkaaGreat.ref
open Go Go.RowKit ag.ax ag.aV ag.aU aD fr iK cL plain fE dO
theorem qv (A:Option Addr) (c:Nat) (l:List Int) (W:World) (hl:Kd.C (Kd.int .u8) W A l.length l) (hc:l.length≤c) (hL:l.length≤100000000) (hb:aq l) :
 Calls Tryz.prog 122 #[.slice A l.length c] W fun e w'=>∃z:Zm,e = .returned (.tuple #[.agg (aW z), .bool (hU l)])∧Below W.heap.size W w':=
 (qK A c l W hl hc hL hb).mono fun e w' ⟨z,b,he,hB,hd⟩=>⟨z,by
  have h:b=hU l:=by
   have h2:=hd.trans (del_eq l hb);cases b<;>cases h3:hU l<;>simp_all
  rw [he,h],hB⟩
def wS (n:Nat) (s:Hs):Bool:=zU n s.peers&&dp s.peers
theorem qW (s:Hs) (n:Nat) (hn:s.self=(n:Int)) (A1 A2 A3 A6:Option Addr) (c1 c2 c3 c6:Nat) (W:World) (hr:pL W s A1 A2 A3 A6 c1 c2 c3 c6) (hb:oO s) :
 Calls Tryz.prog 78 #[.agg (jw s A1 A2 A3 A6 c1 c2 c3 c6)] W (rV W (wS n s)):=by
 have hu68:=Tryz.underlying68;have hu99:=Tryz.underlying99;have hu30:=Tryz.underlying30;have hu28:=Tryz.underlying28;have HR:=aa hr;have HB:=aa hb;have hLp:=hb.b6.1;have hn1:(n:Int)≤255:=hn▸hb.b0.2;have DL:=aa qv;generalize hO:wS n s=o;have HO:=aa hO;have NO:=aa (show ∀W',false=o→Below W.heap.size W W'→rV W o (.returned (.bool false)) W' from fun W' e h=>by subst e;exact ⟨rfl,h⟩);have YO:=aa (show ∀W',true=o→Below W.heap.size W W'→rV W o (.returned (.bool true)) W' from fun W' e h=>by subst e;exact ⟨rfl,h⟩);clear hr hb hO;unfold jw;rw [hn];clear hn;go_in;go_wp2_with fail;have B1:=aa (ah (Below.refl _ W) (.cells #[.int .u8 (n:Int), .slice A1 s.table.length c1, .slice A2 s.pairs.length c2, .slice A3 s.ses.length c3, .int .i64 s.free, .int .i64 s.spare, .slice A6 s.peers.length c6] 30));have BX:=aa (aJ W (.cells #[.int .u8 (n:Int), .slice A1 s.table.length c1, .slice A2 s.pairs.length c2, .slice A3 s.ses.length c3, .int .i64 s.free, .int .i64 s.spare, .slice A6 s.peers.length c6] 30));have XL:=aa (Ce n s.peers A6 c6 (W.alloc (.cells #[.int .u8 (n:Int), .slice A1 s.table.length c1, .slice A2 s.pairs.length c2, .slice A3 s.ses.length c3, .int .i64 s.free, .int .i64 s.spare, .slice A6 s.peers.length c6] 30)) (by omega) (Kd.eU HR.1.r6 _) HR.1.l6 (by omega) (fun x hx=>HB.1.b6.2 x hx));generalize World.alloc W _=W1 at B1 BX XL ⊢;generalize W.heap.size=b1 at BX ⊢;refine XL.1.mono ?_;rintro e w2 ⟨hB,v,er,rfl,her⟩;have B2:=aa (B1.1.trans (hB.mono B1.1.size));have BX2:=aa ((hB.block b1 (ak BX.1)).trans BX.1);have E2:=aa her;clear hB her XL;have x6:w2.cell? ⟨b1,6,none⟩=some (.slice A6 s.peers.length c6):=cell_of BX2.1 6;cases hx:zU n s.peers with
 | false=>
  have hne:(er != 0)=true:=by have h:=E2.1;rw [hx] at h;simpa using h
  have HO2:=aa (show false=o by rw [←HO.1,wS,hx];rfl);clear HO hx E2;go_wp2_with fail;go_ret;exact NO.1 _ HO2.1 B2.1
 | true=>
 have hne:er=0:=by have h:=E2.1;rw [hx] at h;simpa using h
 subst hne;have HO2:=aa (show dp s.peers=o by rw [←HO.1,wS,hx];rfl);clear HO hx E2 BX B1;go_wp2_with fail;clear x6;have LX:=aa (ak BX2.1);have II:=aa (And.intro B2.1 BX2.1);clear B2 BX2;go_loopw [5] (fun v5 wr=>∃i:Nat,i≤s.peers.length∧v5 = .int .i64 i∧af (dp (s.peers.drop i)=o)∧af (Below W.heap.size W wr∧wr.heap[b1]? = some (.cells #[.int .u8 (n:Int), .slice A1 s.table.length c1, .slice A2 s.pairs.length c2, .slice A3 s.ses.length c3, .int .i64 s.free, .int .i64 s.spare, .slice A6 s.peers.length c6] 30 (0,0)))) (fun v _=>s.peers.length - (intOf v).toNat)
 case atStart=>exact ⟨0,aI _,rfl,HO2,II⟩
 case round=>
  obtain ⟨i,hi,rfl,J0,HW⟩:=hrel;clear HO2 II;have x6:wr.cell? ⟨b1,6,none⟩=some (.slice A6 s.peers.length c6):=cell_of HW.1.2 6;by_cases hlt:i<s.peers.length
  case neg=>
   have HO4:=aa (show true=o by have J:=J0.1;rw [List.drop_eq_nil_of_le (by omega)] at J;exact J);go_wp2_with fail;go_ret;exact YO.1 _ HO4.1 HW.1.1
  obtain ⟨ad,X2,d2,X5,d5,e1,m0,m1,m2,m3,m4,m5,l2,C2,l5,C5⟩:=jY (Kd.aN HR.1.r6 HW.1.1) (i:Int) (by omega) (by omega);subst e1;simp only [Int.toNat_natCast] at m0 m1 m2 m3 m4 m5 C2 C5;have hrd:cN s.peers (i:Int)=s.peers[i]:=by simp [cN,List.getD_eq_getElem?_getD,hlt]
  have PO:=aa (HB.1.b6.2 _ (hrd▸List.getElem_mem hlt:cN s.peers (i:Int)∈s.peers));have J:=J0.1;rw [ap hlt,dp,jO,←hrd] at J;generalize cN s.peers (i:Int)=x at m0 m1 m2 m3 m4 m5 l2 C2 l5 C5 PO J;have J1:=aa (show ((dq x.f2&&de x.f5)&&dp (s.peers.drop (i+1)))=o from J);have D2:=aa C2;have D5:=aa C5;have hx2:=PO.1.l2;have hx5:=PO.1.l5;clear J J0 hrd C2 C5;go_wp2_with ((with_reducible refine gS 6 41 rfl ?_);refine sB #[.int .u64 x.f0, .int .u64 x.f1, .slice X2 x.f2.length d2, .int .u64 x.f3, .int .u64 x.f4, .slice X5 x.f5.length d5] (aJ wr _) ?_;intro wz PN hG;have WP:=aa (bt (ah (Below.refl _ wr) _) hG.1 (Nat.le_refl _));generalize wz=w3 at PN WP ⊢);clear m0 m1 m2 m3 m4 m5 x6;have HW3:=aa (HW.1.1.trans (WP.1.mono HW.1.1.size));have HX3:=aa ((WP.1.block b1 (ak HW.1.2)).trans HW.1.2);generalize wr.heap.size=pb at PN ⊢;go_wp2_with fail;go_loopw [7] (fun v7 wq=>∃j:Nat,j≤x.f2.length∧v7 = .int .i64 j∧af (((dq (x.f2.drop j)&&de x.f5)&&dp (s.peers.drop (i+1)))=o)∧af (Below w3.heap.size w3 wq)) (fun v _=>x.f2.length - (intOf v).toNat)
  case atStart=>exact ⟨0,aI _,rfl,J1,⟨Below.refl _ _⟩⟩
  case round=>
   obtain ⟨j,hj,rfl,K0,HQ⟩:=hrel;generalize wr=wq at HQ ⊢;clear J1;have z2:wq.cell? ⟨pb,2,none⟩=some (.slice X2 x.f2.length d2):=an HQ.1 (cell_of PN.1 2);by_cases hjt:j<x.f2.length
   ·have D2q:=Kd.aN D2.1 (WP.1.trans (HQ.1.mono WP.1.size));obtain ⟨ad2,c9,e1,_,hK,hc0⟩:=Kd.fw D2q [] (j:Int) (by omega) (by omega);obtain ⟨Y1,q1,rfl,hq1,hC1⟩:=hK;have hy0:=hc0 0 _ rfl;subst e1;simp only [Int.toNat_natCast,show (Kd.slice 5 (Kd.int .u8)).sz=1 from rfl,Nat.mul_one,Nat.add_zero,List.getD_eq_getElem?_getD,List.getElem?_eq_getElem hjt,Option.getD_some] at hy0 hq1 hC1;have hm:=List.getElem_mem hjt;have K:=K0.1;rw [ap hjt,dq,jO] at K;have hlen:=PO.1.b2 _ hm;have hbyt:=PO.1.y2 _ hm;generalize x.f2[j]=y at hy0 hq1 hC1 K hlen hbyt;have K1:=aa (show (((hU y&&dq (x.f2.drop (j+1)))&&de x.f5)&&dp (s.peers.drop (i+1)))=o from K);have DY:=aa (DL.1 Y1 q1 y wq hC1 hq1 hlen hbyt);clear K K0 hC1 hc0 hlen hbyt hm D2q hq1;go_wp2_with fail;refine DY.1.mono ?_;rintro e w4 ⟨z,rfl,hB4⟩;have H4:=aa (HQ.1.trans (hB4.mono HQ.1.size));clear hB4 DY HQ hy0 z2;cases hd:hU y with
    | false=>
     have HO4:=aa (show false=o by have K:=K1.1;rw [hd] at K;exact K);clear K1 hd;go_wp2_with ((with_reducible refine gS 8 56 rfl ?_);refine sB (aW z) (aJ w4 _) ?_;intro wz hW hG;have H5:=aa (bt (H4.1.trans ((ah (Below.refl _ w4) _).mono H4.1.size)) hG.1 H4.1.size);generalize wz=w5 at H5 ⊢);go_ret;exact NO.1 _ HO4.1 (HW3.1.trans (H5.1.mono HW3.1.size))
    | true=>
     have HO4:=aa (show ((dq (x.f2.drop (j+1))&&de x.f5)&&dp (s.peers.drop (i+1)))=o by have K:=K1.1;rw [hd] at K;exact K);clear K1 hd;go_wp2_with ((with_reducible refine gS 8 56 rfl ?_);refine sB (aW z) (aJ w4 _) ?_;intro wz hW hG;have H5:=aa (bt (H4.1.trans ((ah (Below.refl _ w4) _).mono H4.1.size)) hG.1 H4.1.size);generalize wz=w5 at H5 ⊢);go_roundw
     case rel=>exact ⟨j+1,by omega,by go_num,HO4,H5⟩
     case measure=>
      show x.f2.length - ((j:Int)+1).toNat<x.f2.length - (j:Int).toNat;omega
   have J2:=aa (show (de x.f5&&dp (s.peers.drop (i+1)))=o by have K:=K0.1;rw [List.drop_eq_nil_of_le (by omega)] at K;exact K);clear K0;go_wp2_with fail;clear z2;go_loopw [10] (fun v10 wp=>∃k:Nat,k≤x.f5.length∧v10 = .int .i64 k∧af ((de (x.f5.drop k)&&dp (s.peers.drop (i+1)))=o)∧af (Below w3.heap.size w3 wp)) (fun v _=>x.f5.length - (intOf v).toNat)
   case atStart=>exact ⟨0,aI _,rfl,J2,HQ⟩
   case round=>
    obtain ⟨k,hk,rfl,K0,HP⟩:=hrel;generalize wr=wp at HP ⊢;clear J2 HQ;have z5:wp.cell? ⟨pb,5,none⟩=some (.slice X5 x.f5.length d5):=an HP.1 (cell_of PN.1 5);by_cases hkt:k<x.f5.length
    ·have D5q:=Kd.aN D5.1 (WP.1.trans (HP.1.mono WP.1.size));obtain ⟨ad2,c9,e1,_,hK,hc0⟩:=Kd.fw D5q sI (k:Int) (by omega) (by omega);obtain ⟨Y1,q1,rfl,hq1,hC1⟩:=gn hK;have hy1:=hc0 1 _ rfl;subst e1;simp only [Int.toNat_natCast,show jC.sz=2 from rfl,Nat.add_zero,List.getD_eq_getElem?_getD,List.getElem?_eq_getElem hkt,Option.getD_some] at hy1 hq1 hC1;rw [dw _ _ 1 (by omega)] at hy1;have hm:=List.getElem_mem hkt;have K:=K0.1;rw [ap hkt,de,jO] at K;have hlen:=PO.1.b5 _ hm;have hbyt:=(PO.1.y5 _ hm).2;generalize x.f5[k]=y at hy1 hq1 hC1 K hlen hbyt;have K1:=aa (show ((hU y.f1&&de (x.f5.drop (k+1)))&&dp (s.peers.drop (i+1)))=o from K);have DY:=aa (DL.1 Y1 q1 y.f1 wp hC1 hq1 hlen hbyt);clear K K0 hC1 hc0 hlen hbyt hm D5q hq1;go_wp2_with fail;refine DY.1.mono ?_;rintro e w4 ⟨z,rfl,hB4⟩;have H4:=aa (HP.1.trans (hB4.mono HP.1.size));clear hB4 DY HP hy1 z5;cases hd:hU y.f1 with
     | false=>
      have HO4:=aa (show false=o by have K:=K1.1;rw [hd] at K;exact K);clear K1 hd;go_wp2_with ((with_reducible refine gS 11 75 rfl ?_);refine sB (aW z) (aJ w4 _) ?_;intro wz hW hG;have H5:=aa (bt (H4.1.trans ((ah (Below.refl _ w4) _).mono H4.1.size)) hG.1 H4.1.size);generalize wz=w5 at H5 ⊢);go_ret;exact NO.1 _ HO4.1 (HW3.1.trans (H5.1.mono HW3.1.size))
     | true=>
      have HO4:=aa (show (de (x.f5.drop (k+1))&&dp (s.peers.drop (i+1)))=o by have K:=K1.1;rw [hd] at K;exact K);clear K1 hd;go_wp2_with ((with_reducible refine gS 11 75 rfl ?_);refine sB (aW z) (aJ w4 _) ?_;intro wz hW hG;have H5:=aa (bt (H4.1.trans ((ah (Below.refl _ w4) _).mono H4.1.size)) hG.1 H4.1.size);generalize wz=w5 at H5 ⊢);go_roundw
      case rel=>exact ⟨k+1,by omega,by go_num,HO4,H5⟩
      case measure=>
       show x.f5.length - ((k:Int)+1).toNat<x.f5.length - (k:Int).toNat;omega
    have J3:=aa (show dp (s.peers.drop (i+1))=o by have K:=K0.1;rw [List.drop_eq_nil_of_le (by omega)] at K;exact K);clear K0;go_wp2_with fail;go_roundw
    case rel=>exact ⟨i+1,by omega,by go_num,J3,⟨⟨HW3.1.trans (HP.1.mono HW3.1.size),(HP.1.block b1 (ak HX3.1)).trans HX3.1⟩⟩⟩
    case measure=>
     show s.peers.length - ((i:Int)+1).toNat<s.peers.length - (i:Int).toNat;omega
theorem zP (A:Option Addr) (c:Nat) (l:List eW) (W:World) (hl:Kd.C jo W A l.length l) (hL:l.length≤100000000) :
 Calls Tryz.prog 147 #[.slice A l.length c] W fun e w'=>∃a er,e = .returned (.tuple #[.int .i64 a, .int .i64 er])∧Below W.heap.size W w'∧decide (er=0)=jc l 0 false:=by
 have hu76:=Tryz.underlying76;have HC:=aa hl;generalize hO:jc l 0 false=o;have HO:=aa (show jc (l.drop 0) 0 false=o from hO);have NO:=aa (fun (a er:Int) (w:World) (h:false=o) (he:er≠0) (hb:Below W.heap.size W w)=>show ∃a' er',Ending.returned (.tuple #[.int .i64 a, .int .i64 er]) = .returned (.tuple #[.int .i64 a', .int .i64 er'])∧Below W.heap.size W w∧decide (er'=0)=o from ⟨a,er,rfl,hb,by rw [←h];exact decide_eq_false he⟩);clear hl hO;go_in;go_wp2_with fail;go_loopw [4,5,6] (fun v4 v5 v6 wr=>∃(i:Nat) (next:Int) (qc:Bool),i≤l.length∧v4 = .int .u64 next∧v5 = .bool qc∧v6 = .int .i64 i∧af (jc (l.drop i) next qc=o)∧af (Below W.heap.size W wr)) (fun _ _ v _=>l.length - (intOf v).toNat)
 case atStart=>exact ⟨0,0,false,aI _,rfl,rfl,rfl,HO,⟨Below.refl _ _⟩⟩
 case round=>
  obtain ⟨i,next,qc,hi,rfl,rfl,rfl,J0,HW⟩:=hrel;clear HO;by_cases hlt:i<l.length
  case neg=>
   have HO2:=aa (show qc=o by have J:=J0.1;rw [List.drop_eq_nil_of_le (by omega),jc] at J;exact J);cases qc with
   | false=>
    go_wp2_with fail;go_ret2;exact NO.1 _ _ _ HO2.1 (by decide) HW.1
   | true=>
    go_wp2_with fail;go_ret2;exact ⟨_,_,rfl,HW.1,by rw [←HO2.1];rfl⟩
  obtain ⟨ad,e1,m0,m1,m2⟩:=gd (Kd.aN HC.1 HW.1) (i:Int) (by omega) (by omega);subst e1;simp only [Int.toNat_natCast] at m0 m1 m2;have hrd:bg l (i:Int)=l[i]:=by simp [bg,List.getD_eq_getElem?_getD,hlt]
  have J:=J0.1;rw [ap hlt,←hrd,jc] at J;generalize bg l (i:Int)=s at m0 m1 m2 J;have HJ:=aa J;clear J J0 hrd;cases qc with
  | true=>
   have HO2:=aa (show false=o by have J:=HJ.1;rw [if_pos rfl] at J;exact J);go_wp2_with fail;go_ret2;exact NO.1 _ _ _ HO2.1 (by decide) HW.1
  | false=>
  by_cases g1:s.f0=next
  case neg=>
   have g1b:(s.f0 != next)=true:=mq.2 g1;have HO2:=aa (show false=o by have J:=HJ.1;rw [if_neg Bool.false_ne_true,if_neg g1] at J;exact J);clear HJ g1;go_wp2_with fail;go_ret2;exact NO.1 _ _ _ HO2.1 (by decide) HW.1
  have g1b:(s.f0 != next)=false:=ci.2 g1;by_cases g2:s.f0≤s.f1
  case neg=>
   have g2b:decide (s.f1<s.f0)=true:=decide_eq_true (by omega);have HO2:=aa (show false=o by have J:=HJ.1;rw [if_neg Bool.false_ne_true,if_pos g1,if_neg g2] at J;exact J);clear HJ g1 g2;go_wp2_with fail;go_quiet (fail);go_wp2_with fail;go_ret2;exact NO.1 _ _ _ HO2.1 (by decide) (ai HW.1 _)
  have g2b:decide (s.f1<s.f0)=false:=decide_eq_false (by omega);have HJ2:=aa (show (if s.f2≤15 then jc (l.drop (i+1)) (IntKind.u64.wrap (s.f1+1)) (s.f1 == 18446744073709551615) else false)=o by have J:=HJ.1;rw [if_neg Bool.false_ne_true,if_pos g1,if_pos g2] at J;exact J);clear HJ g1 g2;go_wp2_with fail;go_quiet (fail);have n1:=an (ai (Below.refl wr.heap.size wr) nq) m1;have n2:=an (ai (Below.refl wr.heap.size wr) nq) m2;have W2:=aa (ai HW.1 nq);clear m0 m1 m2 g1b g2b;generalize wr.drewN nq=w2 at n1 n2 W2 ⊢;have IH:=aa (ii.calls s.f2 _ w2 rfl);go_wp2_with fail;refine IH.1.mono ?_;rintro e w3 ⟨rfl,⟨q,rfl⟩⟩;have o1:=an (ai (Below.refl w2.heap.size w2) q) n1;have W3:=aa (ai W2.1 q);clear n1 n2 IH W2;generalize w2.drewN q=w3 at o1 W3 ⊢;by_cases g3:s.f2≤15
  case neg=>
   have g3b:decide (s.f2≤15)=false:=decide_eq_false g3;have HO2:=aa (show false=o by have J:=HJ2.1;rw [if_neg g3] at J;exact J);clear HJ2 g3;go_wp2_with fail;go_ret2;exact NO.1 _ _ _ HO2.1 (by decide) W3.1
  have g3b:decide (s.f2≤15)=true:=decide_eq_true g3;have HO2:=aa (show jc (l.drop (i+1)) (IntKind.u64.wrap (s.f1+1)) (s.f1 == 18446744073709551615)=o by have J:=HJ2.1;rw [if_pos g3] at J;exact J);clear HJ2 g3;go_wp2_with fail;go_roundw
  case rel=>exact ⟨i+1,_,_,by omega,rfl,rfl,by go_num,HO2,W3⟩
  case measure=>
   show l.length - ((i:Int)+1).toNat<l.length - (i:Int).toNat;omega
theorem BT (A:Option Addr) (c:Nat) (l:List eW) (W:World) (hl:Kd.C jo W A l.length l) (hL:l.length≤100000000) :
 Calls Tryz.prog 148 #[.slice A l.length c] W fun e w'=>∃v,e = .returned v∧Kd.R jo 76 w' W.heap.size (fun _=>True) v (l.foldl dS [])∧Below W.heap.size W w':=by
 have hu76:=Tryz.underlying76;have HC:=aa hl;generalize hO:l.foldl dS []=o;have HO:=aa (show (l.drop 0).foldl dS []=o from hO);clear hl hO;go_in;go_wp2_with fail;go_loopw [3,4] (fun v3 v4 wr=>∃(i:Nat) (out:List eW),i≤l.length∧v4 = .int .i64 i∧af (Kd.R jo 76 wr W.heap.size (fun _=>True) v3 out)∧af (out.length≤i)∧af ((l.drop i).foldl dS out=o)∧af (Below W.heap.size W wr)) (fun _ v _=>l.length - (intOf v).toNat)
 case atStart=>exact ⟨0,[],aI _,rfl,⟨Kd.cY _ _ _ _ _⟩,⟨Nat.le_refl _⟩,HO,⟨Below.refl _ _⟩⟩
 case round=>
  obtain ⟨i,out,hi,rfl,R0,HN,J0,HW⟩:=hrel;clear HO;obtain ⟨B,d,hv⟩:=Kd.aG R0.1;subst hv;by_cases hlt:i<l.length
  case neg=>
   have HO2:=aa (show out=o by have J:=J0.1;rw [List.drop_eq_nil_of_le (by omega)] at J;exact J);go_wp2_with fail;go_ret;exact ⟨_,rfl,HO2.1▸R0.1,HW.1⟩
  obtain ⟨ad,e1,m0,m1,m2⟩:=gd (Kd.aN HC.1 HW.1) (i:Int) (by omega) (by omega);subst e1;simp only [Int.toNat_natCast] at m0 m1 m2;have hrd:bg l (i:Int)=l[i]:=by simp [bg,List.getD_eq_getElem?_getD,hlt]
  have J:=J0.1;rw [ap hlt,←hrd,dD] at J;generalize bg l (i:Int)=s at m0 m1 m2 J;have HJ:=aa J;have hol:out.length≤100000000:=by have:=HN.1;omega
  clear J J0 hrd;go_upto_region 6 with (fail);go_cut [29] (fun s29 wx=>s29 = .bool (lm out s)∧af (∃n,wx=wr.drewN n))
  case first=>
   by_cases h0:0<out.length
   ·obtain ⟨ae,rfl,p0,p1,p2⟩:=gd (Kd.bI R0.1).2.2 ((out.length - 1:Nat):Int) (by omega) (by omega);rw [Int.toNat_natCast] at p2;have hc:lm out s=((bg out ((out.length - 1:Nat):Int)).f2 == s.f2):=by
     unfold lm;by_cases q:(bg out ((out.length - 1:Nat):Int)).f2=s.f2
     ·rw [decide_eq_true ⟨h0,q⟩,gw.2 q]
     ·rw [decide_eq_false (fun h=>q h.2),bi.2 q]
    have HC2:=aa hc;clear p0 p1 hc;generalize (bg out ((out.length - 1:Nat):Int)).f2=y at p2 HC2;have hp2:decide (0<out.length)=true:=decide_eq_true h0;have hsub:wrap64 ((out.length:Int) - 1)=((out.length - 1:Nat):Int):=by rw [IntWalk.wrap64_in _ (by omega)];omega
    have hsub2:IntKind.i64.wrap ((out.length:Int) - 1)=((out.length - 1:Nat):Int):=by rw [aA _ (by omega)];omega
    have hq:(((out.length - 1:Nat):Nat):Int)<(out.length:Int):=by omega
    have hw:IntKind.i64.wrap ((out.length - 1:Nat):Int)=((out.length - 1:Nat):Int):=aA _ (by omega);have hw2:wrap64 ((out.length - 1:Nat):Int)=((out.length - 1:Nat):Int):=IntWalk.wrap64_in _ (by omega);generalize out.length - 1=m at *;have hm0:(0:Int)≤(m:Int):=by omega
    go_quiet (fail);go_wp2_with fail;go_meet;exact ⟨by rw [HC2.1],⟨_,rfl⟩⟩
   ·have hp:decide (0<out.length)=false:=decide_eq_false h0;have HC2:=aa (show lm out s=false from decide_eq_false (fun h=>h0 h.1));clear h0;go_quiet (fail);go_wp2_with fail;go_meet;exact ⟨by rw [HC2.1],⟨_,rfl⟩⟩
  case rest=>
   obtain ⟨rfl,n,rfl⟩:=hcut;have R1:=aa (Kd.cQ R0.1 n);have B1:=aa (ai HW.1 n);have n0:=an (ai (Below.refl wr.heap.size wr) n) m0;have n1:=an (ai (Below.refl wr.heap.size wr) n) m1;have n2:=an (ai (Below.refl wr.heap.size wr) n) m2;clear R0 HW m0 m1 m2;generalize wr.drewN n=w2 at R1 B1 n0 n1 n2 ⊢;cases hc:lm out s with
   | true=>
    have hd:=of_decide_eq_true hc;have PT:=aa (show dS out s=out.set (out.length - 1) ⟨(bg out ((out.length - 1:Nat):Int)).f0,s.f1,(bg out ((out.length - 1:Nat):Int)).f2⟩ by unfold dS;rw [if_pos hd]);obtain ⟨inner,_,⟨_,q0⟩|⟨g,cap,cur,he,_,_,_,_⟩⟩:=Kd.kB R1.1
    ·omega
    injection he with he _ hcap;subst he;subst hcap;have hsub:wrap64 ((out.length:Int) - 1)=((out.length - 1:Nat):Int):=by rw [IntWalk.wrap64_in _ (by omega)];omega
    have hq:(((out.length - 1:Nat):Nat):Int)<(out.length:Int):=by omega
    have hq2:out.length - 1<out.length:=by omega
    clear hc hd;go_wp2_with ((with_reducible refine gS 39 37 rfl ?_);refine oE (W0:=W) (base:=W.heap.size) rfl rfl 57 (.tmp 39) (.tmp 37) rfl (by kernel_rfl) (out.length - 1) hq2 s.f1 rfl rfl R1.1 B1.1 ?_;intro w3 hR hB hG;have R2:=aa hR;have B2:=aa hB;have L2:=aa (show (dS out s).length=out.length by rw [PT.1,b9]);rw [←PT.1] at R2;clear hR hB hG);go_roundw
    case rel=>exact ⟨i+1,dS out s,by omega,by go_num,by rw [←L2.1] at R2 ⊢;exact R2,⟨by have:=L2.1;have:=HN.1;omega⟩,HJ,B2⟩
    case measure=>
     show l.length - ((i:Int)+1).toNat<l.length - (i:Int).toNat;omega
   | false=>
    have hd:=of_decide_eq_false hc;have PT:=aa (show dS out s=out++[s] by unfold dS;rw [if_neg hd]);clear hc hd;go_wp2_with ((with_reducible refine aM (b:= .append) (xs:=#[.tmp 40, .tmp 45]) rfl ?_);at_builtin;refine Kd.cG jo (w0:=W) W.heap.size rfl (.tmp 40) (.tmp 45) 23 76 (.agg #[.int .u64 0, .int .u64 0, .int .u8 0]) 24 rfl Tryz.underlying23 nF rfl (by decide) (by omega) (.slice B out.length d) out s [.int .u64 s.f0, .int .u64 s.f1, .int .u8 s.f2] (fun _=>True) (fun _=>False) rfl rfl (nk _ _ _ _) (fun _ h=>h.elim) (fun _ _=>trivial) R1.1 B1.1 B1.1.size (by omega) ?_;intro vz w3 hR hB hG _;have R2:=aa (PT.1▸hR);have B2:=aa hB;have L2:=aa (show (dS out s).length=out.length+1 by rw [PT.1];simp);clear hR hB hG);go_roundw
    case rel=>exact ⟨i+1,dS out s,by omega,by go_num,R2,⟨by have:=L2.1;have:=HN.1;omega⟩,HJ,B2⟩
    case measure=>
     show l.length - ((i:Int)+1).toNat<l.length - (i:Int).toNat;omega
theorem zQ (A:Option Addr) (c:Nat) (l:List eW) (W:World) (hl:Kd.C jo W A l.length l) (hL:l.length≤10000000) :
 Calls Tryz.prog 119 #[.slice A l.length c, .int .i64 8192] W fun e w'=>∃a B n d er,e = .returned (.tuple #[.agg #[.int .i64 a, .slice B n d], .int .i64 er])∧Below W.heap.size W w'∧(decide (er=0)&&decide (n=l.length))=fY l:=by
 have huT:=Tryz.underlying207;have FK:=aa (fun (w:World) (h:Below W.heap.size W w)=>zP A c l w (Kd.aN hl h) (by omega));have JK:=aa (fun (w:World) (h:Below W.heap.size W w)=>BT A c l w (Kd.aN hl h) (by omega));generalize hO:fY l=o;have HO:=aa hO;have NO:=aa (fun (a:Int) (n d:Nat) (B:Option Addr) (er:Int) (w:World) (h:false=o) (he:er≠0) (hb:Below W.heap.size W w)=>show ∃a' B' n' d' er',Ending.returned (.tuple #[.agg #[.int .i64 a, .slice B n d], .int .i64 er]) = .returned (.tuple #[.agg #[.int .i64 a', .slice B' n' d'], .int .i64 er'])∧Below W.heap.size W w∧(decide (er'=0)&&decide (n'=l.length))=o from ⟨a,B,n,d,er,rfl,hb,by rw [←h,decide_eq_false he];rfl⟩);have I0:=aa (And.intro (ah (Below.refl _ W) (.cells #[.int .i64 0, .slice none 0 0] 207)) (aJ W (.cells #[.int .i64 0, .slice none 0 0] 207)));clear hl hO;go_in;go_wp2_with fail;generalize World.alloc W _=w1 at I0 ⊢;refine (FK.1 w1 I0.1.1).mono ?_;rintro e w2 ⟨a,er,rfl,hB,he⟩;have I2:=aa (And.intro (I0.1.1.trans (hB.mono I0.1.1.size)) ((hB.block W.heap.size (ak I0.1.2)).trans I0.1.2));clear hB I0 FK;cases ht:jc l 0 false with
 | false=>
  have HO2:=aa (show false=o by rw [←HO.1,fY,ht];rfl);have hne:er≠0:=by rw [ht] at he;exact of_decide_eq_false he
  have hnb:(er != 0)=true:=mq.2 hne;have HE:=aa hne;clear he ht HO hne;go_wp2_with ((with_reducible refine gS 4 23 rfl ?_);refine sB #[.int .i64 0, .slice none 0 0] I2.1.2 ?_;intro wz ZW hG;have ZB:=aa (bt I2.1.1 hG.1 (Nat.le_refl _)));refine l9 ZW.1 huT ?_;exact NO.1 _ _ _ _ _ _ HO2.1 HE.1 ZB.1
 | true=>
 have hz:er=0:=by rw [ht] at he;exact of_decide_eq_true he
 subst hz;have HO2:=aa (show (decide ((l.foldl dS []).length≤8192)&&decide ((l.foldl dS []).length=l.length))=o by rw [←HO.1,fY,ht];rfl);clear he ht HO;go_wp2_with fail;refine (JK.1 w2 I2.1.1).mono ?_;rintro e w3 ⟨v,rfl,hR,hB⟩;obtain ⟨B,d,rfl⟩:=Kd.aG hR;have I3:=aa (And.intro (I2.1.1.trans (hB.mono I2.1.1.size)) ((hB.block W.heap.size (ak I2.1.2)).trans I2.1.2));clear hR hB I2 JK;generalize (l.foldl dS []).length=n at HO2 ⊢;by_cases h8:n≤8192
 case neg=>
  have h8b:decide ((8192:Int)<(n:Int))=true:=decide_eq_true (by omega);have h8c:decide (8192<n)=true:=decide_eq_true (by omega);have HO3:=aa (show false=o by rw [←HO2.1,decide_eq_false h8];rfl);clear HO2 h8;go_wp2_with ((with_reducible refine gS 4 31 rfl ?_);refine sB #[.int .i64 0, .slice none 0 0] I3.1.2 ?_;intro wz ZW hG;have ZB:=aa (bt I3.1.1 hG.1 (Nat.le_refl _)));refine l9 ZW.1 huT ?_;exact NO.1 _ _ _ _ _ _ HO3.1 (by decide) ZB.1
 have h8b:decide ((8192:Int)<(n:Int))=false:=decide_eq_false (by omega);have h8c:decide (8192<n)=false:=decide_eq_false (by omega);have HO3:=aa (show decide (n=l.length)=o by rw [←HO2.1,decide_eq_true h8];rfl);clear HO2 h8;go_wp2_with ((with_reducible refine gS 4 34 rfl ?_);refine sB #[.int .i64 8192, .slice B n d] I3.1.2 ?_;intro wz ZW hG;have ZB:=aa (bt I3.1.1 hG.1 (Nat.le_refl _)));refine l9 ZW.1 huT ?_;exact ⟨_,_,_,_,_,rfl,ZB.1,by rw [←HO3.1];rfl⟩
theorem uV (s:Hs) (A1 A2 A3 A6:Option Addr) (c1 c2 c3 c6:Nat) (W:World) (hr:pL W s A1 A2 A3 A6 c1 c2 c3 c6) (hb:oO s) :
 Calls Tryz.prog 75 #[.agg (jw s A1 A2 A3 A6 c1 c2 c3 c6)] W (rV W (fY s.table)):=by
 have hu30:=Tryz.underlying30;have huT:=Tryz.underlying207;have B1:=aa (ah (Below.refl _ W) (.cells (jw s A1 A2 A3 A6 c1 c2 c3 c6) 30));have X1:=aa (aJ W (.cells (jw s A1 A2 A3 A6 c1 c2 c3 c6) 30));have LK:=aa (zQ A1 c1 s.table (W.alloc (.cells (jw s A1 A2 A3 A6 c1 c2 c3 c6) 30)) (Kd.eU hr.r1 _) hb.b1.1);clear hr hb;unfold jw at B1 X1 LK ⊢;go_in;go_wp2_with fail;generalize World.alloc W _=w1 at B1 X1 LK ⊢;generalize hb1:W.heap.size=b1 at X1 ⊢;refine LK.1.mono ?_;rintro e w2 ⟨a,B,n,d,er,rfl,hB,hE⟩;have B2:=aa (B1.1.trans (hB.mono B1.1.size));have X2:=aa ((hB.block b1 (ak X1.1)).trans X1.1);have HE:=aa hE;have LB:=aa (ak X2.1);clear hB hE LK B1 X1;by_cases g:er=0
 ·subst g;by_cases g2:n=s.table.length
  ·have g2b:((n:Int) == (s.table.length:Int))=true:=gw.2 (by omega);have HO:=aa (show true=fY s.table by rw [←HE.1,decide_eq_true rfl,decide_eq_true g2];rfl);clear g2;go_wp2_with ((with_reducible refine gS 3 9 rfl ?_);refine sB #[.int .i64 a, .slice B n d] (aJ w2 _) ?_;intro wz hW hG;have ZB:=aa (bt (B2.1.trans ((ah (Below.refl _ w2) _).mono B2.1.size)) hG.1 B2.1.size);have z1:wz.cell? ⟨w2.heap.size,1,none⟩=some (.slice B n d):=cell_of hW.1 1;have x1:wz.cell? ⟨b1,1,none⟩=some (.slice A1 s.table.length c1):=cell_of ((hG.1.block b1 (Nat.lt_of_lt_of_le LB.1 (ah (Below.refl _ w2) _).size) (fun e=>absurd (ar e) (Nat.ne_of_lt LB.1))).trans (((ah (Below.refl _ w2) _).block b1 LB.1).trans X2.1)) 1);go_ret;exact ⟨by rw [←HO.1];rfl,ZB.1⟩
  ·have g2b:((n:Int) == (s.table.length:Int))=false:=bi.2 (by omega);have HO:=aa (show false=fY s.table by rw [←HE.1,decide_eq_true rfl,decide_eq_false g2];rfl);clear g2;go_wp2_with ((with_reducible refine gS 3 9 rfl ?_);refine sB #[.int .i64 a, .slice B n d] (aJ w2 _) ?_;intro wz hW hG;have ZB:=aa (bt (B2.1.trans ((ah (Below.refl _ w2) _).mono B2.1.size)) hG.1 B2.1.size);have z1:wz.cell? ⟨w2.heap.size,1,none⟩=some (.slice B n d):=cell_of hW.1 1;have x1:wz.cell? ⟨b1,1,none⟩=some (.slice A1 s.table.length c1):=cell_of ((hG.1.block b1 (Nat.lt_of_lt_of_le LB.1 (ah (Below.refl _ w2) _).size) (fun e=>absurd (ar e) (Nat.ne_of_lt LB.1))).trans (((ah (Below.refl _ w2) _).block b1 LB.1).trans X2.1)) 1);go_ret;exact ⟨by rw [←HO.1];rfl,ZB.1⟩
 ·have gb:(er == 0)=false:=bi.2 g;have HO:=aa (show false=fY s.table by rw [←HE.1,decide_eq_false g];rfl);clear g;go_wp2_with ((with_reducible refine gS 3 9 rfl ?_);refine sB #[.int .i64 a, .slice B n d] (aJ w2 _) ?_;intro wz hW hG;have ZB:=aa (bt (B2.1.trans ((ah (Below.refl _ w2) _).mono B2.1.size)) hG.1 B2.1.size);have z1:wz.cell? ⟨w2.heap.size,1,none⟩=some (.slice B n d):=cell_of hW.1 1;have x1:wz.cell? ⟨b1,1,none⟩=some (.slice A1 s.table.length c1):=cell_of ((hG.1.block b1 (Nat.lt_of_lt_of_le LB.1 (ah (Below.refl _ w2) _).size) (fun e=>absurd (ar e) (Nat.ne_of_lt LB.1))).trans (((ah (Below.refl _ w2) _).block b1 LB.1).trans X2.1)) 1);go_ret;exact ⟨by rw [←HO.1];rfl,ZB.1⟩
theorem AE (s:Hs) (A1 A2 A3 A6:Option Addr) (c1 c2 c3 c6:Nat) (W:World) :
 Calls Tryz.prog 120 #[.agg (jw s A1 A2 A3 A6 c1 c2 c3 c6)] W fun e w'=>e = .returned (.agg #[.int .i64 8192, .slice A1 s.table.length c1])∧Below W.heap.size W w':=by
 have hu30:=Tryz.underlying30;have huT:=Tryz.underlying207;unfold jw;go_in;go_wp2_with fail;have TZ:=aJ (W.alloc (.cells #[.int .u8 s.self, .slice A1 s.table.length c1, .slice A2 s.pairs.length c2, .slice A3 s.ses.length c3, .int .i64 s.free, .int .i64 s.spare, .slice A6 s.peers.length c6] 30)) (.cells #[.int .i64 8192, .slice A1 s.table.length c1] 207);rw [show (W.alloc (.cells #[.int .u8 s.self, .slice A1 s.table.length c1, .slice A2 s.pairs.length c2, .slice A3 s.ses.length c3, .int .i64 s.free, .int .i64 s.spare, .slice A6 s.peers.length c6] 30)).heap.size=W.heap.size+1 by simp] at TZ;refine zM TZ huT ?_;exact ⟨rfl,ah (ah (Below.refl _ W) _) _⟩
def uw (tab:List eW) (self:Int):Option Int→List iA→Bool
 | _,[]=>true
 | prev,p::r=>if (∃k∈prev,p.f0≤k) then false else if kX tab p.f0=self then if 64<(p.f1.length:Int) then false else uw tab self (some p.f0) r else false
theorem An (tab:List eW) (self:Int) (ht:jc tab 0 false=true) (hb:xJ tab) (l:List iA):∀prev,(∀p∈l,0≤p.f0∧p.f0≤18446744073709551615)→uw tab self prev l=oC tab self prev l:=by
 induction l with
 | nil=>intro prev _;rfl
 | cons p r ih=>
  intro prev hp;obtain ⟨p0,p1⟩:=hp p (by simp);rw [uw,oC,xn p.f0 p1 tab 0 hb p0 ht,ih _ (fun q hq=>hp q (by simp [hq]))];by_cases g1:∃k,k∈prev∧p.f0≤k
  ·rw [if_pos g1,if_pos g1]
  rw [if_neg g1,if_neg g1];by_cases g2:iE tab p.f0=self
  ·rw [if_pos g2,if_pos g2]
  rw [if_neg g2,if_neg g2];split<;>rfl
def mY (prev:Option Int) (x:Int):Bool:=decide (∃k∈prev,x≤k)
def yL (s:Hs):Bool:=if 32768<(s.pairs.length:Int) then false else uw s.table s.self none s.pairs
theorem oY (s:Hs) (A1 A2 A3 A6:Option Addr) (c1 c2 c3 c6:Nat) (W:World) (hr:pL W s A1 A2 A3 A6 c1 c2 c3 c6) (hb:oO s) :
 Calls Tryz.prog 76 #[.agg (jw s A1 A2 A3 A6 c1 c2 c3 c6)] W (rV W (yL s)):=by
 have hu30:=Tryz.underlying30;have huT:=Tryz.underlying207;have huP:=Tryz.underlying59;have HR:=aa hr;have HB:=aa hb;have hL2:=hb.b2.1;generalize hO:yL s=o;unfold yL at hO;have HO:=aa hO;have NO:=aa (show ∀W',false=o→Below W.heap.size W W'→rV W o (.returned (.bool false)) W' from fun W' e h=>by subst e;exact ⟨rfl,h⟩);have YO:=aa (show ∀W',true=o→Below W.heap.size W W'→rV W o (.returned (.bool true)) W' from fun W' e h=>by subst e;exact ⟨rfl,h⟩);clear hr hb hO;have TR:=aa (fun (w:World)=>AE s A1 A2 A3 A6 c1 c2 c3 c6 w);unfold jw at TR ⊢;by_cases gp:32768<(s.pairs.length:Int)
 ·have gpb:decide (32768<(s.pairs.length:Int))=true:=decide_eq_true gp;have HO2:=aa (show false=o by rw [←HO.1,if_pos gp]);clear HO gp;go_in;go_wp2_with fail;go_ret;exact NO.1 _ HO2.1 (ah (Below.refl _ _) _)
 have gpb:decide (32768<(s.pairs.length:Int))=false:=decide_eq_false gp;have HO2:=aa (show uw s.table s.self (gv s.pairs 0) (s.pairs.drop 0)=o by rw [←HO.1,if_neg gp];rfl);clear HO gp;go_in;go_wp2_with ((with_reducible refine az (N:=10) rfl ?_);refine lB (aJ W _) Tryz.underlying30 ?_);have B1:=aa (ah (Below.refl _ W) (.cells #[.int .u8 s.self, .slice A1 s.table.length c1, .slice A2 s.pairs.length c2, .slice A3 s.ses.length c3, .int .i64 s.free, .int .i64 s.spare, .slice A6 s.peers.length c6] 30));have BX:=aa (aJ W (.cells #[.int .u8 s.self, .slice A1 s.table.length c1, .slice A2 s.pairs.length c2, .slice A3 s.ses.length c3, .int .i64 s.free, .int .i64 s.spare, .slice A6 s.peers.length c6] 30));generalize World.alloc W _=W1 at B1 BX ⊢;generalize W.heap.size=b1 at BX ⊢;refine (TR.1 W1).mono ?_;rintro e w2 ⟨rfl,hB⟩;have B2:=aa (B1.1.trans (hB.mono B1.1.size));have BX2:=aa ((hB.block b1 (ak BX.1)).trans BX.1);clear hB TR B1 BX gpb;go_wp2_with ((with_reducible refine gS 3 11 rfl ?_);refine sB #[.int .i64 8192, .slice A1 s.table.length c1] (aJ w2 _) ?_;intro wz T3 hG;have B3:=aa (bt (B2.1.trans ((ah (Below.refl _ w2) _).mono B2.1.size)) hG.1 B2.1.size);have BX3:=aa ((hG.1.block b1 (Nat.lt_of_lt_of_le (ak BX2.1) (ah (Below.refl _ w2) _).size) (fun e=>absurd (ar e) (Nat.ne_of_lt (ak BX2.1)))).trans (((ah (Below.refl _ w2) _).block b1 (ak BX2.1)).trans BX2.1));generalize wz=w3 at T3 B3 BX3 ⊢);generalize w2.heap.size=tb at T3 ⊢;go_wp2_with fail;have I3:=aa (And.intro B3.1 (And.intro BX3.1 T3.1));clear B3 BX3 T3;go_loopw [4] (fun v4 wr=>∃i:Nat,i≤s.pairs.length∧v4 = .int .i64 i∧af (uw s.table s.self (gv s.pairs i) (s.pairs.drop i)=o)∧af (Below W.heap.size W wr∧wr.heap[b1]? = some (.cells #[.int .u8 s.self, .slice A1 s.table.length c1, .slice A2 s.pairs.length c2, .slice A3 s.ses.length c3, .int .i64 s.free, .int .i64 s.spare, .slice A6 s.peers.length c6] 30 (0,0))∧wr.heap[tb]? = some (.cells #[.int .i64 8192, .slice A1 s.table.length c1] 207 (0,0)))) (fun v _=>s.pairs.length - (intOf v).toNat)
 case atStart=>exact ⟨0,aI _,rfl,HO2,I3⟩
 case round=>
  obtain ⟨i,hi,rfl,J0,HI⟩:=hrel;clear HO2 I3;have x2:wr.cell? ⟨b1,2,none⟩=some (.slice A2 s.pairs.length c2):=cell_of HI.1.2.1 2;by_cases hlt:i<s.pairs.length
  case neg=>
   have HO4:=aa (show true=o by have J:=J0.1;rw [List.drop_eq_nil_of_le (by omega),uw] at J;exact J);go_wp2_with fail;go_ret;exact YO.1 _ HO4.1 HI.1.1
  obtain ⟨ad,Y1,q1,e1,m0,m1,l1,C1⟩:=iG (Kd.aN HR.1.r2 HI.1.1) (i:Int) (by omega) (by omega);subst e1;simp only [Int.toNat_natCast] at m0 m1 C1;have hrd:cF s.pairs (i:Int)=s.pairs[i]:=by simp [cF,List.getD_eq_getElem?_getD,hlt]
  have J:=J0.1;rw [ap hlt,uw,←hrd] at J;have PV:=aa (show gv s.pairs (i+1)=some (cF s.pairs (i:Int)).f0 by unfold gv;rw [if_neg (by omega)];rfl);generalize cF s.pairs (i:Int)=p at m0 m1 l1 C1 J PV;have J1:=aa (show (if mY (gv s.pairs i) p.f0=true then false else if kX s.table p.f0=s.self then if 64<(p.f1.length:Int) then false else uw s.table s.self (gv s.pairs (i+1)) (s.pairs.drop (i+1)) else false)=o by rw [PV.1,←J];unfold mY;simp only [decide_eq_true_eq]);clear J J0 hrd C1;go_upto_region 7 with (fail);go_cut [36] (fun s36 wx=>s36 = .bool (mY (gv s.pairs i) p.f0)∧af (Below wr.heap.size wr wx))
  case first=>
   rcases Nat.eq_zero_or_pos i with rfl|hpos
   ·go_quiet (fail);go_wp2_with fail;go_meet;exact ⟨by congr 1,⟨ai (Below.refl _ _) _⟩⟩
   ·obtain ⟨i',rfl⟩:∃i',i=i'+1:=⟨i - 1,by omega⟩;obtain ⟨ad',Y2,q2,e2,n0,_,_,_⟩:=iG (Kd.aN HR.1.r2 HI.1.1) (i':Int) (by omega) (by omega);injection e2 with e2;subst e2;simp only [Int.toNat_natCast] at n0;have PK:=aa (show gv s.pairs (i'+1)=some (cF s.pairs (i':Int)).f0 by unfold gv;rw [if_neg (by omega)];rfl);generalize (cF s.pairs (i':Int)).f0=pk at n0 PK;have hip:(0:Int)<((i'+1:Nat):Int):=by omega
    have hsub:wrap64 (((i'+1:Nat):Int) - 1)=(i':Int):=by rw [IntWalk.wrap64_in _ (by omega)];omega
    have hsub2:IntKind.i64.wrap (((i'+1:Nat):Int) - 1)=(i':Int):=by rw [aA _ (by omega)];omega
    have hil:(i':Int)<(s.pairs.length:Int):=by omega
    have hwi:IntKind.i64.wrap (i':Int)=(i':Int):=aA _ (by omega);have hi0:(0:Int)≤(i':Int):=by omega
    go_quiet (fail);go_wp2_with fail;go_meet;exact ⟨by rw [PK.1];congr 1;exact decide_eq_decide.2 ⟨fun h=>⟨pk,rfl,h⟩,fun ⟨k,hk,h⟩=>by cases hk;exact h⟩,⟨ai (Below.refl _ _) _⟩⟩
  case rest=>
   obtain ⟨rfl,HX⟩:=hcut;have I4:=aa (And.intro (HI.1.1.trans (HX.1.mono HI.1.1.size)) (And.intro ((HX.1.block b1 (ak HI.1.2.1)).trans HI.1.2.1) ((HX.1.block tb (ak HI.1.2.2)).trans HI.1.2.2)));have n0:=an HX.1 m0;have n1:=an HX.1 m1;clear m0 m1 x2 HX HI;generalize wc=w6 at I4 n0 n1 ⊢;cases hg:mY (gv s.pairs i) p.f0 with
   | true=>
    have HO4:=aa (show false=o by have J:=J1.1;rw [hg,if_pos rfl] at J;exact J);clear J1 hg;go_wp2_with fail;go_ret;exact NO.1 _ HO4.1 I4.1.1
   | false=>
   have J2:=aa (show (if kX s.table p.f0=s.self then if 64<(p.f1.length:Int) then false else uw s.table s.self (gv s.pairs (i+1)) (s.pairs.drop (i+1)) else false)=o by have J:=J1.1;rw [hg,if_neg Bool.false_ne_true] at J;exact J);clear J1 hg;have LK:=aa (fun (W':World) (h:Below W.heap.size W W')=>Cs A1 c1 s.table p.f0 W' (Kd.aN HR.1.r1 h) (by have:=HB.1.b1.1;omega));have FF:=aa (fun (W':World) (h:Below w6.heap.size w6 W')=>And.intro (an h n0) (And.intro (an h n1) (And.intro ((h.block b1 (ak I4.1.2.1)).trans I4.1.2.1) ((h.block tb (ak I4.1.2.2)).trans I4.1.2.2))));have B6:=aa (dy (Below.refl w6.heap.size w6));have QD:=aa (FF.1 _ B6.1);go_wp2_with fail;refine hY (fun W'=>W'.cell? (ad.add (i*2))=some (.int .u64 p.f0)∧W'.cell? ⟨(ad.add (i*2)).block,(ad.add (i*2)).off+1,none⟩=some (.slice Y1 p.f1.length q1)∧W'.heap[b1]? = some (.cells #[.int .u8 s.self, .slice A1 s.table.length c1, .slice (some ad) s.pairs.length c2, .slice A3 s.ses.length c3, .int .i64 s.free, .int .i64 s.spare, .slice A6 s.peers.length c6] 30 (0,0))∧W'.heap[tb]? = some (.cells #[.int .i64 8192, .slice A1 s.table.length c1] 207 (0,0))) 7 [(0,1),(1,0),(3,0),(2,2),(4,0),(5,0),(6,1)] (by kernel_rfl) (by kernel_rfl) (fun _ _ _ _ _ h=>h) QD.1 ?_;(refine aQ (v:=?_) rfl rfl ?_ ?_;rotate_left 1;(focus (intro W' hSw;have k0:W'.cell? ⟨tb,0,none⟩=some (.int .i64 8192):=cell_of hSw.2.2.2 0;have k1:W'.cell? ⟨tb,1,none⟩=some (.slice A1 s.table.length c1):=cell_of hSw.2.2.2 1;clear hSw;go_simp;try (with_reducible rfl)));simp only [cS,Act.put]);iterate 2 (refine eF ?_;simp only [cS,Act.put])
   refine aT rfl ?_;have y2:w6.drew.cell? ⟨b1,2,none⟩=some (.slice (some ad) s.pairs.length c2):=cell_of QD.1.2.2.1 2;go_wp2_with fail;refine bB.mk QD.1 (fun hSw=>?_);clear hSw y2;iterate 2 (refine eF ?_;simp only [cS,Act.put])
   (refine aQ (v:=?_) rfl rfl ?_ ?_;rotate_left 1;(focus (intro W' hSw;have k0:=hSw.1;clear hSw;go_simp;try (with_reducible rfl)));simp only [cS,Act.put]);refine bC ?_;simp only [aC,List.drop_zero];go_wp2_with fail;refine (LK.1 _ (dy I4.1.1)).mono ?_;rintro e w7 ⟨rfl,hB7⟩;have Q7:=aa (FF.1 _ (B6.1.trans (hB7.mono B6.1.size)));have B7:=aa ((dy I4.1.1).trans (hB7.mono (dy I4.1.1).size));clear hB7 QD B6 FF n0 n1 LK I4;have z0:w7.cell? ⟨b1,0,none⟩=some (.int .u8 s.self):=cell_of Q7.1.2.2.1 0;have z2:w7.cell? ⟨b1,2,none⟩=some (.slice (some ad) s.pairs.length c2):=cell_of Q7.1.2.2.1 2;have z3:=Q7.1.2.1;generalize kX s.table p.f0=hh at J2 ⊢;by_cases gh:hh=s.self
   case neg=>
    have ghb:(hh != s.self)=true:=by rw [mq];exact gh
    have HO4:=aa (show false=o by rw [←J2.1,if_neg gh]);clear J2 gh;go_wp2_with fail;go_ret;exact NO.1 _ HO4.1 B7.1
   have ghb:(hh != s.self)=false:=by rw [ci];exact gh
   have J3:=aa (show (if 64<(p.f1.length:Int) then false else uw s.table s.self (gv s.pairs (i+1)) (s.pairs.drop (i+1)))=o by rw [←J2.1,if_pos gh]);clear J2 gh;by_cases g64:64<(p.f1.length:Int)
   ·have g64b:decide (64<(p.f1.length:Int))=true:=decide_eq_true g64;have HO4:=aa (show false=o by rw [←J3.1,if_pos g64]);clear J3 g64;go_wp2_with fail;go_ret;exact NO.1 _ HO4.1 B7.1
   have g64b:decide (64<(p.f1.length:Int))=false:=decide_eq_false g64;have HO4:=aa (show uw s.table s.self (gv s.pairs (i+1)) (s.pairs.drop (i+1))=o by rw [←J3.1,if_neg g64]);clear J3 g64;go_wp2_with fail;go_roundw
   case rel=>exact ⟨i+1,by omega,by go_num,HO4,⟨⟨B7.1,Q7.1.2.2.1,Q7.1.2.2.2⟩⟩⟩
   case measure=>
    show s.pairs.length - ((i:Int)+1).toNat<s.pairs.length - (i:Int).toNat;omega
def pE (prev:Option Int) (x:Int):Bool:=decide (∃k∈prev,x≤k)
def jj (x:jx):Bool:=if x.f0<16 then false else if 32≤x.f0 then false else if x.f1=0 then false else if x.f2<1 then false else if 4<x.f2 then false else true
theorem uE (prev:Option Int) (x:jx) (r:List jx):iW prev (x::r)=(if pE prev x.f0=true then false else if jj x=true then iW (some x.f0) r else false):=by
 rw [iW];unfold pE jj;simp only [decide_eq_true_eq];(repeat' split)<;>simp_all
theorem tV (A:Option Addr) (c:Nat) (l:List jx) (W:World) (hl:Kd.C mg W A l.length l) (hc:l.length≤c) (hL:l.length≤100000000) :
 Calls Tryz.prog 77 #[.slice A l.length c] W fun e w'=>e = .returned (.bool (iW none l))∧Below W.heap.size W w':=by
 have hu62:=Tryz.underlying62;have HC:=aa hl;generalize hO:iW none l=o;have HO:=aa (show iW (hJ l 0) (l.drop 0)=o from hO);clear hl hO hc;go_in;go_wp2_with fail;go_loopw [3] (fun v3 wr=>∃i:Nat,i≤l.length∧v3 = .int .i64 i∧af (iW (hJ l i) (l.drop i)=o)∧af (Below W.heap.size W wr)) (fun v _=>l.length - (intOf v).toNat)
 case atStart=>exact ⟨0,aI _,rfl,HO,⟨Below.refl _ _⟩⟩
 case round=>
  obtain ⟨i,hi,rfl,J0,HW⟩:=hrel;clear HO;by_cases hlt:i<l.length
  case neg=>
   have HO2:=aa (show true=o by have J:=J0.1;rw [List.drop_eq_nil_of_le (by omega),iW] at J;exact J);go_wp2_with fail;go_ret;exact ⟨by rw [←HO2.1];rfl,HW.1⟩
  obtain ⟨ad,e1,m0,m1,m2⟩:=iF (Kd.aN HC.1 HW.1) (i:Int) (by omega) (by omega);subst e1;simp only [Int.toNat_natCast] at m0 m1 m2;have hrd:bW l (i:Int)=l[i]:=by simp [bW,List.getD_eq_getElem?_getD,hlt]
  have J:=J0.1;rw [ap hlt,uE,←hrd] at J;have PV:=aa (show hJ l (i+1)=some (bW l (i:Int)).f0 by unfold hJ;rw [if_neg (by omega)];rfl);generalize bW l (i:Int)=x at m0 m1 m2 J PV;have J1:=aa J;clear J J0 hrd;go_upto_region 5 with ((with_reducible refine gS 4 14 rfl ?_);refine sB #[.int .u8 x.f0, .int .u64 x.f1, .int .u8 x.f2] (aJ wr _) ?_;intro wz PN hG;have WP:=aa (bt (ah (Below.refl _ wr) _) hG.1 (Nat.le_refl _));generalize wz=w3 at PN WP ⊢);clear m0 m1 m2;have W3:=aa (HW.1.trans (WP.1.mono HW.1.size));go_cut [27] (fun s27 wx=>s27 = .bool (pE (hJ l i) x.f0)∧af (∃n,wx=w3.drewN n))
  case first=>
   have q0:w3.cell? ⟨wr.heap.size,0,none⟩=some (.int .u8 x.f0):=cell_of PN.1 0;rcases Nat.eq_zero_or_pos i with rfl|hpos
   ·go_quiet (fail);go_wp2_with fail;go_meet;exact ⟨by congr 1,⟨_,rfl⟩⟩
   ·obtain ⟨i',rfl⟩:∃i',i=i'+1:=⟨i - 1,by omega⟩;obtain ⟨ad',e2,n0,_,_⟩:=iF (Kd.aN HC.1 W3.1) (i':Int) (by omega) (by omega);injection e2 with e2;subst e2;simp only [Int.toNat_natCast] at n0;have PK:=aa (show hJ l (i'+1)=some (bW l (i':Int)).f0 by unfold hJ;rw [if_neg (by omega)];rfl);generalize (bW l (i':Int)).f0=pk at n0 PK;have hip:(0:Int)<((i'+1:Nat):Int):=by omega
    have hsub:wrap64 (((i'+1:Nat):Int) - 1)=(i':Int):=by rw [IntWalk.wrap64_in _ (by omega)];omega
    have hsub2:IntKind.i64.wrap (((i'+1:Nat):Int) - 1)=(i':Int):=by rw [aA _ (by omega)];omega
    have hil:(i':Int)<(l.length:Int):=by omega
    have hwi:IntKind.i64.wrap (i':Int)=(i':Int):=aA _ (by omega);have hi0:(0:Int)≤(i':Int):=by omega
    go_quiet (fail);go_wp2_with fail;go_meet;exact ⟨by rw [PK.1];congr 1;exact decide_eq_decide.2 ⟨fun h=>⟨pk,rfl,h⟩,fun ⟨k,hk,h⟩=>by cases hk;exact h⟩,⟨_,rfl⟩⟩
  case rest=>
   obtain ⟨rfl,n,rfl⟩:=hcut;have P4:=aa (show (w3.drewN n).heap[wr.heap.size]? = some (.cells #[.int .u8 x.f0, .int .u64 x.f1, .int .u8 x.f2] 62 (0,0)) from PN.1);have W4:=aa (ai W3.1 n);clear PN W3 WP;generalize w3.drewN n=w4 at P4 W4 ⊢;cases hg:pE (hJ l i) x.f0 with
   | true=>
    have HO2:=aa (show false=o by have J:=J1.1;rw [hg,if_pos rfl] at J;exact J);clear J1 hg;go_wp2_with fail;go_ret;exact ⟨by rw [←HO2.1];rfl,W4.1⟩
   | false=>
   have J2:=aa (show (if jj x=true then iW (hJ l (i+1)) (l.drop (i+1)) else false)=o by have J:=J1.1;rw [hg,if_neg Bool.false_ne_true] at J;rw [PV.1];exact J);clear J1 hg;have q0:w4.cell? ⟨wr.heap.size,0,none⟩=some (.int .u8 x.f0):=cell_of P4.1 0;have q1:w4.cell? ⟨wr.heap.size,1,none⟩=some (.int .u64 x.f1):=cell_of P4.1 1;have q2:w4.cell? ⟨wr.heap.size,2,none⟩=some (.int .u8 x.f2):=cell_of P4.1 2;by_cases g0:x.f0<16
   ·have g0b:decide (x.f0<16)=true:=decide_eq_true g0;have HO2:=aa (show false=o by have J:=J2.1;rw [show jj x=false by unfold jj;rw [if_pos g0],if_neg Bool.false_ne_true] at J;exact J);clear J2 g0;go_wp2_with fail;go_ret;exact ⟨by rw [←HO2.1];rfl,W4.1⟩
   have g0b:decide (x.f0<16)=false:=decide_eq_false g0;by_cases g1:32≤x.f0
   ·have g1b:decide (32≤x.f0)=true:=decide_eq_true g1;have HO2:=aa (show false=o by have J:=J2.1;rw [show jj x=false by unfold jj;rw [if_neg g0,if_pos g1],if_neg Bool.false_ne_true] at J;exact J);clear J2 g0 g1;go_wp2_with fail;go_ret;exact ⟨by rw [←HO2.1];rfl,W4.1⟩
   have g1b:decide (32≤x.f0)=false:=decide_eq_false g1;by_cases g2:x.f1=0
   ·have g2b:(x.f1 == 0)=true:=gw.2 g2;have HO2:=aa (show false=o by have J:=J2.1;rw [show jj x=false by unfold jj;rw [if_neg g0,if_neg g1,if_pos g2],if_neg Bool.false_ne_true] at J;exact J);clear J2 g0 g1 g2;go_wp2_with fail;go_ret;exact ⟨by rw [←HO2.1];rfl,W4.1⟩
   have g2b:(x.f1 == 0)=false:=bi.2 g2;by_cases g3:x.f2<1
   ·have g3b:decide (x.f2<1)=true:=decide_eq_true g3;have HO2:=aa (show false=o by have J:=J2.1;rw [show jj x=false by unfold jj;rw [if_neg g0,if_neg g1,if_neg g2,if_pos g3],if_neg Bool.false_ne_true] at J;exact J);clear J2 g0 g1 g2 g3;go_wp2_with fail;go_ret;exact ⟨by rw [←HO2.1];rfl,W4.1⟩
   have g3b:decide (x.f2<1)=false:=decide_eq_false g3;by_cases g4:4<x.f2
   ·have g4b:decide (4<x.f2)=true:=decide_eq_true g4;have HO2:=aa (show false=o by have J:=J2.1;rw [show jj x=false by unfold jj;rw [if_neg g0,if_neg g1,if_neg g2,if_neg g3,if_pos g4],if_neg Bool.false_ne_true] at J;exact J);clear J2 g0 g1 g2 g3 g4;go_wp2_with fail;go_ret;exact ⟨by rw [←HO2.1];rfl,W4.1⟩
   have g4b:decide (4<x.f2)=false:=decide_eq_false g4;have HO2:=aa (show iW (hJ l (i+1)) (l.drop (i+1))=o by have J:=J2.1;rw [show jj x=true by unfold jj;rw [if_neg g0,if_neg g1,if_neg g2,if_neg g3,if_neg g4],if_pos rfl] at J;exact J);clear J2 g0 g1 g2 g3 g4;go_wp2_with fail;go_roundw
   case rel=>exact ⟨i+1,by omega,by go_num,HO2,W4⟩
   case measure=>
    show l.length - ((i:Int)+1).toNat<l.length - (i:Int).toNat;omega
def CS (n:Nat) (s:Hs):Bool:=if 16≤s.self then false else if s.free<0 then false else if s.spare<0 then false else if 1073741824<s.free then false else if 1073741824<s.spare then false else if 1073741824<s.free+(s.pairs.length:Int) then false else if 1073741824<s.spare+(s.table.length:Int) then false else if fY s.table=true then (if yL s=true then (if iW none s.ses=true then wS n s else false) else false) else false
theorem yp (s:Hs) (n:Nat) (hn:s.self=(n:Int)) (A1 A2 A3 A6:Option Addr) (c1 c2 c3 c6:Nat) (W:World) (hr:pL W s A1 A2 A3 A6 c1 c2 c3 c6) (hb:oO s) :
 Calls Tryz.prog 32 #[.agg (jw s A1 A2 A3 A6 c1 c2 c3 c6)] W (rV W (CS n s)):=by
 have hu30:=Tryz.underlying30;have HR:=aa hr;have HB:=aa hb;have hL1:=hb.b1.1;have hL2:=hb.b2.1;have TK:=aa (fun (w:World) (h:Below W.heap.size W w)=>uV s A1 A2 A3 A6 c1 c2 c3 c6 w (hr.below h) hb);have PK:=aa (fun (w:World) (h:Below W.heap.size W w)=>oY s A1 A2 A3 A6 c1 c2 c3 c6 w (hr.below h) hb);have EK:=aa (fun (w:World) (h:Below W.heap.size W w)=>qW s n hn A1 A2 A3 A6 c1 c2 c3 c6 w (hr.below h) hb);generalize hO:CS n s=o;unfold CS at hO;have HO:=aa hO;have NO:=aa (show ∀W',false=o→Below W.heap.size W W'→rV W o (.returned (.bool false)) W' from fun W' e h=>by subst e;exact ⟨rfl,h⟩);clear hr hb hO hn;unfold jw at TK PK EK ⊢;by_cases g1:16≤s.self
 ·have g1b:decide (16≤s.self)=true:=decide_eq_true g1;have HO2:=aa (show false=o by rw [←HO.1,if_pos g1]);clear HO g1;go_in;go_wp2_with fail;go_ret;exact NO.1 _ HO2.1 (ah (Below.refl _ _) _)
 have g1b:decide (16≤s.self)=false:=decide_eq_false g1;by_cases g2:s.free<0
 ·have g2b:decide (s.free<0)=true:=decide_eq_true g2;have HO2:=aa (show false=o by rw [←HO.1,if_neg g1,if_pos g2]);clear HO g1 g2;go_in;go_wp2_with fail;go_ret;exact NO.1 _ HO2.1 (ah (Below.refl _ _) _)
 have g2b:decide (s.free<0)=false:=decide_eq_false g2;by_cases g3:s.spare<0
 ·have g3b:decide (s.spare<0)=true:=decide_eq_true g3;have HO2:=aa (show false=o by rw [←HO.1,if_neg g1,if_neg g2,if_pos g3]);clear HO g1 g2 g3;go_in;go_wp2_with fail;go_ret;exact NO.1 _ HO2.1 (ah (Below.refl _ _) _)
 have g3b:decide (s.spare<0)=false:=decide_eq_false g3;by_cases g4:1073741824<s.free
 ·have g4b:decide (1073741824<s.free)=true:=decide_eq_true g4;have HO2:=aa (show false=o by rw [←HO.1,if_neg g1,if_neg g2,if_neg g3,if_pos g4]);clear HO g1 g2 g3 g4;go_in;go_wp2_with fail;go_ret;exact NO.1 _ HO2.1 (ah (Below.refl _ _) _)
 have g4b:decide (1073741824<s.free)=false:=decide_eq_false g4;by_cases g5:1073741824<s.spare
 ·have g5b:decide (1073741824<s.spare)=true:=decide_eq_true g5;have HO2:=aa (show false=o by rw [←HO.1,if_neg g1,if_neg g2,if_neg g3,if_neg g4,if_pos g5]);clear HO g1 g2 g3 g4 g5;go_in;go_wp2_with fail;go_ret;exact NO.1 _ HO2.1 (ah (Below.refl _ _) _)
 have g5b:decide (1073741824<s.spare)=false:=decide_eq_false g5;have hwf:wrap64 (s.free+(s.pairs.length:Int))=s.free+(s.pairs.length:Int):=IntWalk.wrap64_in _ (by omega);have hws:wrap64 (s.spare+(s.table.length:Int))=s.spare+(s.table.length:Int):=IntWalk.wrap64_in _ (by omega);by_cases g6:1073741824<s.free+(s.pairs.length:Int)
 ·have g6b:decide (1073741824<s.free+(s.pairs.length:Int))=true:=decide_eq_true g6;have HO2:=aa (show false=o by rw [←HO.1,if_neg g1,if_neg g2,if_neg g3,if_neg g4,if_neg g5,if_pos g6]);clear HO g1 g2 g3 g4 g5 g6;go_in;go_wp2_with fail;go_ret;exact NO.1 _ HO2.1 (ah (Below.refl _ _) _)
 have g6b:decide (1073741824<s.free+(s.pairs.length:Int))=false:=decide_eq_false g6;by_cases g7:1073741824<s.spare+(s.table.length:Int)
 ·have g7b:decide (1073741824<s.spare+(s.table.length:Int))=true:=decide_eq_true g7;have HO2:=aa (show false=o by rw [←HO.1,if_neg g1,if_neg g2,if_neg g3,if_neg g4,if_neg g5,if_neg g6,if_pos g7]);clear HO g1 g2 g3 g4 g5 g6 g7;go_in;go_wp2_with fail;go_ret;exact NO.1 _ HO2.1 (ah (Below.refl _ _) _)
 have g7b:decide (1073741824<s.spare+(s.table.length:Int))=false:=decide_eq_false g7;have HO2:=aa (show (if fY s.table=true then (if yL s=true then (if iW none s.ses=true then wS n s else false) else false) else false)=o by rw [←HO.1,if_neg g1,if_neg g2,if_neg g3,if_neg g4,if_neg g5,if_neg g6,if_neg g7]);clear HO g1 g2 g3 g4 g5 g6 g7;go_in;go_wp2_with ((with_reducible refine az (N:=46) rfl ?_);refine lB (aJ W _) Tryz.underlying30 ?_);clear g1b g2b g3b g4b g5b g6b g7b hwf hws;have B1:=aa (ah (Below.refl _ W) (.cells #[.int .u8 s.self, .slice A1 s.table.length c1, .slice A2 s.pairs.length c2, .slice A3 s.ses.length c3, .int .i64 s.free, .int .i64 s.spare, .slice A6 s.peers.length c6] 30));have X1:=aa (aJ W (.cells #[.int .u8 s.self, .slice A1 s.table.length c1, .slice A2 s.pairs.length c2, .slice A3 s.ses.length c3, .int .i64 s.free, .int .i64 s.spare, .slice A6 s.peers.length c6] 30));generalize World.alloc W _=W1 at B1 X1 ⊢;generalize W.heap.size=b1 at X1 ⊢;refine (TK.1 W1 B1.1).mono ?_;rintro e w2 ⟨rfl,hB⟩;have B2:=aa (B1.1.trans (hB.mono B1.1.size));have X2:=aa ((hB.block b1 (ak X1.1)).trans X1.1);clear hB TK B1 X1;cases ht:fY s.table with
 | false=>
  have HO3:=aa (show false=o by rw [←HO2.1,ht];rfl);clear HO2 ht;go_wp2_with fail;go_ret;exact NO.1 _ HO3.1 B2.1
 | true=>
 have HO3:=aa (show (if yL s=true then (if iW none s.ses=true then wS n s else false) else false)=o by rw [←HO2.1,ht,if_pos rfl]);clear HO2 ht;go_wp2_with ((with_reducible refine az (N:=50) rfl ?_);refine lB X2.1 Tryz.underlying30 ?_);refine (PK.1 w2 B2.1).mono ?_;rintro e w3 ⟨rfl,hB⟩;have B3:=aa (B2.1.trans (hB.mono B2.1.size));have X3:=aa ((hB.block b1 (ak X2.1)).trans X2.1);clear hB PK B2 X2;have x3:w3.cell? ⟨b1,3,none⟩=some (.slice A3 s.ses.length c3):=cell_of X3.1 3;have SK:=aa (tV A3 c3 s.ses w3 (Kd.aN HR.1.r3 B3.1) HR.1.l3 (by have:=HB.1.b3.1;omega));go_wp2_with fail;refine SK.1.mono ?_;rintro e w4 ⟨rfl,hB⟩;have B4:=aa (B3.1.trans (hB.mono B3.1.size));have X4:=aa ((hB.block b1 (ak X3.1)).trans X3.1);clear hB SK B3 X3 x3;go_wp2_with ((with_reducible refine az (N:=55) rfl ?_);refine lB X4.1 Tryz.underlying30 ?_);refine (EK.1 w4 B4.1).mono ?_;rintro e w5 ⟨rfl,hB⟩;have B5:=aa (B4.1.trans (hB.mono B4.1.size));clear hB EK B4 X4;cases hp:yL s with
 | false=>
  have HO4:=aa (show false=o by rw [←HO3.1,hp];rfl);clear HO3 hp;go_wp2_with fail;go_ret;exact NO.1 _ HO4.1 B5.1
 | true=>
 cases hx:iW none s.ses with
 | false=>
  have HO4:=aa (show false=o by rw [←HO3.1,hp,hx];rfl);clear HO3 hp hx;go_wp2_with fail;go_ret;exact NO.1 _ HO4.1 B5.1
 | true=>
 have HO4:=aa (show wS n s=o by rw [←HO3.1,hp,hx,if_pos rfl,if_pos rfl]);clear HO3 hp hx;generalize wS n s=bb at HO4 ⊢;go_wp2_with fail;go_ret;exact ⟨by rw [←HO4.1];rfl,B5.1⟩
end Go.Proofs.YtpekmdpbfjdjkaaGreat.ref