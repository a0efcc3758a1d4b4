/- Part 14 of the proof that reading bytes answers as the document does. No condition. -/
import Derived.Test.YtpekmdpbfjdjkaaGreatY13
set_option maxHeartbeats 16000000
set_option maxRecDepth 100000
set_option linter.all false
namespace Go.Proofs.YtpekmdpbfjdjkaaGreat.dO
open Go Go.RowKit ag.ax ag.aV ag.aU aD fr iK
def zr (x:gX):Bool:=if (Go.bits .or .u64 (Go.bits .or .u64 (Go.bits .or .u64 x.f0 x.f1) x.f3) x.f4)=0 then (if (x.f2.length:Int)=0 then ((x.f5.length:Int) == 0) else false) else false
theorem Cr (x:gX):ji.f x.f0 x.f1 x.f2 x.f3 x.f4 x.f5=some (zr x):=by
 unfold ji.f zr;split
 ·split<;>rfl
 ·rfl
structure xA (x:gX):Prop where
 m0:0≤x.f3
 m1:x.f3≤18446744073709551615
 l2:x.f2.length≤100000000
 l5:x.f5.length≤100000000
 b2:Bl x.f2
 b5:Fl x.f5
def oQ (self q win:Int):Nat→List gX→Bool
 | _,[]=>true
 | i,x::r=>(if (i:Int)=self then zr x else (lf x q&&kp x.f4 win x.f5 1))&&oQ self q win (i+1) r
def nZ (self:Int) (H:Nat) (q win:Int):Bool:=decide (1≤H∧H≤16∧self<H∧1≤q∧q≤16∧1≤win∧win≤q)
theorem AO (self:Int) (H:Nat) (q win:Int) (s0:0≤self) (s1:self≤255):gJ.f self H q win=some (nZ self H q win):=by
 unfold gJ.f nZ;have:wrap64 self=self:=by unfold wrap64;omega
 rw [this];by_cases h1:(H:Int)≥1
 ·rw [if_pos h1];by_cases h2:(H:Int)≤16
  ·rw [if_pos h2];by_cases h3:self<(H:Int)
   ·rw [if_pos h3];by_cases h4:q≥1
    ·rw [if_pos h4];by_cases h5:q≤16
     ·rw [if_pos h5];by_cases h6:win≥1
      ·rw [if_pos h6];congr 1;apply decide_eq_decide.2;omega
      ·rw [if_neg h6];congr 1;exact (decide_eq_false (by omega)).symm
     ·rw [if_neg h5];congr 1;exact (decide_eq_false (by omega)).symm
    ·rw [if_neg h4];congr 1;exact (decide_eq_false (by omega)).symm
   ·rw [if_neg h3];congr 1;exact (decide_eq_false (by omega)).symm
  ·rw [if_neg h2];congr 1;exact (decide_eq_false (by omega)).symm
 ·rw [if_neg h1];congr 1;exact (decide_eq_false (by omega)).symm
theorem pF (self:Int) (H:Nat) (q win:Int) (w:World) (s0:0≤self) (s1:self≤255) (hf:nZ self H q win=false) :
 Calls Tryz.prog 93 #[.int .u8 self, .int .i64 H, .int .i64 q, .int .i64 win] w fun e w'=>e = .returned (.tuple #[.pointer none, .int .i64 2])∧∃n,w'=w.drewN n:=by
 have HF:=aa (gJ.calls self H q win false · (by rw [←hf];exact AO self H q win s0 s1));go_in;go_wp2_with fail;refine (HF.1 _).mono ?_;rintro e w' ⟨rfl,⟨n1,rfl⟩⟩;go_wp2_with fail;go_ret2;exact ⟨rfl,_,rfl⟩
def Rest (W:World) (base P0 H:Nat) (self q win:Int) (i:Nat):Prop:=
 ∃vs:List Value,W.ownsRow base 161 1 (.slice (some ⟨P0,0,none⟩) H H) H vs∧∀h v,i≤h→vs[h]? = some v→kz W base self q win h v
theorem Rest.below {W W':World} {base P0 H:Nat} {self q win:Int} {i:Nat} (h:Rest W base P0 H self q win i) (hb:Below W.heap.size W W'):Rest W' base P0 H self q win i:=by
 obtain ⟨vs,ho,hp⟩:=h;exact ⟨vs,oD (T:=0) ho (jf.below hb) (by decide),fun h v hh hv=>(hp h v hh hv).move (fun b cs hc=>hb.block b (Array.getElem?_eq_some_iff.1 hc).1)⟩
theorem Rest.drop {W:World} {base P0 H:Nat} {self q win:Int} {i:Nat} (h:Rest W base P0 H self q win i):Rest W base P0 H self q win (i+1):=by
 obtain ⟨vs,ho,hp⟩:=h;exact ⟨vs,ho,fun h v hh hv=>hp h v (by omega) hv⟩
theorem Rest.kept {W W':World} {base P0 H:Nat} {self q win:Int} {i j j' b:Nat} {cs:Array Value} (h:Rest W base P0 H self q win j) (hj:j≤j') (hij:i<j') (hb:W.heap[b]? = some (.cells cs 168 (0,0))) (h0:cs[0]? = some (.int .u8 (i:Int))) (hk:Kept W W' (fun k=>k=b)):Rest W' base P0 H self q win j':=by
 obtain ⟨vs,ho,hp⟩:=h;have hP:∀k,(Value.slice (some ⟨P0,0,none⟩) H H).ownBlock=some k→W'.heap[k]? = W.heap[k]? :=fun k hk'=>by
  obtain ⟨cells,hc⟩:=gN ho k hk';refine hk.2 k (Array.getElem?_eq_some_iff.1 hc).1 (fun e=>?_);subst e;rw [hb] at hc;injection hc with hc;injection hc with _ hc _;exact absurd hc (by decide)
 refine ⟨vs,nP ho hP,fun h v hh hv=>?_⟩;rcases hp h v (by omega) hv with hn|⟨hne,b',hb',rfl,hh'⟩
 ·exact .inl hn
 ·refine .inr ⟨hne,b',hb',rfl,(hk.2 b' (Array.getElem?_eq_some_iff.1 hh').1 (fun e=>?_)).trans hh'⟩;subst e;rw [hb] at hh';injection hh' with hh';injection hh' with hh' _ _;subst hh';have:(Value.int .u8 (i:Int)) = .int .u8 (h:Int):=by
   have h1:=h0.symm;simpa [fU] using h1
  injection this with _ this;omega
theorem Rest.at_ {W:World} {base P0 H:Nat} {self q win:Int} {i:Nat} (h:Rest W base P0 H self q win i) (hi:i<H):∃v,W.cell? ⟨P0,i,none⟩=some v∧kz W base self q win i v:=by
 obtain ⟨vs,ho,hp⟩:=h;have hl:vs.length=H:=by have:=ho.1;omega
 refine ⟨vs[i],(ho.cellAt i (by omega)).trans (List.getElem?_eq_getElem (by omega)),hp i _ (Nat.le_refl _) (List.getElem?_eq_getElem (by omega))⟩
theorem Rest.start {W:World} {base P0 H:Nat} {self q win:Int} (h:ei W base P0 H self q win H):Rest W base P0 H self q win 0:=by
 obtain ⟨vs,ho,hp,_⟩:=h;refine ⟨vs,ho,fun h v _ hv=>hp h v ?_ hv⟩;have:=(List.getElem?_eq_some_iff.1 hv).1;have:=ho.1;omega
def qP (W:World) (o:Bool) (e:Ending) (w':World):Prop:=Below W.heap.size W w'∧∃v er,e = .returned (.tuple #[v, .int .i64 er])∧if o=true then er=0 else er≠0
theorem qP.no {W w':World} {o:Bool} {v:Value} {er:Int} (ho:false=o) (he:er≠0) (hb:Below W.heap.size W w'):qP W o (.returned (.tuple #[v, .int .i64 er])) w':=by
 subst ho;exact ⟨hb,v,er,rfl,by simpa using he⟩
theorem qP.ok {W w':World} {o:Bool} {v:Value} (ho:true=o) (hb:Below W.heap.size W w'):qP W o (.returned (.tuple #[v, .int .i64 0])) w':=by
 subst ho;exact ⟨hb,v,0,rfl,by simp⟩
theorem tK (self:Int) (H:Nat) (q win:Int) (P:Option Addr) (c:Nat) (l:List gX) (W:World) (s0:0≤self) (s1:self≤255) (hl:Kd.C ld W P l.length l) (hc:l.length≤c) (hL:l.length≤100000000) (hP:∀x∈l,xA x) :
 Calls Tryz.prog 54 #[.int .u8 self, .int .i64 H, .int .i64 q, .int .i64 win, .agg #[.slice P l.length c]] W (qP W (nZ self H q win&&(decide (l.length=H)&&oQ self q win 0 l))):=by
 have HC:=aa hl;have HP:=aa hP;have S0:=aa s0;have S1:=aa s1;generalize hO:(nZ self H q win&&(decide (l.length=H)&&oQ self q win 0 l))=o;have HO:=aa hO;clear hl hP hO s0 s1;go_in;go_wp2_with fail;have BX:=aa (aJ W (.cells #[.slice P l.length c] 28));have B1:=aa (ah (Below.refl _ W) (.cells #[.slice P l.length c] 28));generalize World.alloc W _=W1 at BX B1 ⊢;generalize hbx:W.heap.size=bx at BX ⊢;have LX:=aa (ak BX.1);clear hbx;cases hf:nZ self H q win with
 | false=>
  have HO2:=aa (show false=o by rw [←HO.1,hf];rfl);have NB:=aa (pF self H q win W1 S0.1 S1.1 hf);clear HO hf;refine NB.1.mono ?_;rintro e w2 ⟨rfl,n2,rfl⟩;go_wp2_with fail;go_ret2;exact qP.no HO2.1 (by decide) (ai B1.1 _)
 | true=>
 have HO2:=aa (show (decide (l.length=H)&&oQ self q win 0 l)=o by rw [←HO.1,hf];rfl);have FF:=aa (of_decide_eq_true hf);have NG:=aa (uF self H q win W1 FF.1.1 FF.1.2.1 S0.1 FF.1.2.2.1 FF.1.2.2.2.1 FF.1.2.2.2.2.1 FF.1.2.2.2.2.2.1 FF.1.2.2.2.2.2.2);clear HO hf;refine NG.1.mono ?_;rintro e w2 ⟨B,rfl,⟨hBB,P0,hE,hPR⟩,hB⟩;have B2:=aa (B1.1.trans (hB.mono B1.1.size));have BX2:=aa ((hB.block bx LX.1).trans BX.1);have R2:=aa (Rest.start hPR);have x0:w2.cell? ⟨bx,0,none⟩=some (.slice P l.length c):=cell_of BX2.1 0;have y0:w2.cell? ⟨B,0,none⟩=some (.slice (some ⟨P0,0,none⟩) H H):=cell_of hE 0;have SZ:=aa hB.size;have LX1:=aa (show bx<W1.heap.size from LX.1);have HH:=aa FF.1.2.1;clear hB hPR hBB hE NG BX;have BS:=aa B1.1.size;generalize W1.heap.size=base at R2 SZ LX1 BS;by_cases g0:l.length=H
 case neg=>
  have g0b:((l.length:Int) != (H:Int))=true:=by rw [mq];omega
  have HO3:=aa (show false=o by rw [←HO2.1,decide_eq_false g0];rfl);clear HO2 g0;go_wp2_with fail;go_ret2;exact qP.no HO3.1 (by decide) B2.1
 have g0b:((l.length:Int) != (H:Int))=false:=by rw [ci];omega
 have HO3:=aa (show oQ self q win 0 l=o by rw [←HO2.1,decide_eq_true g0];rfl);have LH:=aa g0;clear HO2 g0;go_wp2_with fail;go_loopw [37] (fun v37 wr=>∃i:Nat,i≤H∧v37 = .int .i64 i∧af (Rest wr base P0 H self q win i)∧af (oQ self q win i (l.drop i)=o)∧af (Below base w2 wr)∧af (Below W.heap.size W wr)) (fun v _=>H - (intOf v).toNat)
 case atStart=>exact ⟨0,aI _,rfl,R2,HO3,⟨Below.refl _ _⟩,B2⟩
 case round=>
  obtain ⟨i,hi,rfl,R,J0,HB,HW⟩:=hrel;clear HO3 B2 R2;have hH:=HH.1;by_cases hlt:i<H
  case neg=>
   have hii:¬(i:Int)<(H:Int):=by omega
   have HO4:=aa (show true=o by have J:=J0.1;rw [List.drop_eq_nil_of_le (by have:=LH.1;omega)] at J;exact J);go_wp2_with fail;go_ret2;exact qP.ok HO4.1 HW.1
  have hil:i<l.length:=by have:=LH.1;omega
  obtain ⟨v,hv,hpa⟩:=R.1.at_ hlt;obtain ⟨ad,A2,c2,A5,c5,e1,n0,n1,n2,n3,n4,n5,l2,C2,l5,C5⟩:=jY HC.1 (i:Int) (by omega) (by omega);subst e1;simp only [Int.toNat_natCast] at n0 n1 n2 n3 n4 n5 C2 C5;have hrd:cN l (i:Int)=l[i]:=by simp [cN,List.getD_eq_getElem?_getD,hil]
  have PO:=aa (HP.1 _ (hrd▸List.getElem_mem hil:cN l (i:Int)∈l));have J:=J0.1;rw [ap hil,oQ,←hrd] at J;generalize cN l (i:Int)=x at n0 n1 n2 n3 n4 n5 l2 C2 l5 C5 PO J;have J1:=aa J;have D2:=aa (Kd.aN C2 HW.1);have D5:=aa (Kd.aN C5 HW.1);have E5:=aa C5;have CE:=aa (And.intro n0 (And.intro n1 (And.intro n2 (And.intro n3 (And.intro n4 n5)))));have m0:=an HW.1 n0;have m1:=an HW.1 n1;have m2:=an HW.1 n2;have m3:=an HW.1 n3;have m4:=an HW.1 n4;have m5:=an HW.1 n5;clear n0 n1 n2 n3 n4 n5;have x1:wr.cell? ⟨bx,0,none⟩=some (.slice (some ad) l.length c):=cell_of ((HB.1.block bx LX1.1).trans BX2.1) 0;have SZ1:=aa (Nat.le_trans SZ.1 HB.1.size);clear J J0 hrd C2 C5 x0 y0;rcases hpa with ⟨hs,rfl⟩|⟨hne,b,hbb,rfl,hh⟩
  ·have J2:=aa (show (zr x&&oQ self q win (i+1) (l.drop (i+1)))=o by have J:=J1.1;rw [if_pos hs] at J;exact J);have Z:=aa (ji.calls x.f0 x.f1 A2 c2 x.f2 x.f3 x.f4 A5 c5 x.f5 (zr x) wr D2.1 l2 D5.1 l5 (Cr x));clear J1 hs;go_wp2_with fail;refine Z.1.mono ?_;rintro e w3 ⟨rfl,hB3⟩;have HW3:=aa (HW.1.trans (hB3.mono HW.1.size));have HB3:=aa (HB.1.trans (hB3.mono SZ1.1));have R3:=aa (R.1.below hB3).drop;clear hB3 Z R HW HB x1 m0 m1 m2 m3 m4 m5 hv;cases hz:zr x with
   | false=>
    have HO4:=aa (show false=o by have J:=J2.1;rw [hz] at J;exact J);clear J2 hz;go_wp2_with fail;go_ret2;exact qP.no HO4.1 (by decide) HW3.1
   | true=>
    have HO4:=aa (show oQ self q win (i+1) (l.drop (i+1))=o by have J:=J2.1;rw [hz] at J;exact J);clear J2 hz;go_wp2_with fail;go_quiet (fail);go_wp2_with fail;go_roundw
    case rel=>exact ⟨i+1,by omega,by go_num,⟨R3.1.below (ai (Below.refl _ _) _)⟩,HO4,⟨ai HB3.1 _⟩,⟨ai HW3.1 _⟩⟩
    case measure=>
     show H - ((i:Int)+1).toNat<H - (i:Int).toNat;omega
  ·have J2:=aa (show ((lf x q&&kp x.f4 win x.f5 1)&&oQ self q win (i+1) (l.drop (i+1)))=o by have J:=J1.1;rw [if_neg hne] at J;exact J);have PB:=aa hh;have BB:=aa hbb;clear J1 hne hh hbb;go_wp2_with fail;have LY:=aa (Dr b (i:Int) q win x A2 A5 c2 c5 wr.drew PB.1 (Kd.jU D2.1) l2 PO.1.l2 PO.1.b2 PO.1.m0 PO.1.m1);have j0:wr.drew.cell? (ad.add (i*6))=some (.int .u64 x.f0):=m0;have j1:wr.drew.cell? ⟨(ad.add (i*6)).block,(ad.add (i*6)).off+1,none⟩=some (.int .u64 x.f1):=m1;have j2:wr.drew.cell? ⟨(ad.add (i*6)).block,(ad.add (i*6)).off+2,none⟩=some (.slice A2 x.f2.length c2):=m2;have j3:wr.drew.cell? ⟨(ad.add (i*6)).block,(ad.add (i*6)).off+3,none⟩=some (.int .u64 x.f3):=m3;have j4:wr.drew.cell? ⟨(ad.add (i*6)).block,(ad.add (i*6)).off+4,none⟩=some (.int .u64 x.f4):=m4;have j5:wr.drew.cell? ⟨(ad.add (i*6)).block,(ad.add (i*6)).off+5,none⟩=some (.slice A5 x.f5.length c5):=m5;have x2:wr.drew.cell? ⟨bx,0,none⟩=some (.slice (some ad) l.length c):=x1;have LB:=aa (ak PB.1);refine hY (fun _=>True) 19 [(0,0),(1,0),(2,0),(3,0),(4,0),(5,0),(6,0),(8,0),(7,2),(9,0),(10,2),(11,2),(12,0),(13,0),(14,0),(15,0),(16,0),(18,0),(17,2)] (by kernel_rfl) (by kernel_rfl) (fun _ _ _ _ _ h=>h) trivial ?_;clear m0 m1 m2 m3 m4 m5 x1;iterate 8 (refine eF ?_;simp only [cS,Act.put])
   refine aT rfl ?_;go_wp2_with fail;refine bB.mk trivial (fun _=>?_);iterate 1 (refine eF ?_;simp only [cS,Act.put])
   refine aT rfl ?_;go_wp2_with fail;refine bB.mk trivial (fun _=>?_);refine aT rfl ?_;go_wp2_with fail;unfold ew at LY;refine LY.1.mono ?_;rintro e w4 ⟨rfl,hB4,hK4,s4,a4,v4,m4,hb4⟩;have PB4:=aa hb4;have HB4:=aa (HB.1.drew.trans (hB4.mono BB.1));have HW4:=aa (HW.1.drew.trans (hB4.mono (Nat.le_trans BS.1 BB.1)));have R4:=aa ((R.1.below (Below.refl _ _).drew).kept (Nat.le_succ i) (Nat.lt_succ_self i) (show wr.drew.heap[b]? = _ from PB.1) rfl hK4);have K4:=aa (show Kd.C jC w4 A5 x.f5.length x.f5 from Kd.aN E5.1 HW4.1);have x4:w4.cell? ⟨bx,0,none⟩=some (.slice (some ad) l.length c):=cell_of ((HB4.1.block bx LX1.1).trans BX2.1) 0;have j0:=an HW4.1 CE.1.1;have j1:=an HW4.1 CE.1.2.1;have j2:=an HW4.1 CE.1.2.2.1;have j3:=an HW4.1 CE.1.2.2.2.1;have j4:=an HW4.1 CE.1.2.2.2.2.1;have j5:=an HW4.1 CE.1.2.2.2.2.2;clear hB4 hK4 hb4 LY R HB HW x2 D2 D5 PB LB hv;cases hlay:lf x q with
   | false=>
    have HO4:=aa (show false=o by have J:=J2.1;rw [hlay] at J;exact J);clear J2 hlay;go_wp2_with fail;refine bB.mk trivial (fun _=>?_);iterate 1 (refine eF ?_;simp only [cS,Act.put])
    refine da rfl rfl ?_;simp only [cS,Act.put];refine da rfl rfl ?_;simp only [cS,Act.put];refine da rfl rfl ?_;simp only [cS,Act.put];refine da rfl rfl ?_;simp only [cS,Act.put];refine da rfl rfl ?_;simp only [cS,Act.put];refine aT rfl ?_;go_wp2_with fail;refine bB.mk trivial (fun _=>?_);refine bC ?_;simp only [aC,List.drop_zero];go_wp2_with fail;go_ret2;exact qP.no HO4.1 (by decide) HW4.1
   | true=>
    have J3:=aa (show (kp x.f4 win x.f5 1&&oQ self q win (i+1) (l.drop (i+1)))=o by have J:=J2.1;rw [hlay] at J;exact J);have KY:=aa (sG b (i:Int) q win s4 a4 v4 m4 x A2 A5 c2 c5 w4 PB4.1 K4.1 l5 PO.1.l5 PO.1.b5);clear J2 hlay;go_wp2_with fail;refine bB.mk trivial (fun _=>?_);iterate 6 (refine eF ?_;simp only [cS,Act.put])
    refine aT rfl ?_;go_wp2_with fail;refine bB.mk trivial (fun _=>?_);refine bC ?_;simp only [aC,List.drop_zero];go_wp2_with fail;unfold ew at KY;refine KY.1.mono ?_;rintro e w5 ⟨rfl,hB5,hK5⟩;have HB5:=aa (HB4.1.trans (hB5.mono BB.1));have HW5:=aa (HW4.1.trans (hB5.mono (Nat.le_trans BS.1 BB.1)));have R5:=aa (R4.1.kept (Nat.le_refl _) (Nat.lt_succ_self i) PB4.1 rfl hK5);clear hB5 hK5 KY R4 HB4 HW4 x4 K4 PB4;cases hkp:kp x.f4 win x.f5 1 with
    | false=>
     have HO4:=aa (show false=o by have J:=J3.1;rw [hkp] at J;exact J);clear J3 hkp;go_wp2_with fail;go_ret2;exact qP.no HO4.1 (by decide) HW5.1
    | true=>
     have HO4:=aa (show oQ self q win (i+1) (l.drop (i+1))=o by have J:=J3.1;rw [hkp] at J;exact J);clear J3 hkp;go_wp2_with fail;go_roundw
     case rel=>exact ⟨i+1,by omega,by go_num,R5,HO4,HB5,HW5⟩
     case measure=>
      show H - ((i:Int)+1).toNat<H - (i:Int).toNat;omega
end Go.Proofs.YtpekmdpbfjdjkaaGreat.dO
namespace Go.Proofs.YtpekmdpbfjdjkaaGreat.dO
open Go Go.RowKit ag.ax ag.aV ag.aU aD fr iK fE cL
def sc:Option Int→Bool
 | none=>false
 | some k=>k == 12
def hU (l:List Int):Bool:=sc ((ic l).map (·.k))
theorem qJ (A:Option Addr) (c:Nat) (l:List Int) (W:World) (hl:Kd.C (Kd.int .u8) W A l.length l) (hc:l.length≤c) (hL:l.length≤100000000) (hb:aq l) :
 Calls Tryz.prog 117 #[.slice A l.length c] W fun e w'=>e = .returned (.bool (hU l))∧Below W.heap.size W w':=by
 have HP:=aa (parse A c l W hl hc hL hb);unfold hU;generalize (ic l).map (·.k)=o at HP ⊢;clear hl hb;go_in;go_wp2_with fail;refine HP.1.mono ?_;rintro e w1 ⟨cs,pl,er,rfl,hB,hs,h1,ho⟩;have B1:=aa hB;have S1:=aa hs;have O1:=aa h1;have M1:=aa ho;clear hB hs h1 ho HP;cases o with
 | none=>
  have he:(er == 0)=false:=by rw [bi];exact M1.1
  go_wp2_with ((with_reducible refine gS 3 9 rfl ?_);refine dl (g:=w1.heap.size) (t:=214) (p:= .tmp 3) (x:= .tmp 9) (u:= .agg cs.toArray) rfl rfl rfl cs ?addr ?ex (aJ w1 _) ?eu ?ht ?hf ?h1 ?_;(case addr=>rfl);(case ex=>rfl);(case eu=>rfl);(case ht=>rw [S1.1];kernel_rfl);(case hf=>rw [S1.1];rfl);(case h1=>exact O1.1);intro w2 hW hG;have W2:=aa hW;have B2:=aa ((ah B1.1 (.cells vY.toArray 214)).grown hG (Nat.le_trans B1.1.size (ah (Below.refl _ w1) (.cells vY.toArray 214)).size) (fun k e=>by injection e with e;have:=B1.1.size;omega));clear hW hG);go_ret;exact ⟨rfl,B2.1⟩
 | some k=>
  obtain ⟨rfl,hk⟩:=M1.1;have K0:=aa (show cs.toArray[0]? = some (.int .u8 k) by
   cases cs with
   | nil=>cases hk
   | cons a r=>simpa using hk)
  clear hk M1;go_wp2_with ((with_reducible refine gS 3 9 rfl ?_);refine dl (g:=w1.heap.size) (t:=214) (p:= .tmp 3) (x:= .tmp 9) (u:= .agg cs.toArray) rfl rfl rfl cs ?addr ?ex (aJ w1 _) ?eu ?ht ?hf ?h1 ?_;(case addr=>rfl);(case ex=>rfl);(case eu=>rfl);(case ht=>rw [S1.1];kernel_rfl);(case hf=>rw [S1.1];rfl);(case h1=>exact O1.1);intro w2 hW hG;have W2:=aa hW;have B2:=aa ((ah B1.1 (.cells vY.toArray 214)).grown hG (Nat.le_trans B1.1.size (ah (Below.refl _ w1) (.cells vY.toArray 214)).size) (fun k e=>by injection e with e;have:=B1.1.size;omega));have k0:w2.cell? ⟨w1.heap.size,0,none⟩=some (.int .u8 k):=(cell_of hW 0).trans K0.1;clear hW hG);go_ret;exact ⟨rfl,B2.1⟩
end Go.Proofs.YtpekmdpbfjdjkaaGreat.dO
namespace Go.Proofs.YtpekmdpbfjdjkaaGreat.dO
open Go Go.RowKit ag.ax ag.aV ag.aU aD fr iK cL
structure Hs where
 self:Int
 table:List eW
 pairs:List iA
 ses:List jx
 free:Int
 spare:Int
 peers:List gX
def jw (s:Hs) (A1 A2 A3 A6:Option Addr) (c1 c2 c3 c6:Nat):Array Value:=#[.int .u8 s.self, .slice A1 s.table.length c1, .slice A2 s.pairs.length c2, .slice A3 s.ses.length c3, .int .i64 s.free, .int .i64 s.spare, .slice A6 s.peers.length c6]
structure pL (W:World) (s:Hs) (A1 A2 A3 A6:Option Addr) (c1 c2 c3 c6:Nat):Prop where
 r1:Kd.C jo W A1 s.table.length s.table
 l1:s.table.length≤c1
 r2:Kd.C Ee W A2 s.pairs.length s.pairs
 l2:s.pairs.length≤c2
 r3:Kd.C mg W A3 s.ses.length s.ses
 l3:s.ses.length≤c3
 r6:Kd.C ld W A6 s.peers.length s.peers
 l6:s.peers.length≤c6
theorem pL.below {W W':World} {s:Hs} {A1 A2 A3 A6:Option Addr} {c1 c2 c3 c6:Nat} (h:pL W s A1 A2 A3 A6 c1 c2 c3 c6) (hb:Below W.heap.size W W'):pL W' s A1 A2 A3 A6 c1 c2 c3 c6:=
 ⟨Kd.aN h.r1 hb,h.l1,Kd.aN h.r2 hb,h.l2,Kd.aN h.r3 hb,h.l3,Kd.aN h.r6 hb,h.l6⟩
structure qQ (x:gX):Prop extends xA x where
 m0':0≤x.f0∧x.f0≤18446744073709551615
 m1':0≤x.f1∧x.f1≤18446744073709551615
 m4':0≤x.f4∧x.f4≤18446744073709551615
 y2:∀b∈x.f2,aq b
 y5:∀f∈x.f5,(0≤f.f0∧f.f0≤18446744073709551615)∧aq f.f1
structure oO (s:Hs):Prop where
 b0:0≤s.self∧s.self≤255
 b1:s.table.length≤10000000∧∀x∈s.table,(0≤x.f0∧x.f0≤18446744073709551615)∧(0≤x.f1∧x.f1≤18446744073709551615)∧0≤x.f2∧x.f2≤255
 b2:s.pairs.length≤10000000∧∀x∈s.pairs,(0≤x.f0∧x.f0≤18446744073709551615)∧x.f1.length≤100000000∧aq x.f1
 b3:s.ses.length≤10000000∧∀x∈s.ses,(0≤x.f0∧x.f0≤255)∧(0≤x.f1∧x.f1≤18446744073709551615)∧0≤x.f2∧x.f2≤255
 b4 : -9223372036854775808≤s.free∧s.free≤9223372036854775807
 b5 : -9223372036854775808≤s.spare∧s.spare≤9223372036854775807
 b6:s.peers.length≤10000000∧∀x∈s.peers,qQ x
def dq (l:List (List Int)):Bool:=l.all hU
def de (l:List jE):Bool:=l.all fun f=>hU f.f1
def dp (l:List gX):Bool:=l.all fun x=>dq x.f2&&de x.f5
def cJ (s:Hs):Bool:=(nZ s.self s.peers.length 16 16&&oQ s.self 16 16 0 s.peers)&&dp s.peers
def rV (W:World) (o:Bool) (e:Ending) (w':World):Prop:=e = .returned (.bool o)∧Below W.heap.size W w'
theorem rK (s:Hs) (A1 A2 A3 A6:Option Addr) (c1 c2 c3 c6:Nat) (W:World) (hr:pL W s A1 A2 A3 A6 c1 c2 c3 c6) (hb:oO s) :
 Calls Tryz.prog 69 #[.agg (jw s A1 A2 A3 A6 c1 c2 c3 c6)] W (rV W (cJ s)):=by
 have hu68:=Tryz.underlying68;have hu99:=Tryz.underlying99;have hu30:=Tryz.underlying30;have hu28:=Tryz.underlying28;have HR:=aa hr;have HB:=aa hb;have hLp:=hb.b6.1;have DL:=aa qJ;generalize hO:cJ s=o;have HO:=aa hO;clear hr hb hO;unfold jw;go_in;go_wp2_with fail;have B1:=aa (ah (Below.refl _ W) (.cells #[.int .u8 s.self, .slice A1 s.table.length c1, .slice A2 s.pairs.length c2, .slice A3 s.ses.length c3, .int .i64 s.free, .int .i64 s.spare, .slice A6 s.peers.length c6] 30));have BX:=aa (aJ W (.cells #[.int .u8 s.self, .slice A1 s.table.length c1, .slice A2 s.pairs.length c2, .slice A3 s.ses.length c3, .int .i64 s.free, .int .i64 s.spare, .slice A6 s.peers.length c6] 30));have XL:=aa (tK s.self s.peers.length 16 16 A6 c6 s.peers (W.alloc (.cells #[.int .u8 s.self, .slice A1 s.table.length c1, .slice A2 s.pairs.length c2, .slice A3 s.ses.length c3, .int .i64 s.free, .int .i64 s.spare, .slice A6 s.peers.length c6] 30)) HB.1.b0.1 HB.1.b0.2 (Kd.eU HR.1.r6 _) HR.1.l6 (by omega) (fun x hx=>(HB.1.b6.2 x hx).toxA));generalize World.alloc W _=W1 at B1 BX XL ⊢;generalize W.heap.size=b1 at BX ⊢;refine XL.1.mono ?_;rintro e w2 ⟨hB,v,er,rfl,her⟩;have B2:=aa (B1.1.trans (hB.mono B1.1.size));have BX2:=aa ((hB.block b1 (ak BX.1)).trans BX.1);have E2:=aa her;clear hB her XL;have x6:w2.cell? ⟨b1,6,none⟩=some (.slice A6 s.peers.length c6):=cell_of BX2.1 6;cases hx:(nZ s.self s.peers.length 16 16&&(decide (s.peers.length=s.peers.length)&&oQ s.self 16 16 0 s.peers)) with
 | false=>
  have hne:(er != 0)=true:=by have h:=E2.1;rw [hx] at h;simpa using h
  have HO2:=aa (show false=o by
   rw [←HO.1,cJ];rw [decide_eq_true rfl,iJ] at hx;rw [hx];rfl)
  clear HO hx E2;go_wp2_with fail;go_ret;exact ⟨by rw [←HO2.1];rfl,B2.1⟩
 | true=>
 have hne:er=0:=by have h:=E2.1;rw [hx] at h;simpa using h
 subst hne;have HO2:=aa (show dp s.peers=o by
  rw [←HO.1,cJ];rw [decide_eq_true rfl,iJ] at hx;rw [hx];rfl)
 clear HO hx E2 BX B1;go_wp2_with fail;go_loopw [29] (fun v29 wr=>∃i:Nat,i≤s.peers.length∧v29 = .int .i64 i∧af (dp (s.peers.drop i)=o)∧af (Below W.heap.size W wr)) (fun v _=>s.peers.length - (intOf v).toNat)
 case atStart=>exact ⟨0,aI _,rfl,HO2,B2⟩
 case round=>
  obtain ⟨i,hi,rfl,J0,HW⟩:=hrel;clear HO2 B2;by_cases hlt:i<s.peers.length
  case neg=>
   have HO4:=aa (show true=o by have J:=J0.1;rw [List.drop_eq_nil_of_le (by omega)] at J;exact J);go_wp2_with fail;go_ret;exact ⟨by rw [←HO4.1];rfl,HW.1⟩
  obtain ⟨ad,X2,d2,X5,d5,e1,m0,m1,m2,m3,m4,m5,l2,C2,l5,C5⟩:=jY (Kd.aN HR.1.r6 HW.1) (i:Int) (by omega) (by omega);subst e1;simp only [Int.toNat_natCast] at m0 m1 m2 m3 m4 m5 C2 C5;have hrd:cN s.peers (i:Int)=s.peers[i]:=by simp [cN,List.getD_eq_getElem?_getD,hlt]
  have PO:=aa (HB.1.b6.2 _ (hrd▸List.getElem_mem hlt:cN s.peers (i:Int)∈s.peers));have J:=J0.1;rw [ap hlt,dp,jO,←hrd] at J;generalize cN s.peers (i:Int)=x at m0 m1 m2 m3 m4 m5 l2 C2 l5 C5 PO J;have J1:=aa (show ((dq x.f2&&de x.f5)&&dp (s.peers.drop (i+1)))=o from J);have D2:=aa C2;have D5:=aa C5;have hx2:=PO.1.l2;have hx5:=PO.1.l5;clear J J0 hrd C2 C5;go_wp2_with fail;have PN:=aa (aJ wr (.cells #[.int .u64 x.f0, .int .u64 x.f1, .slice X2 x.f2.length d2, .int .u64 x.f3, .int .u64 x.f4, .slice X5 x.f5.length d5] 68));have WP:=aa (ah (Below.refl _ wr) (.cells #[.int .u64 x.f0, .int .u64 x.f1, .slice X2 x.f2.length d2, .int .u64 x.f3, .int .u64 x.f4, .slice X5 x.f5.length d5] 68));generalize World.alloc wr _=w3 at PN WP ⊢;generalize wr.heap.size=pb at PN ⊢;have z2:w3.cell? ⟨pb,2,none⟩=some (.slice X2 x.f2.length d2):=cell_of PN.1 2;have z5:w3.cell? ⟨pb,5,none⟩=some (.slice X5 x.f5.length d5):=cell_of PN.1 5;clear m0 m1 m2 m3 m4 m5;go_wp2_with fail;go_loopw [36] (fun v36 wq=>∃j:Nat,j≤x.f2.length∧v36 = .int .i64 j∧af (((dq (x.f2.drop j)&&de x.f5)&&dp (s.peers.drop (i+1)))=o)∧af (Below w3.heap.size w3 wq)) (fun v _=>x.f2.length - (intOf v).toNat)
  case atStart=>exact ⟨0,aI _,rfl,J1,⟨Below.refl _ _⟩⟩
  case round=>
   obtain ⟨j,hj,rfl,K0,HQ⟩:=hrel;generalize wr=wq at HQ ⊢;clear J1;by_cases hjt:j<x.f2.length
   ·have D2q:=Kd.aN D2.1 (WP.1.trans (HQ.1.mono WP.1.size));obtain ⟨ad2,c9,e1,_,hK,hc0⟩:=Kd.fw D2q [] (j:Int) (by omega) (by omega);obtain ⟨Y1,q1,rfl,hq1,hC1⟩:=hK;have hy0:=hc0 0 _ rfl;subst e1;simp only [Int.toNat_natCast,show (Kd.slice 5 (Kd.int .u8)).sz=1 from rfl,Nat.mul_one,Nat.add_zero,List.getD_eq_getElem?_getD,List.getElem?_eq_getElem hjt,Option.getD_some] at hy0 hq1 hC1;have hm:=List.getElem_mem hjt;have K:=K0.1;rw [ap hjt,dq,jO] at K;have hlen:=PO.1.b2 _ hm;have hbyt:=PO.1.y2 _ hm;generalize x.f2[j]=y at hy0 hq1 hC1 K hlen hbyt;have K1:=aa (show (((hU y&&dq (x.f2.drop (j+1)))&&de x.f5)&&dp (s.peers.drop (i+1)))=o from K);have DY:=aa (DL.1 Y1 q1 y wq hC1 hq1 hlen hbyt);clear K K0 hC1 hc0 hlen hbyt hm D2q hq1;go_wp2_with fail;refine DY.1.mono ?_;rintro e w4 ⟨rfl,hB4⟩;have H4:=aa (HQ.1.trans (hB4.mono HQ.1.size));clear hB4 DY HQ;cases hd:hU y with
    | false=>
     have HO4:=aa (show false=o by have K:=K1.1;rw [hd] at K;exact K);clear K1 hd;go_wp2_with fail;go_ret;exact ⟨by rw [←HO4.1];rfl,HW.1.trans ((WP.1.trans (H4.1.mono WP.1.size)).mono HW.1.size)⟩
    | true=>
     have HO4:=aa (show ((dq (x.f2.drop (j+1))&&de x.f5)&&dp (s.peers.drop (i+1)))=o by have K:=K1.1;rw [hd] at K;exact K);clear K1 hd;go_wp2_with fail;go_roundw
     case rel=>exact ⟨j+1,by omega,by go_num,HO4,H4⟩
     case measure=>
      show x.f2.length - ((j:Int)+1).toNat<x.f2.length - (j:Int).toNat;omega
   have J2:=aa (show (de x.f5&&dp (s.peers.drop (i+1)))=o by have K:=K0.1;rw [List.drop_eq_nil_of_le (by omega)] at K;exact K);have z6:wq.cell? ⟨pb,5,none⟩=some (.slice X5 x.f5.length d5):=an HQ.1 z5;clear K0;go_wp2_with fail;go_loopw [47] (fun v47 wp=>∃k:Nat,k≤x.f5.length∧v47 = .int .i64 k∧af ((de (x.f5.drop k)&&dp (s.peers.drop (i+1)))=o)∧af (Below w3.heap.size w3 wp)) (fun v _=>x.f5.length - (intOf v).toNat)
   case atStart=>exact ⟨0,aI _,rfl,J2,HQ⟩
   case round=>
    obtain ⟨k,hk,rfl,K0,HP⟩:=hrel;generalize wr=wp at HP ⊢;clear J2 HQ;by_cases hkt:k<x.f5.length
    ·have D5q:=Kd.aN D5.1 (WP.1.trans (HP.1.mono WP.1.size));obtain ⟨ad2,c9,e1,_,hK,hc0⟩:=Kd.fw D5q sI (k:Int) (by omega) (by omega);obtain ⟨Y1,q1,rfl,hq1,hC1⟩:=gn hK;have hy0:=hc0 0 _ rfl;have hy1:=hc0 1 _ rfl;subst e1;simp only [Int.toNat_natCast,show jC.sz=2 from rfl,Nat.add_zero,List.getD_eq_getElem?_getD,List.getElem?_eq_getElem hkt,Option.getD_some] at hy0 hy1 hq1 hC1;rw [dw _ _ 1 (by omega)] at hy1;have hm:=List.getElem_mem hkt;have K:=K0.1;rw [ap hkt,de,jO] at K;have hlen:=PO.1.b5 _ hm;have hbyt:=(PO.1.y5 _ hm).2;generalize x.f5[k]=f at hy0 hy1 hq1 hC1 K hlen hbyt;have K1:=aa (show ((hU f.f1&&de (x.f5.drop (k+1)))&&dp (s.peers.drop (i+1)))=o from K);clear K K0 hc0 hm D5q hK;have HC1:=aa hC1;clear hC1;go_wp2_with fail;have FN:=aa (aJ wp (.cells #[.int .u64 f.f0, .slice Y1 f.f1.length q1] 99));have WF:=aa (ah (Below.refl _ wp) (.cells #[.int .u64 f.f0, .slice Y1 f.f1.length q1] 99));have HP1:=aa (HP.1.trans (WF.1.mono HP.1.size));have DY:=aa (DL.1 Y1 q1 f.f1 (wp.alloc (.cells #[.int .u64 f.f0, .slice Y1 f.f1.length q1] 99)) (Kd.eU HC1.1 _) hq1 hlen hbyt);clear FN WF HC1 hy0 hy1 HP;refine DY.1.mono ?_;rintro e w4 ⟨rfl,hB4⟩;have H4:=aa (HP1.1.trans (hB4.mono HP1.1.size));clear hB4 DY HP1;cases hd:hU f.f1 with
     | false=>
      have HO4:=aa (show false=o by have K:=K1.1;rw [hd] at K;exact K);clear K1 hd;go_wp2_with fail;go_ret;exact ⟨by rw [←HO4.1];rfl,HW.1.trans ((WP.1.trans (H4.1.mono WP.1.size)).mono HW.1.size)⟩
     | true=>
      have HO4:=aa (show (de (x.f5.drop (k+1))&&dp (s.peers.drop (i+1)))=o by have K:=K1.1;rw [hd] at K;exact K);clear K1 hd;go_wp2_with fail;go_roundw
      case rel=>exact ⟨k+1,by omega,by go_num,HO4,H4⟩
      case measure=>
       show x.f5.length - ((k:Int)+1).toNat<x.f5.length - (k:Int).toNat;omega
    have J3:=aa (show dp (s.peers.drop (i+1))=o by have K:=K0.1;rw [List.drop_eq_nil_of_le (by omega)] at K;exact K);clear K0;go_wp2_with fail;go_roundw
    case rel=>exact ⟨i+1,by omega,by go_num,J3,⟨HW.1.trans ((WP.1.trans (HP.1.mono WP.1.size)).mono HW.1.size)⟩⟩
    case measure=>
     show s.peers.length - ((i:Int)+1).toNat<s.peers.length - (i:Int).toNat;omega
end Go.Proofs.YtpekmdpbfjdjkaaGreat.dO
namespace Go.Proofs.YtpekmdpbfjdjkaaGreat.dO
open Go Go.RowKit ag.ax aD cL
def jc:List eW→Int→Bool→Bool
 | [],_,full=>full
 | s::r,next,full=>if full=true then false else if s.f0=next then if s.f0≤s.f1 then if s.f2≤15 then jc r (IntKind.u64.wrap (s.f1+1)) (s.f1 == 18446744073709551615) else false else false else false
theorem Gr (l:List eW):∀out next full,jn l out next full=if jc l next full=true then some (l.foldl dS out) else none:=by
 induction l with
 | nil=>
  intro out next full;rfl
 | cons s r ih=>
  intro out next full;rw [jn,jc,dD];by_cases h1:full=true
  ·rw [if_pos h1,if_pos h1];rfl
  rw [if_neg h1,if_neg h1];by_cases h2:s.f0=next
  ·rw [if_pos h2,if_pos h2];by_cases h3:s.f0≤s.f1
   ·rw [if_pos h3,if_pos h3];by_cases h4:s.f2≤15
    ·rw [if_pos h4,if_pos h4];exact ih _ _ _
    ·rw [if_neg h4,if_neg h4];rfl
   ·rw [if_neg h3,if_neg h3];rfl
  ·rw [if_neg h2,if_neg h2];rfl
theorem fold_push (l:List eW):∀out,(l.foldl dS out).length≤out.length+l.length∧((l.foldl dS out).length=out.length+l.length→l.foldl dS out=out++l):=by
 induction l with
 | nil=>
  intro out;exact ⟨by simp,fun _=>by simp⟩
 | cons s r ih=>
  intro out;rw [dD];obtain ⟨h1,h2⟩:=ih (dS out s);have h3:=oF out s;refine ⟨by simp only [List.length_cons];omega,fun h=>?_⟩;simp only [List.length_cons] at h;have h4:(dS out s).length=out.length+1:=by omega
  have h5:dS out s=out++[s]:=by
   unfold dS at h4 ⊢;split at h4
   ·rw [b9] at h4;omega
   ·rw [if_neg (by assumption)]
  rw [h2 (by omega),h5];simp
def fY (l:List eW):Bool:=jc l 0 false&&(decide ((l.foldl dS []).length≤8192)&&decide ((l.foldl dS []).length=l.length))
def xJ (l:List eW):Prop:=∀x∈l,(0≤x.f0∧x.f0≤18446744073709551615)∧(0≤x.f1∧x.f1≤18446744073709551615)∧0≤x.f2∧x.f2≤255
theorem ja (s:eW) (r:List eW) (i:Nat):jD (s::r) (i+1)=jD r i:=by
 unfold jD bg;simp
theorem jb (s:eW) (r:List eW):jD (s::r) 0=s.f1:=by
 unfold jD bg;simp
theorem rW (l:List eW):∀next full,xJ l→0≤next→jc l next full=true→(full=true∧l=[])∨(full=false∧0<l.length∧qD l∧(∀i,i<l.length→next≤jD l i)∧jD l (l.length - 1)=18446744073709551615):=by
 induction l with
 | nil=>
  intro next full _ _ h;exact .inl ⟨h,rfl⟩
 | cons s r ih=>
  intro next full hb h0 h;rw [jc] at h;by_cases h1:full=true
  ·rw [if_pos h1] at h;cases h
  rw [if_neg h1] at h;by_cases h2:s.f0=next
  ·rw [if_pos h2] at h;by_cases h3:s.f0≤s.f1
   ·rw [if_pos h3] at h;by_cases h4:s.f2≤15
    ·rw [if_pos h4] at h;have hs:=hb s List.mem_cons_self;have hw:0≤IntKind.u64.wrap (s.f1+1):=by
      simp only [IntKind.wrap,IntKind.signed,IntKind.bits];exact Int.emod_nonneg _ (by decide)
     right;refine ⟨by simpa using h1,by simp,?_⟩;rcases ih _ _ (fun x hx=>hb x (List.mem_cons_of_mem _ hx)) hw h with ⟨e1,rfl⟩|⟨e1,e2,e3,e4,e5⟩
     ·have e1:s.f1=18446744073709551615:=by simpa using e1
      refine ⟨?_,?_,?_⟩
      ·intro i j hij hj;have hj':j<1:=hj;obtain rfl:j=0:=by omega
       obtain rfl:i=0:=by omega
       exact fC _
      ·intro i hi;have hi':i<1:=hi;obtain rfl:i=0:=by omega
       rw [jb];omega
      ·show jD [s] 0=_;rw [jb];exact e1
     ·have e1:s.f1≠18446744073709551615:=by simpa using e1
      have hw1:IntKind.u64.wrap (s.f1+1)=s.f1+1:=IntWalk.u64_in _ (by omega);rw [hw1] at e4;refine ⟨?_,?_,?_⟩
      ·intro i j hij hj;rw [List.length_cons] at hj;cases j with
       | zero=>
        obtain rfl:i=0:=by omega
        exact fC _
       | succ j=>
        rw [ja];cases i with
        | zero=>
         rw [jb];have:=e4 j (by omega);omega
        | succ i=>
         rw [ja];exact e3 i j (by omega) (by omega)
      ·intro i hi;rw [List.length_cons] at hi;cases i with
       | zero=>rw [jb];omega
       | succ i=>
        rw [ja];have:=e4 i (by omega);omega
      ·rw [List.length_cons];obtain ⟨m,hm⟩:∃m,r.length=m+1:=⟨r.length - 1,by omega⟩;rw [hm] at e5 ⊢;rw [show m+1+1 - 1=m+1 by omega,ja];exact e5
    ·rw [if_neg h4] at h;cases h
   ·rw [if_neg h3] at h;cases h
  ·rw [if_neg h2] at h;cases h
def iE (l:List eW) (key:Int):Int:=((l.find? fun s=>decide (key≤s.f1)).map (·.f2)).getD 255
theorem mc (l:List eW) (key:Int):∀r:Nat,lO l key r→r<l.length→iE l key=(bg l (r:Int)).f2:=by
 induction l with
 | nil=>intro r _ h;simp at h
 | cons s l ih=>
  intro r hf hr;unfold iE;cases r with
  | zero=>
   have h:=hf.2.2 (by simp);rw [jb] at h;rw [js (by simpa using h)];simp [bg]
  | succ r=>
   have h:=hf.2.1 0 (by omega);rw [jb] at h;rw [gy (by simp;omega)];have hr':r<l.length:=by simpa using hr
   have:=ih r ⟨by omega,fun k hk=>by have:=hf.2.1 (k+1) (by omega);rwa [ja] at this,fun h=>by have:=hf.2.2 (by simpa using h);rwa [ja] at this⟩ hr';rw [show bg (s::l) ((r+1:Nat):Int)=bg l (r:Int) by unfold bg;simp];exact this
def oC (tab:List eW) (self:Int):Option Int→List iA→Bool
 | _,[]=>true
 | prev,p::r=>if (∃k∈prev,p.f0≤k) then false else if 64<(p.f1.length:Int) then false else if iE tab p.f0=self then oC tab self (some p.f0) r else false
def iW:Option Int→List jx→Bool
 | _,[]=>true
 | prev,x::r=>if (∃k∈prev,x.f0≤k) then false else if x.f0<16 then false else if 32≤x.f0 then false else if x.f1=0 then false else if x.f2<1 then false else if 4<x.f2 then false else iW (some x.f0) r
def oV (s:Hs):Bool:=if 16≤s.self then false else if s.free<0 then false else if s.spare<0 then false else if 1073741824 - (s.pairs.length:Int)<s.free then false else if 1073741824 - (s.table.length:Int)<s.spare then false else true
def ni (s:Hs):Bool:=if oV s=true then if fY s.table=true then if 32768<(s.pairs.length:Int) then false else if oC s.table s.self none s.pairs=true then if iW none s.ses=true then cJ s else false else false else false else false
def gv (l:List iA) (i:Nat):Option Int:=if i=0 then none else some (cF l ((i - 1:Nat):Int)).f0
def hJ (l:List jx) (i:Nat):Option Int:=if i=0 then none else some (bW l ((i - 1:Nat):Int)).f0
end Go.Proofs.YtpekmdpbfjdjkaaGreat.dO
namespace Go.Proofs.YtpekmdpbfjdjkaaGreat.dO
open Go Go.RowKit ag.ax ag.aV ag.aU aD fr iK cL plain
def b8 (x:Int):List Int:=be 8 x.toNat
def gr (n:Nat):List Int:=bu n
def dI (l:List Int):List Int:=bu l.length++l
def jN (f:jE):List Int:=b8 f.f0++dI f.f1
def cX (x:gX):List Int:=b8 x.f0++(b8 x.f1++(b8 x.f3++(b8 x.f4++(gr x.f2.length++(x.f2.flatMap dI++(gr x.f5.length++x.f5.flatMap jN))))))
def fI (l:List gX):List Int:=(l.length:Int)::l.flatMap cX
def iR (s:eW):List Int:=b8 s.f1++[s.f2]
def dY (p:iA):List Int:=b8 p.f0++dI p.f1
def ej (x:jx):List Int:=x.f0::(b8 x.f1++[x.f2])
def dV (s:Hs):List Int:=192::1::s.self::(gr s.table.length++(s.table.flatMap iR++(gr s.pairs.length++(s.pairs.flatMap dY++(gr s.ses.length++(s.ses.flatMap ej++(bu s.free.toNat++(bu s.spare.toNat++fI s.peers))))))))
theorem _root_.Go.Proofs.YtpekmdpbfjdjkaaGreat.cL.cO.grow {W W1 W2:World} {base b:Nat} {lim:Int} {o:List Int} (h:cO W W1 base b lim o) (hb:Below W1.heap.size W1 W2) (hB:base≤W1.heap.size):cO W W2 base b lim o:=by
 obtain ⟨v,hv⟩:=h.at_;exact ⟨⟨v,hv.below hb⟩,h.below.trans (hb.mono hB),h.mv.trans (Mv.cH hb)⟩
theorem _root_.Go.Proofs.YtpekmdpbfjdjkaaGreat.cL.cO.trans {W W1 W2:World} {base b:Nat} {lim:Int} {o o':List Int} (h:cO W W1 base b lim o) (k:cO W1 W2 base b lim o'):cO W W2 base b lim o':=⟨k.at_,h.below.trans k.below,h.mv.trans k.mv⟩
theorem _root_.Go.Proofs.YtpekmdpbfjdjkaaGreat.cL.cO.start {W:World} {base b:Nat} {lim:Int} {v:Value} {o:List Int} (h:jp W base b lim v o):cO W W base b lim o:=⟨⟨v,h⟩,Below.refl _ _,Mv.refl _ _⟩
def Wc (W W1:World) (base b:Nat) (lim:Int) (o:List Int) (f:FuncId) (args:Array Value) (add:List Int):Prop:=
 Calls Tryz.prog f args W1 fun e w'=>e = .returned (.tuple #[])∧cO W1 w' base b lim (o++add)∧cO W w' base b lim (o++add)
theorem Wc.mono {W W1:World} {base b:Nat} {lim:Int} {o:List Int} {f:FuncId} {args:Array Value} {add:List Int} {R:Ending→World→Prop} (h:Wc W W1 base b lim o f args add) (k:∀e w',(e = .returned (.tuple #[])∧cO W1 w' base b lim (o++add)∧cO W w' base b lim (o++add))→R e w'):Calls Tryz.prog f args W1 R:=Calls.mono h k
theorem w8 {W W1:World} {base b:Nat} {lim:Int} {o:List Int} (h:cO W W1 base b lim o) (hb:base≤W1.heap.size) (x:Int) (x0:0≤x) (x1:x≤255) (h2:lim≤1000000000) (hl:(1:Int)+o.length≤lim) :
 Wc W W1 base b lim o 25 #[.pointer (some ⟨b,0,none⟩), .int .u8 x] [x]:=by
 obtain ⟨v,hv⟩:=h.at_;obtain ⟨n,rfl⟩:=Int.eq_ofNat_of_zero_le x0;exact (u8 n lim base b v o W1 hv hb (by omega) h2 hl).mono fun e w' ⟨h1,h3⟩=>⟨h1,h3,h.trans h3⟩
theorem yY {W W1:World} {base b:Nat} {lim:Int} {o:List Int} (h:cO W W1 base b lim o) (hb:base≤W1.heap.size) (x:Int) (x0:0≤x) (x1:x≤18446744073709551615) (h2:lim≤1000000000) (hl:(8:Int)+o.length≤lim) :
 Wc W W1 base b lim o 27 #[.pointer (some ⟨b,0,none⟩), .int .u64 x] (b8 x):=by
 obtain ⟨v,hv⟩:=h.at_;obtain ⟨n,rfl⟩:=Int.eq_ofNat_of_zero_le x0;exact (u64 n lim base b v o W1 hv hb (by omega) h2 hl).mono fun e w' ⟨h1,h3⟩=>⟨h1,h3,h.trans h3⟩
theorem wV {W W1:World} {base b:Nat} {lim:Int} {o:List Int} (h:cO W W1 base b lim o) (hb:base≤W1.heap.size) (n:Nat) (x1:n<18446744073709551616) (h2:lim≤1000000000) (hl:((bu n).length:Int)+o.length≤lim) :
 Wc W W1 base b lim o 26 #[.pointer (some ⟨b,0,none⟩), .int .u64 n] (bu n):=by
 obtain ⟨v,hv⟩:=h.at_;exact (Bo n lim base b v o W1 hv hb x1 h2 hl).mono fun e w' ⟨h1,h3⟩=>⟨h1,h3,h.trans h3⟩
theorem wB {W W1:World} {base b:Nat} {lim:Int} {o:List Int} (h:cO W W1 base b lim o) (hb:base≤W1.heap.size) (zs:List Int) (A:Option Addr) (c:Nat) (hC:∀W',Below base W1 W'→Kd.C (Kd.int .u8) W' A zs.length zs) (h2:lim≤1000000000) (hl:((dI zs).length:Int)+o.length≤lim) :
 Wc W W1 base b lim o 28 #[.pointer (some ⟨b,0,none⟩), .slice A zs.length c] (dI zs):=by
 obtain ⟨v,hv⟩:=h.at_;refine (block zs A c lim base b v o W1 hC hv hb h2 (by unfold dI at hl;rw [List.length_append] at hl;omega)).mono fun e w' ⟨h1,h3⟩=>⟨h1,?_,h.trans ?_⟩
 ·exact h3
 ·exact h3
theorem dH (x:Int):(b8 x).length=8:=ia 8 _
theorem wh (l:List gX) (A:Option Addr) (c:Nat) (lim:Int) (base b:Nat) (o:List Int) (W0 W:World) (Wz:World) (hC:Kd.C ld Wz A l.length l) (hzW:Below Wz.heap.size Wz W) (hzb:Wz.heap.size≤base) (hc:l.length≤c) (hD:cO W0 W base b lim o) (hb:base≤W.heap.size) (hB:∀x∈l,qQ x) (hl:l.length≤255) (h2:lim≤1000000000) (hroom:((fI l).length:Int)+o.length≤lim) :
 Wc W0 W base b lim o 29 #[.pointer (some ⟨b,0,none⟩), .agg #[.slice A l.length c]] (fI l):=by
 have H0:=aa hD;suffices h:Calls Tryz.prog 29 #[.pointer (some ⟨b,0,none⟩), .agg #[.slice A l.length c]] W (fun e w'=>e = .returned (.tuple #[])∧cO W w' base b lim (o++fI l)) from
  h.mono fun e w' ⟨h1,h2⟩=>⟨h1,h2,H0.1.trans h2⟩
 obtain ⟨v0,hv0⟩:=hD.at_;have D0:=aa (cO.start hv0);have HC:=aa hC;have ZW:=aa (fun (W':World) (hW:Below base W W')=>hzW.trans (hW.mono hzb));have HB:=aa hB;have HL:=aa h2;have S0:=aa hb;generalize hT:o++fI l=T;have HT:=aa (show (T.length:Int)≤lim by rw [←hT,List.length_append];omega);have E0:=aa (show o++([(l.length:Int)]++l.flatMap cX)=T from hT);have hw:IntKind.u8.wrap (l.length:Int)=(l.length:Int):=IntWalk.u8_in _ (by omega);have hu68:=Tryz.underlying68;have hu99:=Tryz.underlying99;clear hC hD hb hB h2 hroom hT hv0 H0 hzW hzb;go_in;go_wp2_with fail;have BX:=aa (aJ W (.cells #[.slice A l.length c] 28));have D1:=aa (D0.1.grow (ah (Below.refl _ W) (.cells #[.slice A l.length c] 28)) S0.1);have SZ1:=aa (Nat.le_trans S0.1 (ah (Below.refl _ W) (.cells #[.slice A l.length c] 28)).size);generalize World.alloc W _=w1 at BX D1 SZ1 ⊢;generalize W.heap.size=bx at BX ⊢;clear D0 S0;(with_reducible refine (w8 D1.1 SZ1.1 (l.length:Int) (by omega) (by omega) HL.1 (by have h:=congrArg List.length E0.1;have ht:=HT.1;(try simp only [List.length_append,dH,List.length_cons,List.length_nil] at h ht ⊢);omega)).mono ?_);rintro e w2 ⟨rfl,hd,hD⟩;have E2:=aa (show (o++[(l.length:Int)])++(l.flatMap cX)=T by rw [List.append_assoc];exact E0.1);have D2:=aa hD;have SZ2:=aa (Nat.le_trans SZ1.1 hd.mv.size);have BX_2:=aa (hd.mv.at BX.1 (by decide));generalize o++[(l.length:Int)]=o2 at D2 E2;clear hd hD D1 SZ1 E0 BX;have z2_0bx:w2.cell? ⟨bx,0,none⟩=some (.slice A l.length c):=cell_of BX_2.1 0;clear hw;go_wp2_with fail;clear BX_2 z2_0bx;go_loopw [19] (fun v19 wr=>∃(i:Nat) (oi:List Int),i≤l.length∧v19 = .int .i64 i∧af (oi++(l.drop i).flatMap cX=T)∧af (cO W wr base b lim oi)∧af (base≤wr.heap.size)) (fun v _=>l.length - (intOf v).toNat)
 case atStart=>exact ⟨0,o2,aI _,rfl,E2,D2,SZ2⟩
 case round=>
  obtain ⟨i,oi,hi,rfl,EI,DI,SI⟩:=hrel;clear E2 D2 SZ2;generalize wr=wq at DI SI ⊢;by_cases hlt:i<l.length
  case neg=>
   have HO:=aa (show oi=T by have E:=EI.1;rw [List.drop_eq_nil_of_le (by omega)] at E;simpa using E);go_wp2_with fail;go_end0;exact ⟨rfl,by rw [←HO.1];exact DI.1⟩
  obtain ⟨ad,X2,d2,X5,d5,e1,n0,n1,n2,n3,n4,n5,l2,C2,l5,C5⟩:=jY HC.1 (i:Int) (by omega) (by omega);subst e1;have hrd:cN l (i:Int)=l[i]:=by simp [cN,List.getD_eq_getElem?_getD,hlt]
  have PO:=aa (HB.1 _ (hrd▸List.getElem_mem hlt:cN l (i:Int)∈l));have E:=EI.1;rw [ap hlt,bY,←hrd,cX] at E;simp only [List.append_assoc,gr] at E;simp only [Int.toNat_natCast] at n0 n1 n2 n3 n4 n5;generalize cN l (i:Int)=x at n0 n1 n2 n3 n4 n5 l2 C2 l5 C5 PO E;have ZQ:=ZW.1 wq DI.1.below;have m0:=an ZQ n0;have m1:=an ZQ n1;have m2:=an ZQ n2;have m3:=an ZQ n3;have m4:=an ZQ n4;have m5:=an ZQ n5;have Z2:=aa C2;have Z5:=aa C5;generalize hRR:(l.drop (i+1)).flatMap cX=RR at E;have HRR:=aa hRR;have E3:=aa E;have hx2:=PO.1.l2;have hx5:=PO.1.l5;have hwl2:IntKind.u64.wrap (x.f2.length:Int)=(x.f2.length:Int):=IntWalk.u64_in _ (by omega);have hwl5:IntKind.u64.wrap (x.f5.length:Int)=(x.f5.length:Int):=IntWalk.u64_in _ (by omega);clear n0 n1 n2 n3 n4 n5 C2 C5 ZQ E hRR hrd EI;go_wp2_with fail;have P3:=aa (aJ wq (.cells #[.int .u64 x.f0, .int .u64 x.f1, .slice X2 x.f2.length d2, .int .u64 x.f3, .int .u64 x.f4, .slice X5 x.f5.length d5] 68));have D3:=aa (DI.1.grow (ah (Below.refl _ wq) (.cells #[.int .u64 x.f0, .int .u64 x.f1, .slice X2 x.f2.length d2, .int .u64 x.f3, .int .u64 x.f4, .slice X5 x.f5.length d5] 68)) SI.1);have SZ3:=aa (Nat.le_trans SI.1 (ah (Below.refl _ wq) (.cells #[.int .u64 x.f0, .int .u64 x.f1, .slice X2 x.f2.length d2, .int .u64 x.f3, .int .u64 x.f4, .slice X5 x.f5.length d5] 68)).size);generalize World.alloc wq _=w3 at P3 D3 SZ3 ⊢;generalize wq.heap.size=pb at P3 ⊢;clear m0 m1 m2 m3 m4 m5 DI SI;(with_reducible refine (yY D3.1 SZ3.1 x.f0 PO.1.m0'.1 PO.1.m0'.2 HL.1 (by have h:=congrArg List.length E3.1;have ht:=HT.1;(try simp only [List.length_append,dH,List.length_cons,List.length_nil] at h ht ⊢);omega)).mono ?_);rintro e w4 ⟨rfl,hd,hD⟩;have E4:=aa (show (oi++b8 x.f0)++(b8 x.f1++(b8 x.f3++(b8 x.f4++(bu x.f2.length++(x.f2.flatMap dI++(bu x.f5.length++(x.f5.flatMap jN++RR)))))))=T by rw [List.append_assoc];exact E3.1);have D4:=aa hD;have SZ4:=aa (Nat.le_trans SZ3.1 hd.mv.size);have P3_4:=aa (hd.mv.at P3.1 (by decide));generalize oi++b8 x.f0=o4 at D4 E4;clear hd hD D3 SZ3 E3 P3;have z4_1pb:w4.cell? ⟨pb,1,none⟩=some (.int .u64 x.f1):=cell_of P3_4.1 1;go_wp2_with fail;(with_reducible refine (yY D4.1 SZ4.1 x.f1 PO.1.m1'.1 PO.1.m1'.2 HL.1 (by have h:=congrArg List.length E4.1;have ht:=HT.1;(try simp only [List.length_append,dH,List.length_cons,List.length_nil] at h ht ⊢);omega)).mono ?_);rintro e w5 ⟨rfl,hd,hD⟩;have E5:=aa (show (o4++b8 x.f1)++(b8 x.f3++(b8 x.f4++(bu x.f2.length++(x.f2.flatMap dI++(bu x.f5.length++(x.f5.flatMap jN++RR))))))=T by rw [List.append_assoc];exact E4.1);have D5:=aa hD;have SZ5:=aa (Nat.le_trans SZ4.1 hd.mv.size);have P3_5:=aa (hd.mv.at P3_4.1 (by decide));generalize o4++b8 x.f1=o5 at D5 E5;clear hd hD D4 SZ4 E4 P3_4 z4_1pb;have z5_3pb:w5.cell? ⟨pb,3,none⟩=some (.int .u64 x.f3):=cell_of P3_5.1 3;go_wp2_with fail;(with_reducible refine (yY D5.1 SZ5.1 x.f3 PO.1.m0 PO.1.m1 HL.1 (by have h:=congrArg List.length E5.1;have ht:=HT.1;(try simp only [List.length_append,dH,List.length_cons,List.length_nil] at h ht ⊢);omega)).mono ?_);rintro e w6 ⟨rfl,hd,hD⟩;have E6:=aa (show (o5++b8 x.f3)++(b8 x.f4++(bu x.f2.length++(x.f2.flatMap dI++(bu x.f5.length++(x.f5.flatMap jN++RR)))))=T by rw [List.append_assoc];exact E5.1);have D6:=aa hD;have SZ6:=aa (Nat.le_trans SZ5.1 hd.mv.size);have P3_6:=aa (hd.mv.at P3_5.1 (by decide));generalize o5++b8 x.f3=o6 at D6 E6;clear hd hD D5 SZ5 E5 P3_5 z5_3pb;have z6_4pb:w6.cell? ⟨pb,4,none⟩=some (.int .u64 x.f4):=cell_of P3_6.1 4;go_wp2_with fail;(with_reducible refine (yY D6.1 SZ6.1 x.f4 PO.1.m4'.1 PO.1.m4'.2 HL.1 (by have h:=congrArg List.length E6.1;have ht:=HT.1;(try simp only [List.length_append,dH,List.length_cons,List.length_nil] at h ht ⊢);omega)).mono ?_);rintro e w7 ⟨rfl,hd,hD⟩;have E7:=aa (show (o6++b8 x.f4)++(bu x.f2.length++(x.f2.flatMap dI++(bu x.f5.length++(x.f5.flatMap jN++RR))))=T by rw [List.append_assoc];exact E6.1);have D7:=aa hD;have SZ7:=aa (Nat.le_trans SZ6.1 hd.mv.size);have P3_7:=aa (hd.mv.at P3_6.1 (by decide));generalize o6++b8 x.f4=o7 at D7 E7;clear hd hD D6 SZ6 E6 P3_6 z6_4pb;have z7_2pb:w7.cell? ⟨pb,2,none⟩=some (.slice X2 x.f2.length d2):=cell_of P3_7.1 2;go_wp2_with fail;(with_reducible refine (wV D7.1 SZ7.1 x.f2.length (by omega) HL.1 (by have h:=congrArg List.length E7.1;have ht:=HT.1;(try simp only [List.length_append,dH,List.length_cons,List.length_nil] at h ht ⊢);omega)).mono ?_);rintro e w8 ⟨rfl,hd,hD⟩;have E8:=aa (show (o7++bu x.f2.length)++(x.f2.flatMap dI++(bu x.f5.length++(x.f5.flatMap jN++RR)))=T by rw [List.append_assoc];exact E7.1);have D8:=aa hD;have SZ8:=aa (Nat.le_trans SZ7.1 hd.mv.size);have P3_8:=aa (hd.mv.at P3_7.1 (by decide));generalize o7++bu x.f2.length=o8 at D8 E8;clear hd hD D7 SZ7 E7 P3_7 z7_2pb;have z8_2pb:w8.cell? ⟨pb,2,none⟩=some (.slice X2 x.f2.length d2):=cell_of P3_8.1 2;go_wp2_with fail;clear z8_2pb;go_loopw [48] (fun v48 wr=>∃(j:Nat) (oj:List Int),j≤x.f2.length∧v48 = .int .i64 j∧af (oj++((x.f2.drop j).flatMap dI++(bu x.f5.length++(x.f5.flatMap jN++RR)))=T)∧af (cO W wr base b lim oj)∧af (base≤wr.heap.size)∧af (wr.heap[pb]? = some (.cells #[.int .u64 x.f0, .int .u64 x.f1, .slice X2 x.f2.length d2, .int .u64 x.f3, .int .u64 x.f4, .slice X5 x.f5.length d5] 68 (0,0)))) (fun v _=>x.f2.length - (intOf v).toNat)
  case atStart=>exact ⟨0,o8,aI _,rfl,E8,D8,SZ8,P3_8⟩
  case round=>
   obtain ⟨j,oj,hj,rfl,EJ,DJ,SJ,PJ⟩:=hrel;clear E8 D8 SZ8 P3_8;generalize wr=wj at DJ SJ PJ ⊢;by_cases hjt:j<x.f2.length
   ·obtain ⟨ad2,c9,e1,_,hK,hc0⟩:=Kd.fw Z2.1 [] (j:Int) (by omega) (by omega);obtain ⟨Y1,q1,rfl,hq1,hC1⟩:=hK;have hy0:=hc0 0 _ rfl;subst e1;simp only [Int.toNat_natCast,show (Kd.slice 5 (Kd.int .u8)).sz=1 from rfl,Nat.mul_one,Nat.add_zero,List.getD_eq_getElem?_getD,List.getElem?_eq_getElem hjt,Option.getD_some] at hy0 hq1 hC1;have E:=EJ.1;rw [ap hjt,bY,List.append_assoc] at E;generalize x.f2[j]=y at hy0 hq1 hC1 E;have hy1:=an (ZW.1 wj DJ.1.below) hy0;have CY:=aa (fun (W':World) (hW:Below base wj W')=>Kd.aN hC1 (ZW.1 W' (DJ.1.below.trans hW)));have E9:=aa E;clear hy0 hC1 hc0 E EJ;go_wp2_with fail;refine (wB DJ.1 SJ.1 y Y1 q1 CY.1 HL.1 (by have h:=congrArg List.length E9.1;have ht:=HT.1;(try simp only [List.length_append,dH,List.length_cons,List.length_nil] at h ht ⊢);omega)).mono ?_;rintro e w9 ⟨rfl,hd,hD⟩;have EA:=aa (show (oj++dI y)++((x.f2.drop (j+1)).flatMap dI++(bu x.f5.length++(x.f5.flatMap jN++RR)))=T by rw [List.append_assoc];exact E9.1);have DA:=aa hD;have SA:=aa (Nat.le_trans SJ.1 hd.mv.size);have PA:=aa (hd.mv.at PJ.1 (by decide));clear hd hD DJ SJ E9 PJ CY hy1;go_wp2_with fail;go_roundw
    case rel=>exact ⟨j+1,oj++dI y,by omega,by go_num,EA,DA,SA,PA⟩
    case measure=>
     show x.f2.length - ((j:Int)+1).toNat<x.f2.length - (j:Int).toNat;omega
   have E8:=aa (show oj++(bu x.f5.length++(x.f5.flatMap jN++RR))=T by have E:=EJ.1;rw [List.drop_eq_nil_of_le (by omega)] at E;exact E);have zj:wj.cell? ⟨pb,5,none⟩=some (.slice X5 x.f5.length d5):=cell_of PJ.1 5;clear EJ;go_wp2_with fail;(with_reducible refine (wV DJ.1 SJ.1 x.f5.length (by omega) HL.1 (by have h:=congrArg List.length E8.1;have ht:=HT.1;(try simp only [List.length_append,dH,List.length_cons,List.length_nil] at h ht ⊢);omega)).mono ?_);rintro e w9 ⟨rfl,hd,hD⟩;have E9:=aa (show (oj++bu x.f5.length)++(x.f5.flatMap jN++RR)=T by rw [List.append_assoc];exact E8.1);have D9:=aa hD;have SZ9:=aa (Nat.le_trans SJ.1 hd.mv.size);have PJ_9:=aa (hd.mv.at PJ.1 (by decide));generalize oj++bu x.f5.length=o9 at D9 E9;clear hd hD DJ SJ E8 PJ;have z9_5pb:w9.cell? ⟨pb,5,none⟩=some (.slice X5 x.f5.length d5):=cell_of PJ_9.1 5;clear zj;go_wp2_with fail;go_loopw [65] (fun v65 wr=>∃(k:Nat) (ok:List Int),k≤x.f5.length∧v65 = .int .i64 k∧af (ok++((x.f5.drop k).flatMap jN++RR)=T)∧af (cO W wr base b lim ok)∧af (base≤wr.heap.size)) (fun v _=>x.f5.length - (intOf v).toNat)
   case atStart=>exact ⟨0,o9,aI _,rfl,E9,D9,SZ9⟩
   case round=>
    obtain ⟨k,ok,hk,rfl,EK,DK,SK⟩:=hrel;clear E9 D9 SZ9 PJ_9;generalize wr=wk at DK SK ⊢;by_cases hkt:k<x.f5.length
    ·obtain ⟨ad2,c9,e1,_,hK,hc0⟩:=Kd.fw Z5.1 sI (k:Int) (by omega) (by omega);obtain ⟨Y1,q1,rfl,hq1,hC1⟩:=gn hK;have hy0:=hc0 0 _ rfl;have hy1:=hc0 1 _ rfl;subst e1;simp only [Int.toNat_natCast,show jC.sz=2 from rfl,Nat.add_zero,List.getD_eq_getElem?_getD,List.getElem?_eq_getElem hkt,Option.getD_some] at hy0 hy1 hq1 hC1;rw [dw _ _ 1 (by omega)] at hy1;have E:=EK.1;rw [ap hkt,bY,jN] at E;simp only [List.append_assoc] at E;have FB:=aa (PO.1.y5 _ (List.getElem_mem hkt)).1;generalize x.f5[k]=f at hy0 hy1 hq1 hC1 E FB;have hy2:=an (ZW.1 wk DK.1.below) hy0;have hy3:=an (ZW.1 wk DK.1.below) hy1;have HC1:=aa hC1;have EA:=aa E;clear hy0 hy1 hC1 hc0 hK E EK;go_wp2_with fail;have F10:=aa (aJ wk (.cells #[.int .u64 f.f0, .slice Y1 f.f1.length q1] 99));have D10:=aa (DK.1.grow (ah (Below.refl _ wk) (.cells #[.int .u64 f.f0, .slice Y1 f.f1.length q1] 99)) SK.1);have SZ10:=aa (Nat.le_trans SK.1 (ah (Below.refl _ wk) (.cells #[.int .u64 f.f0, .slice Y1 f.f1.length q1] 99)).size);generalize World.alloc wk _=w10 at F10 D10 SZ10 ⊢;generalize wk.heap.size=fb at F10 ⊢;clear hy2 hy3 DK SK;(with_reducible refine (yY D10.1 SZ10.1 f.f0 FB.1.1 FB.1.2 HL.1 (by have h:=congrArg List.length EA.1;have ht:=HT.1;(try simp only [List.length_append,dH,List.length_cons,List.length_nil] at h ht ⊢);omega)).mono ?_);rintro e w11 ⟨rfl,hd,hD⟩;have E11:=aa (show (ok++b8 f.f0)++(dI f.f1++((x.f5.drop (k+1)).flatMap jN++RR))=T by rw [List.append_assoc];exact EA.1);have D11:=aa hD;have SZ11:=aa (Nat.le_trans SZ10.1 hd.mv.size);have F10_11:=aa (hd.mv.at F10.1 (by decide));generalize ok++b8 f.f0=o11 at D11 E11;clear hd hD D10 SZ10 EA F10;have z11_1fb:w11.cell? ⟨fb,1,none⟩=some (.slice Y1 f.f1.length q1):=cell_of F10_11.1 1;go_wp2_with fail;have CY:=aa (fun (W':World) (hW:Below base w11 W')=>Kd.aN HC1.1 (ZW.1 W' (D11.1.below.trans hW)));(with_reducible refine (wB D11.1 SZ11.1 f.f1 Y1 q1 CY.1 HL.1 (by have h:=congrArg List.length E11.1;have ht:=HT.1;(try simp only [List.length_append,dH,List.length_cons,List.length_nil] at h ht ⊢);omega)).mono ?_);rintro e w12 ⟨rfl,hd,hD⟩;have E12:=aa (show (o11++dI f.f1)++((x.f5.drop (k+1)).flatMap jN++RR)=T by rw [List.append_assoc];exact E11.1);have D12:=aa hD;have SZ12:=aa (Nat.le_trans SZ11.1 hd.mv.size);have F10_12:=aa (hd.mv.at F10_11.1 (by decide));generalize o11++dI f.f1=o12 at D12 E12;clear hd hD D11 SZ11 E11 F10_11 z11_1fb;go_wp2_with fail;go_roundw
     case rel=>exact ⟨k+1,o12,by omega,by go_num,E12,D12,SZ12⟩
     case measure=>
      show x.f5.length - ((k:Int)+1).toNat<x.f5.length - (k:Int).toNat;omega
    have EL:=aa (show ok++RR=T by have E:=EK.1;rw [List.drop_eq_nil_of_le (by omega)] at E;exact E);go_wp2_with fail;go_roundw
    case rel=>exact ⟨i+1,ok,by omega,by go_num,⟨by rw [HRR.1];exact EL.1⟩,DK,SK⟩
    case measure=>
     show l.length - ((i:Int)+1).toNat<l.length - (i:Int).toNat;omega
end Go.Proofs.YtpekmdpbfjdjkaaGreat.dO