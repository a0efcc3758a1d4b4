/- Part 14 of the proof that a state's bytes are the document's. No condition. -/
import Derived.Test.YtpekmdpbfjdjkaaGreatZ13
set_option maxHeartbeats 16000000
set_option maxRecDepth 100000
set_option linter.all false
namespace Go.Proofs.YtpekmdpbfjdjkaaGreat.dO
open Go Go.RowKit ag.ax ag.aV ag.aU aD fr iK
def zr (x:gX):Bool:=if (Go.bits .or .u64 (Go.bits .or .u64 (Go.bits .or .u64 x.f0 x.f1) x.f3) x.f4)=0 then (if (x.f2.length:Int)=0 then ((x.f5.length:Int) == 0) else false) else false
theorem Cr (x:gX):ji.f x.f0 x.f1 x.f2 x.f3 x.f4 x.f5=some (zr x):=by
 unfold ji.f zr;split
 ·split<;>rfl
 ·rfl
structure xA (x:gX):Prop where
 m0:0≤x.f3
 m1:x.f3≤18446744073709551615
 l2:x.f2.length≤100000000
 l5:x.f5.length≤100000000
 b2:Bl x.f2
 b5:Fl x.f5
def oQ (self q win:Int):Nat→List gX→Bool
 | _,[]=>true
 | i,x::r=>(if (i:Int)=self then zr x else (lf x q&&kp x.f4 win x.f5 1))&&oQ self q win (i+1) r
def nZ (self:Int) (H:Nat) (q win:Int):Bool:=decide (1≤H∧H≤16∧self<H∧1≤q∧q≤16∧1≤win∧win≤q)
theorem AO (self:Int) (H:Nat) (q win:Int) (s0:0≤self) (s1:self≤255):gJ.f self H q win=some (nZ self H q win):=by
 unfold gJ.f nZ;have:wrap64 self=self:=by unfold wrap64;omega
 rw [this];by_cases h1:(H:Int)≥1
 ·rw [if_pos h1];by_cases h2:(H:Int)≤16
  ·rw [if_pos h2];by_cases h3:self<(H:Int)
   ·rw [if_pos h3];by_cases h4:q≥1
    ·rw [if_pos h4];by_cases h5:q≤16
     ·rw [if_pos h5];by_cases h6:win≥1
      ·rw [if_pos h6];congr 1;apply decide_eq_decide.2;omega
      ·rw [if_neg h6];congr 1;exact (decide_eq_false (by omega)).symm
     ·rw [if_neg h5];congr 1;exact (decide_eq_false (by omega)).symm
    ·rw [if_neg h4];congr 1;exact (decide_eq_false (by omega)).symm
   ·rw [if_neg h3];congr 1;exact (decide_eq_false (by omega)).symm
  ·rw [if_neg h2];congr 1;exact (decide_eq_false (by omega)).symm
 ·rw [if_neg h1];congr 1;exact (decide_eq_false (by omega)).symm
theorem pF (self:Int) (H:Nat) (q win:Int) (w:World) (s0:0≤self) (s1:self≤255) (hf:nZ self H q win=false) :
 Calls Tryz.prog 93 #[.int .u8 self, .int .i64 H, .int .i64 q, .int .i64 win] w fun e w'=>e = .returned (.tuple #[.pointer none, .int .i64 2])∧∃n,w'=w.drewN n:=by
 have HF:=aa (gJ.calls self H q win false · (by rw [←hf];exact AO self H q win s0 s1));go_in;go_wp2_with fail;refine (HF.1 _).mono ?_;rintro e w' ⟨rfl,⟨n1,rfl⟩⟩;go_wp2_with fail;go_ret2;exact ⟨rfl,_,rfl⟩
def Rest (W:World) (base P0 H:Nat) (self q win:Int) (i:Nat):Prop:=
 ∃vs:List Value,W.ownsRow base 161 1 (.slice (some ⟨P0,0,none⟩) H H) H vs∧∀h v,i≤h→vs[h]? = some v→kz W base self q win h v
theorem Rest.below {W W':World} {base P0 H:Nat} {self q win:Int} {i:Nat} (h:Rest W base P0 H self q win i) (hb:Below W.heap.size W W'):Rest W' base P0 H self q win i:=by
 obtain ⟨vs,ho,hp⟩:=h;exact ⟨vs,oD (T:=0) ho (jf.below hb) (by decide),fun h v hh hv=>(hp h v hh hv).move (fun b cs hc=>hb.block b (Array.getElem?_eq_some_iff.1 hc).1)⟩
theorem Rest.drop {W:World} {base P0 H:Nat} {self q win:Int} {i:Nat} (h:Rest W base P0 H self q win i):Rest W base P0 H self q win (i+1):=by
 obtain ⟨vs,ho,hp⟩:=h;exact ⟨vs,ho,fun h v hh hv=>hp h v (by omega) hv⟩
theorem Rest.kept {W W':World} {base P0 H:Nat} {self q win:Int} {i j j' b:Nat} {cs:Array Value} (h:Rest W base P0 H self q win j) (hj:j≤j') (hij:i<j') (hb:W.heap[b]? = some (.cells cs 168 (0,0))) (h0:cs[0]? = some (.int .u8 (i:Int))) (hk:Kept W W' (fun k=>k=b)):Rest W' base P0 H self q win j':=by
 obtain ⟨vs,ho,hp⟩:=h;have hP:∀k,(Value.slice (some ⟨P0,0,none⟩) H H).ownBlock=some k→W'.heap[k]? = W.heap[k]? :=fun k hk'=>by
  obtain ⟨cells,hc⟩:=gN ho k hk';refine hk.2 k (Array.getElem?_eq_some_iff.1 hc).1 (fun e=>?_);subst e;rw [hb] at hc;injection hc with hc;injection hc with _ hc _;exact absurd hc (by decide)
 refine ⟨vs,nP ho hP,fun h v hh hv=>?_⟩;rcases hp h v (by omega) hv with hn|⟨hne,b',hb',rfl,hh'⟩
 ·exact .inl hn
 ·refine .inr ⟨hne,b',hb',rfl,(hk.2 b' (Array.getElem?_eq_some_iff.1 hh').1 (fun e=>?_)).trans hh'⟩;subst e;rw [hb] at hh';injection hh' with hh';injection hh' with hh' _ _;subst hh';have:(Value.int .u8 (i:Int)) = .int .u8 (h:Int):=by
   have h1:=h0.symm;simpa [fU] using h1
  injection this with _ this;omega
theorem Rest.at_ {W:World} {base P0 H:Nat} {self q win:Int} {i:Nat} (h:Rest W base P0 H self q win i) (hi:i<H):∃v,W.cell? ⟨P0,i,none⟩=some v∧kz W base self q win i v:=by
 obtain ⟨vs,ho,hp⟩:=h;have hl:vs.length=H:=by have:=ho.1;omega
 refine ⟨vs[i],(ho.cellAt i (by omega)).trans (List.getElem?_eq_getElem (by omega)),hp i _ (Nat.le_refl _) (List.getElem?_eq_getElem (by omega))⟩
theorem Rest.start {W:World} {base P0 H:Nat} {self q win:Int} (h:ei W base P0 H self q win H):Rest W base P0 H self q win 0:=by
 obtain ⟨vs,ho,hp,_⟩:=h;refine ⟨vs,ho,fun h v _ hv=>hp h v ?_ hv⟩;have:=(List.getElem?_eq_some_iff.1 hv).1;have:=ho.1;omega
def qP (W:World) (o:Bool) (e:Ending) (w':World):Prop:=Below W.heap.size W w'∧∃v er,e = .returned (.tuple #[v, .int .i64 er])∧if o=true then er=0 else er≠0
theorem qP.no {W w':World} {o:Bool} {v:Value} {er:Int} (ho:false=o) (he:er≠0) (hb:Below W.heap.size W w'):qP W o (.returned (.tuple #[v, .int .i64 er])) w':=by
 subst ho;exact ⟨hb,v,er,rfl,by simpa using he⟩
theorem qP.ok {W w':World} {o:Bool} {v:Value} (ho:true=o) (hb:Below W.heap.size W w'):qP W o (.returned (.tuple #[v, .int .i64 0])) w':=by
 subst ho;exact ⟨hb,v,0,rfl,by simp⟩
theorem tK (self:Int) (H:Nat) (q win:Int) (P:Option Addr) (c:Nat) (l:List gX) (W:World) (s0:0≤self) (s1:self≤255) (hl:Kd.C ld W P l.length l) (hc:l.length≤c) (hL:l.length≤100000000) (hP:∀x∈l,xA x) :
 Calls Tryz.prog 54 #[.int .u8 self, .int .i64 H, .int .i64 q, .int .i64 win, .agg #[.slice P l.length c]] W (qP W (nZ self H q win&&(decide (l.length=H)&&oQ self q win 0 l))):=by
 have HC:=aa hl;have HP:=aa hP;have S0:=aa s0;have S1:=aa s1;generalize hO:(nZ self H q win&&(decide (l.length=H)&&oQ self q win 0 l))=o;have HO:=aa hO;clear hl hP hO s0 s1;go_in;go_wp2_with fail;have BX:=aa (aJ W (.cells #[.slice P l.length c] 28));have B1:=aa (ah (Below.refl _ W) (.cells #[.slice P l.length c] 28));generalize World.alloc W _=W1 at BX B1 ⊢;generalize hbx:W.heap.size=bx at BX ⊢;have LX:=aa (ak BX.1);clear hbx;cases hf:nZ self H q win with
 | false=>
  have HO2:=aa (show false=o by rw [←HO.1,hf];rfl);have NB:=aa (pF self H q win W1 S0.1 S1.1 hf);clear HO hf;refine NB.1.mono ?_;rintro e w2 ⟨rfl,n2,rfl⟩;go_wp2_with fail;go_ret2;exact qP.no HO2.1 (by decide) (ai B1.1 _)
 | true=>
 have HO2:=aa (show (decide (l.length=H)&&oQ self q win 0 l)=o by rw [←HO.1,hf];rfl);have FF:=aa (of_decide_eq_true hf);have NG:=aa (uF self H q win W1 FF.1.1 FF.1.2.1 S0.1 FF.1.2.2.1 FF.1.2.2.2.1 FF.1.2.2.2.2.1 FF.1.2.2.2.2.2.1 FF.1.2.2.2.2.2.2);clear HO hf;refine NG.1.mono ?_;rintro e w2 ⟨B,rfl,⟨hBB,P0,hE,hPR⟩,hB⟩;have B2:=aa (B1.1.trans (hB.mono B1.1.size));have BX2:=aa ((hB.block bx LX.1).trans BX.1);have R2:=aa (Rest.start hPR);have x0:w2.cell? ⟨bx,0,none⟩=some (.slice P l.length c):=cell_of BX2.1 0;have y0:w2.cell? ⟨B,0,none⟩=some (.slice (some ⟨P0,0,none⟩) H H):=cell_of hE 0;have SZ:=aa hB.size;have LX1:=aa (show bx<W1.heap.size from LX.1);have HH:=aa FF.1.2.1;clear hB hPR hBB hE NG BX;have BS:=aa B1.1.size;generalize W1.heap.size=base at R2 SZ LX1 BS;by_cases g0:l.length=H
 case neg=>
  have g0b:((l.length:Int) != (H:Int))=true:=by rw [b7];omega
  have HO3:=aa (show false=o by rw [←HO2.1,decide_eq_false g0];rfl);clear HO2 g0;go_wp2_with fail;go_ret2;exact qP.no HO3.1 (by decide) B2.1
 have g0b:((l.length:Int) != (H:Int))=false:=by rw [ci];omega
 have HO3:=aa (show oQ self q win 0 l=o by rw [←HO2.1,decide_eq_true g0];rfl);have LH:=aa g0;clear HO2 g0;go_wp2_with fail;go_loopw [37] (fun v37 wr=>∃i:Nat,i≤H∧v37 = .int .i64 i∧af (Rest wr base P0 H self q win i)∧af (oQ self q win i (l.drop i)=o)∧af (Below base w2 wr)∧af (Below W.heap.size W wr)) (fun v _=>H - (intOf v).toNat)
 case atStart=>exact ⟨0,aI _,rfl,R2,HO3,⟨Below.refl _ _⟩,B2⟩
 case round=>
  obtain ⟨i,hi,rfl,R,J0,HB,HW⟩:=hrel;clear HO3 B2 R2;have hH:=HH.1;by_cases hlt:i<H
  case neg=>
   have hii:¬(i:Int)<(H:Int):=by omega
   have HO4:=aa (show true=o by have J:=J0.1;rw [List.drop_eq_nil_of_le (by have:=LH.1;omega)] at J;exact J);go_wp2_with fail;go_ret2;exact qP.ok HO4.1 HW.1
  have hil:i<l.length:=by have:=LH.1;omega
  obtain ⟨v,hv,hpa⟩:=R.1.at_ hlt;obtain ⟨ad,A2,c2,A5,c5,e1,n0,n1,n2,n3,n4,n5,l2,C2,l5,C5⟩:=jY HC.1 (i:Int) (by omega) (by omega);subst e1;simp only [Int.toNat_natCast] at n0 n1 n2 n3 n4 n5 C2 C5;have hrd:cN l (i:Int)=l[i]:=by simp [cN,List.getD_eq_getElem?_getD,hil]
  have PO:=aa (HP.1 _ (hrd▸List.getElem_mem hil:cN l (i:Int)∈l));have J:=J0.1;rw [ap hil,oQ,←hrd] at J;generalize cN l (i:Int)=x at n0 n1 n2 n3 n4 n5 l2 C2 l5 C5 PO J;have J1:=aa J;have D2:=aa (Kd.aN C2 HW.1);have D5:=aa (Kd.aN C5 HW.1);have E5:=aa C5;have CE:=aa (And.intro n0 (And.intro n1 (And.intro n2 (And.intro n3 (And.intro n4 n5)))));have m0:=an HW.1 n0;have m1:=an HW.1 n1;have m2:=an HW.1 n2;have m3:=an HW.1 n3;have m4:=an HW.1 n4;have m5:=an HW.1 n5;clear n0 n1 n2 n3 n4 n5;have x1:wr.cell? ⟨bx,0,none⟩=some (.slice (some ad) l.length c):=cell_of ((HB.1.block bx LX1.1).trans BX2.1) 0;have SZ1:=aa (Nat.le_trans SZ.1 HB.1.size);clear J J0 hrd C2 C5 x0 y0;rcases hpa with ⟨hs,rfl⟩|⟨hne,b,hbb,rfl,hh⟩
  ·have J2:=aa (show (zr x&&oQ self q win (i+1) (l.drop (i+1)))=o by have J:=J1.1;rw [if_pos hs] at J;exact J);have Z:=aa (ji.calls x.f0 x.f1 A2 c2 x.f2 x.f3 x.f4 A5 c5 x.f5 (zr x) wr D2.1 l2 D5.1 l5 (Cr x));clear J1 hs;go_wp2_with fail;refine Z.1.mono ?_;rintro e w3 ⟨rfl,hB3⟩;have HW3:=aa (HW.1.trans (hB3.mono HW.1.size));have HB3:=aa (HB.1.trans (hB3.mono SZ1.1));have R3:=aa (R.1.below hB3).drop;clear hB3 Z R HW HB x1 m0 m1 m2 m3 m4 m5 hv;cases hz:zr x with
   | false=>
    have HO4:=aa (show false=o by have J:=J2.1;rw [hz] at J;exact J);clear J2 hz;go_wp2_with fail;go_ret2;exact qP.no HO4.1 (by decide) HW3.1
   | true=>
    have HO4:=aa (show oQ self q win (i+1) (l.drop (i+1))=o by have J:=J2.1;rw [hz] at J;exact J);clear J2 hz;go_wp2_with fail;go_quiet (fail);go_wp2_with fail;go_roundw
    case rel=>exact ⟨i+1,by omega,by go_num,⟨R3.1.below (ai (Below.refl _ _) _)⟩,HO4,⟨ai HB3.1 _⟩,⟨ai HW3.1 _⟩⟩
    case measure=>
     show H - ((i:Int)+1).toNat<H - (i:Int).toNat;omega
  ·have J2:=aa (show ((lf x q&&kp x.f4 win x.f5 1)&&oQ self q win (i+1) (l.drop (i+1)))=o by have J:=J1.1;rw [if_neg hne] at J;exact J);have PB:=aa hh;have BB:=aa hbb;clear J1 hne hh hbb;go_wp2_with fail;have LY:=aa (Dr b (i:Int) q win x A2 A5 c2 c5 wr.drew PB.1 (Kd.jU D2.1) l2 PO.1.l2 PO.1.b2 PO.1.m0 PO.1.m1);have j0:wr.drew.cell? (ad.add (i*6))=some (.int .u64 x.f0):=m0;have j1:wr.drew.cell? ⟨(ad.add (i*6)).block,(ad.add (i*6)).off+1,none⟩=some (.int .u64 x.f1):=m1;have j2:wr.drew.cell? ⟨(ad.add (i*6)).block,(ad.add (i*6)).off+2,none⟩=some (.slice A2 x.f2.length c2):=m2;have j3:wr.drew.cell? ⟨(ad.add (i*6)).block,(ad.add (i*6)).off+3,none⟩=some (.int .u64 x.f3):=m3;have j4:wr.drew.cell? ⟨(ad.add (i*6)).block,(ad.add (i*6)).off+4,none⟩=some (.int .u64 x.f4):=m4;have j5:wr.drew.cell? ⟨(ad.add (i*6)).block,(ad.add (i*6)).off+5,none⟩=some (.slice A5 x.f5.length c5):=m5;have x2:wr.drew.cell? ⟨bx,0,none⟩=some (.slice (some ad) l.length c):=x1;have LB:=aa (ak PB.1);refine bl (fun _=>True) 19 [(0,0),(1,0),(2,0),(3,0),(4,0),(5,0),(6,0),(8,0),(7,2),(9,0),(10,2),(11,2),(12,0),(13,0),(14,0),(15,0),(16,0),(18,0),(17,2)] (by kernel_rfl) (by kernel_rfl) (fun _ _ _ _ _ h=>h) trivial ?_;clear m0 m1 m2 m3 m4 m5 x1;iterate 8 (refine eF ?_;simp only [cS,Act.put])
   refine aT rfl ?_;go_wp2_with fail;refine bB.mk trivial (fun _=>?_);iterate 1 (refine eF ?_;simp only [cS,Act.put])
   refine aT rfl ?_;go_wp2_with fail;refine bB.mk trivial (fun _=>?_);refine aT rfl ?_;go_wp2_with fail;unfold ew at LY;refine LY.1.mono ?_;rintro e w4 ⟨rfl,hB4,hK4,s4,a4,v4,m4,hb4⟩;have PB4:=aa hb4;have HB4:=aa (HB.1.drew.trans (hB4.mono BB.1));have HW4:=aa (HW.1.drew.trans (hB4.mono (Nat.le_trans BS.1 BB.1)));have R4:=aa ((R.1.below (Below.refl _ _).drew).kept (Nat.le_succ i) (Nat.lt_succ_self i) (show wr.drew.heap[b]? = _ from PB.1) rfl hK4);have K4:=aa (show Kd.C jC w4 A5 x.f5.length x.f5 from Kd.aN E5.1 HW4.1);have x4:w4.cell? ⟨bx,0,none⟩=some (.slice (some ad) l.length c):=cell_of ((HB4.1.block bx LX1.1).trans BX2.1) 0;have j0:=an HW4.1 CE.1.1;have j1:=an HW4.1 CE.1.2.1;have j2:=an HW4.1 CE.1.2.2.1;have j3:=an HW4.1 CE.1.2.2.2.1;have j4:=an HW4.1 CE.1.2.2.2.2.1;have j5:=an HW4.1 CE.1.2.2.2.2.2;clear hB4 hK4 hb4 LY R HB HW x2 D2 D5 PB LB hv;cases hlay:lf x q with
   | false=>
    have HO4:=aa (show false=o by have J:=J2.1;rw [hlay] at J;exact J);clear J2 hlay;go_wp2_with fail;refine bB.mk trivial (fun _=>?_);iterate 1 (refine eF ?_;simp only [cS,Act.put])
    refine da rfl rfl ?_;simp only [cS,Act.put];refine da rfl rfl ?_;simp only [cS,Act.put];refine da rfl rfl ?_;simp only [cS,Act.put];refine da rfl rfl ?_;simp only [cS,Act.put];refine da rfl rfl ?_;simp only [cS,Act.put];refine aT rfl ?_;go_wp2_with fail;refine bB.mk trivial (fun _=>?_);refine bC ?_;simp only [aC,List.drop_zero];go_wp2_with fail;go_ret2;exact qP.no HO4.1 (by decide) HW4.1
   | true=>
    have J3:=aa (show (kp x.f4 win x.f5 1&&oQ self q win (i+1) (l.drop (i+1)))=o by have J:=J2.1;rw [hlay] at J;exact J);have KY:=aa (sG b (i:Int) q win s4 a4 v4 m4 x A2 A5 c2 c5 w4 PB4.1 K4.1 l5 PO.1.l5 PO.1.b5);clear J2 hlay;go_wp2_with fail;refine bB.mk trivial (fun _=>?_);iterate 6 (refine eF ?_;simp only [cS,Act.put])
    refine aT rfl ?_;go_wp2_with fail;refine bB.mk trivial (fun _=>?_);refine bC ?_;simp only [aC,List.drop_zero];go_wp2_with fail;unfold ew at KY;refine KY.1.mono ?_;rintro e w5 ⟨rfl,hB5,hK5⟩;have HB5:=aa (HB4.1.trans (hB5.mono BB.1));have HW5:=aa (HW4.1.trans (hB5.mono (Nat.le_trans BS.1 BB.1)));have R5:=aa (R4.1.kept (Nat.le_refl _) (Nat.lt_succ_self i) PB4.1 rfl hK5);clear hB5 hK5 KY R4 HB4 HW4 x4 K4 PB4;cases hkp:kp x.f4 win x.f5 1 with
    | false=>
     have HO4:=aa (show false=o by have J:=J3.1;rw [hkp] at J;exact J);clear J3 hkp;go_wp2_with fail;go_ret2;exact qP.no HO4.1 (by decide) HW5.1
    | true=>
     have HO4:=aa (show oQ self q win (i+1) (l.drop (i+1))=o by have J:=J3.1;rw [hkp] at J;exact J);clear J3 hkp;go_wp2_with fail;go_roundw
     case rel=>exact ⟨i+1,by omega,by go_num,R5,HO4,HB5,HW5⟩
     case measure=>
      show H - ((i:Int)+1).toNat<H - (i:Int).toNat;omega
end Go.Proofs.YtpekmdpbfjdjkaaGreat.dO
namespace Go.Proofs.YtpekmdpbfjdjkaaGreat.dO
open Go Go.RowKit ag.ax ag.aV ag.aU aD fr iK fE cL
def sc:Option Int→Bool
 | none=>false
 | some k=>k == 12
def hU (l:List Int):Bool:=sc ((ic l).map (·.k))
theorem qJ (A:Option Addr) (c:Nat) (l:List Int) (W:World) (hl:Kd.C (Kd.int .u8) W A l.length l) (hc:l.length≤c) (hL:l.length≤100000000) (hb:aq l) :
 Calls Tryz.prog 117 #[.slice A l.length c] W fun e w'=>e = .returned (.bool (hU l))∧Below W.heap.size W w':=by
 have HP:=aa (parse A c l W hl hc hL hb);unfold hU;generalize (ic l).map (·.k)=o at HP ⊢;clear hl hb;go_in;go_wp2_with fail;refine HP.1.mono ?_;rintro e w1 ⟨cs,pl,er,rfl,hB,hs,h1,ho⟩;have B1:=aa hB;have S1:=aa hs;have O1:=aa h1;have M1:=aa ho;clear hB hs h1 ho HP;cases o with
 | none=>
  have he:(er == 0)=false:=by rw [bi];exact M1.1
  go_wp2_with ((with_reducible refine gS 3 9 rfl ?_);refine dl (g:=w1.heap.size) (t:=214) (p:= .tmp 3) (x:= .tmp 9) (u:= .agg cs.toArray) rfl rfl rfl cs ?addr ?ex (aJ w1 _) ?eu ?ht ?hf ?h1 ?_;(case addr=>rfl);(case ex=>rfl);(case eu=>rfl);(case ht=>rw [S1.1];kernel_rfl);(case hf=>rw [S1.1];rfl);(case h1=>exact O1.1);intro w2 hW hG;have W2:=aa hW;have B2:=aa ((ah B1.1 (.cells vY.toArray 214)).grown hG (Nat.le_trans B1.1.size (ah (Below.refl _ w1) (.cells vY.toArray 214)).size) (fun k e=>by injection e with e;have:=B1.1.size;omega));clear hW hG);go_ret;exact ⟨rfl,B2.1⟩
 | some k=>
  obtain ⟨rfl,hk⟩:=M1.1;have K0:=aa (show cs.toArray[0]? = some (.int .u8 k) by
   cases cs with
   | nil=>cases hk
   | cons a r=>simpa using hk)
  clear hk M1;go_wp2_with ((with_reducible refine gS 3 9 rfl ?_);refine dl (g:=w1.heap.size) (t:=214) (p:= .tmp 3) (x:= .tmp 9) (u:= .agg cs.toArray) rfl rfl rfl cs ?addr ?ex (aJ w1 _) ?eu ?ht ?hf ?h1 ?_;(case addr=>rfl);(case ex=>rfl);(case eu=>rfl);(case ht=>rw [S1.1];kernel_rfl);(case hf=>rw [S1.1];rfl);(case h1=>exact O1.1);intro w2 hW hG;have W2:=aa hW;have B2:=aa ((ah B1.1 (.cells vY.toArray 214)).grown hG (Nat.le_trans B1.1.size (ah (Below.refl _ w1) (.cells vY.toArray 214)).size) (fun k e=>by injection e with e;have:=B1.1.size;omega));have k0:w2.cell? ⟨w1.heap.size,0,none⟩=some (.int .u8 k):=(cell_of hW 0).trans K0.1;clear hW hG);go_ret;exact ⟨rfl,B2.1⟩
end Go.Proofs.YtpekmdpbfjdjkaaGreat.dO
namespace Go.Proofs.YtpekmdpbfjdjkaaGreat.dO
open Go Go.RowKit ag.ax ag.aV ag.aU aD fr iK cL
structure Hs where
 self:Int
 table:List eW
 pairs:List iA
 ses:List jx
 free:Int
 spare:Int
 peers:List gX
def jw (s:Hs) (A1 A2 A3 A6:Option Addr) (c1 c2 c3 c6:Nat):Array Value:=#[.int .u8 s.self, .slice A1 s.table.length c1, .slice A2 s.pairs.length c2, .slice A3 s.ses.length c3, .int .i64 s.free, .int .i64 s.spare, .slice A6 s.peers.length c6]
structure pL (W:World) (s:Hs) (A1 A2 A3 A6:Option Addr) (c1 c2 c3 c6:Nat):Prop where
 r1:Kd.C jo W A1 s.table.length s.table
 l1:s.table.length≤c1
 r2:Kd.C kn W A2 s.pairs.length s.pairs
 l2:s.pairs.length≤c2
 r3:Kd.C mg W A3 s.ses.length s.ses
 l3:s.ses.length≤c3
 r6:Kd.C ld W A6 s.peers.length s.peers
 l6:s.peers.length≤c6
theorem pL.below {W W':World} {s:Hs} {A1 A2 A3 A6:Option Addr} {c1 c2 c3 c6:Nat} (h:pL W s A1 A2 A3 A6 c1 c2 c3 c6) (hb:Below W.heap.size W W'):pL W' s A1 A2 A3 A6 c1 c2 c3 c6:=
 ⟨Kd.aN h.r1 hb,h.l1,Kd.aN h.r2 hb,h.l2,Kd.aN h.r3 hb,h.l3,Kd.aN h.r6 hb,h.l6⟩
structure qQ (x:gX):Prop extends xA x where
 m0':0≤x.f0∧x.f0≤18446744073709551615
 m1':0≤x.f1∧x.f1≤18446744073709551615
 m4':0≤x.f4∧x.f4≤18446744073709551615
 y2:∀b∈x.f2,aq b
 y5:∀f∈x.f5,(0≤f.f0∧f.f0≤18446744073709551615)∧aq f.f1
structure oO (s:Hs):Prop where
 b0:0≤s.self∧s.self≤255
 b1:s.table.length≤10000000∧∀x∈s.table,(0≤x.f0∧x.f0≤18446744073709551615)∧(0≤x.f1∧x.f1≤18446744073709551615)∧0≤x.f2∧x.f2≤255
 b2:s.pairs.length≤10000000∧∀x∈s.pairs,(0≤x.f0∧x.f0≤18446744073709551615)∧x.f1.length≤100000000∧aq x.f1
 b3:s.ses.length≤10000000∧∀x∈s.ses,(0≤x.f0∧x.f0≤255)∧(0≤x.f1∧x.f1≤18446744073709551615)∧0≤x.f2∧x.f2≤255
 b4 : -9223372036854775808≤s.free∧s.free≤9223372036854775807
 b5 : -9223372036854775808≤s.spare∧s.spare≤9223372036854775807
 b6:s.peers.length≤10000000∧∀x∈s.peers,qQ x
def dq (l:List (List Int)):Bool:=l.all hU
def de (l:List jE):Bool:=l.all fun f=>hU f.f1
def dp (l:List gX):Bool:=l.all fun x=>dq x.f2&&de x.f5
def cJ (s:Hs):Bool:=(nZ s.self s.peers.length 16 16&&oQ s.self 16 16 0 s.peers)&&dp s.peers
def rV (W:World) (o:Bool) (e:Ending) (w':World):Prop:=e = .returned (.bool o)∧Below W.heap.size W w'
theorem rK (s:Hs) (A1 A2 A3 A6:Option Addr) (c1 c2 c3 c6:Nat) (W:World) (hr:pL W s A1 A2 A3 A6 c1 c2 c3 c6) (hb:oO s) :
 Calls Tryz.prog 69 #[.agg (jw s A1 A2 A3 A6 c1 c2 c3 c6)] W (rV W (cJ s)):=by
 have hu68:=Tryz.underlying68;have hu99:=Tryz.underlying99;have hu30:=Tryz.underlying30;have hu28:=Tryz.underlying28;have HR:=aa hr;have HB:=aa hb;have hLp:=hb.b6.1;have DL:=aa qJ;generalize hO:cJ s=o;have HO:=aa hO;clear hr hb hO;unfold jw;go_in;go_wp2_with fail;have B1:=aa (ah (Below.refl _ W) (.cells #[.int .u8 s.self, .slice A1 s.table.length c1, .slice A2 s.pairs.length c2, .slice A3 s.ses.length c3, .int .i64 s.free, .int .i64 s.spare, .slice A6 s.peers.length c6] 30));have BX:=aa (aJ W (.cells #[.int .u8 s.self, .slice A1 s.table.length c1, .slice A2 s.pairs.length c2, .slice A3 s.ses.length c3, .int .i64 s.free, .int .i64 s.spare, .slice A6 s.peers.length c6] 30));have XL:=aa (tK s.self s.peers.length 16 16 A6 c6 s.peers (W.alloc (.cells #[.int .u8 s.self, .slice A1 s.table.length c1, .slice A2 s.pairs.length c2, .slice A3 s.ses.length c3, .int .i64 s.free, .int .i64 s.spare, .slice A6 s.peers.length c6] 30)) HB.1.b0.1 HB.1.b0.2 (Kd.eU HR.1.r6 _) HR.1.l6 (by omega) (fun x hx=>(HB.1.b6.2 x hx).toxA));generalize World.alloc W _=W1 at B1 BX XL ⊢;generalize W.heap.size=b1 at BX ⊢;refine XL.1.mono ?_;rintro e w2 ⟨hB,v,er,rfl,her⟩;have B2:=aa (B1.1.trans (hB.mono B1.1.size));have BX2:=aa ((hB.block b1 (ak BX.1)).trans BX.1);have E2:=aa her;clear hB her XL;have x6:w2.cell? ⟨b1,6,none⟩=some (.slice A6 s.peers.length c6):=cell_of BX2.1 6;cases hx:(nZ s.self s.peers.length 16 16&&(decide (s.peers.length=s.peers.length)&&oQ s.self 16 16 0 s.peers)) with
 | false=>
  have hne:(er != 0)=true:=by have h:=E2.1;rw [hx] at h;simpa using h
  have HO2:=aa (show false=o by
   rw [←HO.1,cJ];rw [decide_eq_true rfl,iJ] at hx;rw [hx];rfl)
  clear HO hx E2;go_wp2_with fail;go_ret;exact ⟨by rw [←HO2.1];rfl,B2.1⟩
 | true=>
 have hne:er=0:=by have h:=E2.1;rw [hx] at h;simpa using h
 subst hne;have HO2:=aa (show dp s.peers=o by
  rw [←HO.1,cJ];rw [decide_eq_true rfl,iJ] at hx;rw [hx];rfl)
 clear HO hx E2 BX B1;go_wp2_with fail;go_loopw [29] (fun v29 wr=>∃i:Nat,i≤s.peers.length∧v29 = .int .i64 i∧af (dp (s.peers.drop i)=o)∧af (Below W.heap.size W wr)) (fun v _=>s.peers.length - (intOf v).toNat)
 case atStart=>exact ⟨0,aI _,rfl,HO2,B2⟩
 case round=>
  obtain ⟨i,hi,rfl,J0,HW⟩:=hrel;clear HO2 B2;by_cases hlt:i<s.peers.length
  case neg=>
   have HO4:=aa (show true=o by have J:=J0.1;rw [List.drop_eq_nil_of_le (by omega)] at J;exact J);go_wp2_with fail;go_ret;exact ⟨by rw [←HO4.1];rfl,HW.1⟩
  obtain ⟨ad,X2,d2,X5,d5,e1,m0,m1,m2,m3,m4,m5,l2,C2,l5,C5⟩:=jY (Kd.aN HR.1.r6 HW.1) (i:Int) (by omega) (by omega);subst e1;simp only [Int.toNat_natCast] at m0 m1 m2 m3 m4 m5 C2 C5;have hrd:cN s.peers (i:Int)=s.peers[i]:=by simp [cN,List.getD_eq_getElem?_getD,hlt]
  have PO:=aa (HB.1.b6.2 _ (hrd▸List.getElem_mem hlt:cN s.peers (i:Int)∈s.peers));have J:=J0.1;rw [ap hlt,dp,jO,←hrd] at J;generalize cN s.peers (i:Int)=x at m0 m1 m2 m3 m4 m5 l2 C2 l5 C5 PO J;have J1:=aa (show ((dq x.f2&&de x.f5)&&dp (s.peers.drop (i+1)))=o from J);have D2:=aa C2;have D5:=aa C5;have hx2:=PO.1.l2;have hx5:=PO.1.l5;clear J J0 hrd C2 C5;go_wp2_with fail;have PN:=aa (aJ wr (.cells #[.int .u64 x.f0, .int .u64 x.f1, .slice X2 x.f2.length d2, .int .u64 x.f3, .int .u64 x.f4, .slice X5 x.f5.length d5] 68));have WP:=aa (ah (Below.refl _ wr) (.cells #[.int .u64 x.f0, .int .u64 x.f1, .slice X2 x.f2.length d2, .int .u64 x.f3, .int .u64 x.f4, .slice X5 x.f5.length d5] 68));generalize World.alloc wr _=w3 at PN WP ⊢;generalize wr.heap.size=pb at PN ⊢;have z2:w3.cell? ⟨pb,2,none⟩=some (.slice X2 x.f2.length d2):=cell_of PN.1 2;have z5:w3.cell? ⟨pb,5,none⟩=some (.slice X5 x.f5.length d5):=cell_of PN.1 5;clear m0 m1 m2 m3 m4 m5;go_wp2_with fail;go_loopw [36] (fun v36 wq=>∃j:Nat,j≤x.f2.length∧v36 = .int .i64 j∧af (((dq (x.f2.drop j)&&de x.f5)&&dp (s.peers.drop (i+1)))=o)∧af (Below w3.heap.size w3 wq)) (fun v _=>x.f2.length - (intOf v).toNat)
  case atStart=>exact ⟨0,aI _,rfl,J1,⟨Below.refl _ _⟩⟩
  case round=>
   obtain ⟨j,hj,rfl,K0,HQ⟩:=hrel;generalize wr=wq at HQ ⊢;clear J1;by_cases hjt:j<x.f2.length
   ·have D2q:=Kd.aN D2.1 (WP.1.trans (HQ.1.mono WP.1.size));obtain ⟨ad2,c9,e1,_,hK,hc0⟩:=Kd.fw D2q [] (j:Int) (by omega) (by omega);obtain ⟨Y1,q1,rfl,hq1,hC1⟩:=hK;have hy0:=hc0 0 _ rfl;subst e1;simp only [Int.toNat_natCast,show (Kd.slice 5 (Kd.int .u8)).sz=1 from rfl,Nat.mul_one,Nat.add_zero,List.getD_eq_getElem?_getD,List.getElem?_eq_getElem hjt,Option.getD_some] at hy0 hq1 hC1;have hm:=List.getElem_mem hjt;have K:=K0.1;rw [ap hjt,dq,jO] at K;have hlen:=PO.1.b2 _ hm;have hbyt:=PO.1.y2 _ hm;generalize x.f2[j]=y at hy0 hq1 hC1 K hlen hbyt;have K1:=aa (show (((hU y&&dq (x.f2.drop (j+1)))&&de x.f5)&&dp (s.peers.drop (i+1)))=o from K);have DY:=aa (DL.1 Y1 q1 y wq hC1 hq1 hlen hbyt);clear K K0 hC1 hc0 hlen hbyt hm D2q hq1;go_wp2_with fail;refine DY.1.mono ?_;rintro e w4 ⟨rfl,hB4⟩;have H4:=aa (HQ.1.trans (hB4.mono HQ.1.size));clear hB4 DY HQ;cases hd:hU y with
    | false=>
     have HO4:=aa (show false=o by have K:=K1.1;rw [hd] at K;exact K);clear K1 hd;go_wp2_with fail;go_ret;exact ⟨by rw [←HO4.1];rfl,HW.1.trans ((WP.1.trans (H4.1.mono WP.1.size)).mono HW.1.size)⟩
    | true=>
     have HO4:=aa (show ((dq (x.f2.drop (j+1))&&de x.f5)&&dp (s.peers.drop (i+1)))=o by have K:=K1.1;rw [hd] at K;exact K);clear K1 hd;go_wp2_with fail;go_roundw
     case rel=>exact ⟨j+1,by omega,by go_num,HO4,H4⟩
     case measure=>
      show x.f2.length - ((j:Int)+1).toNat<x.f2.length - (j:Int).toNat;omega
   have J2:=aa (show (de x.f5&&dp (s.peers.drop (i+1)))=o by have K:=K0.1;rw [List.drop_eq_nil_of_le (by omega)] at K;exact K);have z6:wq.cell? ⟨pb,5,none⟩=some (.slice X5 x.f5.length d5):=an HQ.1 z5;clear K0;go_wp2_with fail;go_loopw [47] (fun v47 wp=>∃k:Nat,k≤x.f5.length∧v47 = .int .i64 k∧af ((de (x.f5.drop k)&&dp (s.peers.drop (i+1)))=o)∧af (Below w3.heap.size w3 wp)) (fun v _=>x.f5.length - (intOf v).toNat)
   case atStart=>exact ⟨0,aI _,rfl,J2,HQ⟩
   case round=>
    obtain ⟨k,hk,rfl,K0,HP⟩:=hrel;generalize wr=wp at HP ⊢;clear J2 HQ;by_cases hkt:k<x.f5.length
    ·have D5q:=Kd.aN D5.1 (WP.1.trans (HP.1.mono WP.1.size));obtain ⟨ad2,c9,e1,_,hK,hc0⟩:=Kd.fw D5q sI (k:Int) (by omega) (by omega);obtain ⟨Y1,q1,rfl,hq1,hC1⟩:=gn hK;have hy0:=hc0 0 _ rfl;have hy1:=hc0 1 _ rfl;subst e1;simp only [Int.toNat_natCast,show jC.sz=2 from rfl,Nat.add_zero,List.getD_eq_getElem?_getD,List.getElem?_eq_getElem hkt,Option.getD_some] at hy0 hy1 hq1 hC1;rw [dw _ _ 1 (by omega)] at hy1;have hm:=List.getElem_mem hkt;have K:=K0.1;rw [ap hkt,de,jO] at K;have hlen:=PO.1.b5 _ hm;have hbyt:=(PO.1.y5 _ hm).2;generalize x.f5[k]=f at hy0 hy1 hq1 hC1 K hlen hbyt;have K1:=aa (show ((hU f.f1&&de (x.f5.drop (k+1)))&&dp (s.peers.drop (i+1)))=o from K);clear K K0 hc0 hm D5q hK;have HC1:=aa hC1;clear hC1;go_wp2_with fail;have FN:=aa (aJ wp (.cells #[.int .u64 f.f0, .slice Y1 f.f1.length q1] 99));have WF:=aa (ah (Below.refl _ wp) (.cells #[.int .u64 f.f0, .slice Y1 f.f1.length q1] 99));have HP1:=aa (HP.1.trans (WF.1.mono HP.1.size));have DY:=aa (DL.1 Y1 q1 f.f1 (wp.alloc (.cells #[.int .u64 f.f0, .slice Y1 f.f1.length q1] 99)) (Kd.eU HC1.1 _) hq1 hlen hbyt);clear FN WF HC1 hy0 hy1 HP;refine DY.1.mono ?_;rintro e w4 ⟨rfl,hB4⟩;have H4:=aa (HP1.1.trans (hB4.mono HP1.1.size));clear hB4 DY HP1;cases hd:hU f.f1 with
     | false=>
      have HO4:=aa (show false=o by have K:=K1.1;rw [hd] at K;exact K);clear K1 hd;go_wp2_with fail;go_ret;exact ⟨by rw [←HO4.1];rfl,HW.1.trans ((WP.1.trans (H4.1.mono WP.1.size)).mono HW.1.size)⟩
     | true=>
      have HO4:=aa (show (de (x.f5.drop (k+1))&&dp (s.peers.drop (i+1)))=o by have K:=K1.1;rw [hd] at K;exact K);clear K1 hd;go_wp2_with fail;go_roundw
      case rel=>exact ⟨k+1,by omega,by go_num,HO4,H4⟩
      case measure=>
       show x.f5.length - ((k:Int)+1).toNat<x.f5.length - (k:Int).toNat;omega
    have J3:=aa (show dp (s.peers.drop (i+1))=o by have K:=K0.1;rw [List.drop_eq_nil_of_le (by omega)] at K;exact K);clear K0;go_wp2_with fail;go_roundw
    case rel=>exact ⟨i+1,by omega,by go_num,J3,⟨HW.1.trans ((WP.1.trans (HP.1.mono WP.1.size)).mono HW.1.size)⟩⟩
    case measure=>
     show s.peers.length - ((i:Int)+1).toNat<s.peers.length - (i:Int).toNat;omega
end Go.Proofs.YtpekmdpbfjdjkaaGreat.dO