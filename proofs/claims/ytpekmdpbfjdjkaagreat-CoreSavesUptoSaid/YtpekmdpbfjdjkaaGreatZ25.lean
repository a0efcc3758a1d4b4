/- Part 25 of the proof that a state's bytes are the document's. No condition. -/
import Derived.Test.YtpekmdpbfjdjkaaGreatZ24
set_option maxHeartbeats 16000000
set_option maxRecDepth 100000
set_option linter.all false
namespace Go.Proofs.YtpekmdpbfjdjkaaGreat.ref
open Go Go.RowKit ag.ax ag.aV ag.aU aD fr iK cL plain fE dO
theorem oB (n:Nat) (k:Int):∀i q,[Value.int .u64 k,Value.slice none 0 0][i]? = some q→gP 59 (n*2+i)=true→q = .slice none 0 0:=by
 intro i q hq hs;match i,hq with
 | 0,hq=>exact absurd hs (by simp [gP])
 | 1,hq=>simpa using hq.symm
theorem uD (e j:Nat):∀i q,[Value.slice none 0 0][i]? = some q→gP e (j+i)=true→q = .slice none 0 0:=by
 intro i q hq _;match i,hq with
 | 0,hq=>simpa using hq.symm
theorem q9 (n:Nat) (k:Int):∀i q,[Value.int .u64 k,Value.slice none 0 0][i]? = some q→gP 99 (n*2+i)=true→q = .slice none 0 0:=by
 intro i q hq hs;match i,hq with
 | 0,hq=>exact absurd hs (by simp [gP])
 | 1,hq=>simpa using hq.symm
theorem tc (n:Nat) (a b c d:Int):∀i q,[Value.int .u64 a,Value.int .u64 b,Value.slice none 0 0,Value.int .u64 c,Value.int .u64 d,Value.slice none 0 0][i]? = some q→gP 68 (n*6+i)=true→q = .slice none 0 0:=by
 intro i q hq hs;match i,hq with
 | 0,hq=>exact absurd hs (by simp [gP])
 | 1,hq=>exact absurd hs (by simp [gP])
 | 2,hq=>simpa using hq.symm
 | 3,hq=>exact absurd hs (by simp [gP])
 | 4,hq=>exact absurd hs (by simp [gP])
 | 5,hq=>simpa using hq.symm
theorem qp (self free spare:Int) (v1 v2 v3 v6:Value) (n1 n2 n3 n6:Nat) (N:Nat) (M:Nat→Prop) (W:World) (h:wW N M W v1 v2 v3 v6 n1 n2 n3 n6) (hN:N≤W.heap.size) (hM:∀k,M k→k<N) :
 Calls Tryz.prog 13 #[.agg (hC self v1 v2 v3 free spare v6)] W fun e w'=>e = .returned (.tuple #[])∧Sp N M W w':=by
 have hu30:=Tryz.underlying30;have hu28:=Tryz.underlying28;have hu68:=Tryz.underlying68;have hu76:=Tryz.underlying76;have hu59:=Tryz.underlying59;have hu62:=Tryz.underlying62;have hu99:=Tryz.underlying99;obtain ⟨A1,c1,rfl⟩:=h.r1.shape;obtain ⟨A2,c2,rfl⟩:=h.r2.1.shape;obtain ⟨A3,c3,rfl⟩:=h.r3.shape;obtain ⟨A6,c6,rfl⟩:=h.q6.1.shape;have hl1:=h.l1;have hl2:=h.r2.2.2.1;have hl3:=h.l3;have hl6:=h.q6.2.2.1;have S00:=(Sp.refl N M W).below (ah (Below.refl _ W) (.cells (hC self (.slice A1 n1 c1) (.slice A2 n2 c2) (.slice A3 n3 c3) free spare (.slice A6 n6 c6)) 30)) hN;have SZ1:=ah (Below.refl W.heap.size W) (.cells (hC self (.slice A1 n1 c1) (.slice A2 n2 c2) (.slice A3 n3 c3) free spare (.slice A6 n6 c6)) 30) |>.size;have FIN:=aa (fun (w':World) (hs:Sp (W.alloc (.cells (hC self (.slice A1 n1 c1) (.slice A2 n2 c2) (.slice A3 n3 c3) free spare (.slice A6 n6 c6)) 30)).heap.size M (W.alloc (.cells (hC self (.slice A1 n1 c1) (.slice A2 n2 c2) (.slice A3 n3 c3) free spare (.slice A6 n6 c6)) 30)) w')=>S00.trans (hs.weaken (Nat.le_trans hN SZ1) (fun _ _=>Iff.rfl)));have H1:=aa ((h.sp S00).mono (Nat.le_trans hN SZ1));have BX1:=aa (aJ W (.cells (hC self (.slice A1 n1 c1) (.slice A2 n2 c2) (.slice A3 n3 c3) free spare (.slice A6 n6 c6)) 30));have NM:=aa (show ¬M W.heap.size from fun q=>by have:=hM _ q;omega);have LB:=aa (ak BX1.1);have HM:=aa (fun (k:Nat) (hk:M k)=>bf (hM k hk) (Nat.le_trans hN SZ1));clear h hN hM S00 SZ1;unfold hC at FIN H1 BX1 LB HM ⊢;go_in;go_wp2_with fail;generalize World.alloc W _=W1 at FIN H1 BX1 LB HM ⊢;generalize W.heap.size=b1 at BX1 NM LB ⊢;have Z0:=aa (Sp.refl W1.heap.size M W1);go_loopw [2] (fun v2 wr=>∃i:Nat,i≤n1∧v2 = .int .i64 i∧af (Sp W1.heap.size M W1 wr)) (fun v _=>n1 - (intOf v).toNat)
 case atStart=>exact ⟨0,aI _,rfl,Z0⟩
 case round=>
  obtain ⟨i,hi,rfl,Z1⟩:=hrel;clear Z0;have BX:=aa ((Z1.1.nh b1 LB.1 NM.1).trans BX1.1);have NW:=aa (show W1.heap.size≤wr.heap.size from Z1.1.size);have x:wr.cell? ⟨b1,1,none⟩=some (.slice A1 n1 c1):=cell_of BX.1 1;by_cases hlt:i<n1
  ·have HH:=aa (H1.1.sp Z1.1);obtain ⟨_,h0⟩|⟨g,cap,cur,he,hh,hnc,_,hcs⟩:=HH.1.r1
   ·omega
   injection he with he _ hcap;subst he;subst hcap;have HB:=aa hh;have FIT:=aa (show i*3+3≤cur.size by omega);have MG:=aa (show M g from (HH.1.i1 g rfl).2);clear hh hnc hcs HH;go_wp2_with ((with_reducible refine gS 24 23 rfl ?_);refine jd (t:=76) (p:= .tmp 24) (x:= .tmp 23) (u:= .agg #[.int .u64 9, .int .u64 8, .int .u8 99]) rfl rfl rfl [.int .u64 9, .int .u64 8, .int .u8 99] rfl rfl HB.1 rfl (by kernel_rfl) (by have:=FIT.1;simp only [List.length_cons,List.length_nil,Int.toNat_natCast];omega) (by intro q hq;simp only [List.mem_cons,List.not_mem_nil,or_false] at hq;rcases hq with rfl|rfl|rfl<;>rfl) (fun i q _ hs=>absurd hs (by simp [gP])) ?_;intro wz hG hS;have Z2:=aa (hS W1.heap.size M W1 Z1.1 NW.1 (fun _=>MG.1));clear hG hS;generalize wz=w2 at Z2 ⊢);go_roundw
   case rel=>exact ⟨i+1,by omega,by go_num,Z2⟩
   case measure=>
    show n1 - ((i:Int)+1).toNat<n1 - (i:Int).toNat;omega
  have x3:wr.cell? ⟨b1,3,none⟩=some (.slice A3 n3 c3):=cell_of BX.1 3;have x2:wr.cell? ⟨b1,2,none⟩=some (.slice A2 n2 c2):=cell_of BX.1 2;go_wp2_with fail;have HH:=aa (H1.1.sp Z1.1);have RT:=aa HH.1.r1;have RS:=aa HH.1.r3;have RP:=aa HH.1.r2.1;have KT:=aa (show ∀g,(Value.slice A1 n1 c1).ownBlock=some g→g<W1.heap.size→M g from fun g hg _=>(HH.1.i1 g hg).2);have KS:=aa (show ∀g,(Value.slice A3 n3 c3).ownBlock=some g→g<W1.heap.size→M g from fun g hg _=>(HH.1.i3 g hg).2);have KP:=aa (show ∀g,(Value.slice A2 n2 c2).ownBlock=some g→g<W1.heap.size→M g from fun g hg _=>(HH.1.r2.2.1 g hg).2);clear hlt hi x x2 x3 HH NW BX;go_loopw [3,4,5,6] (fun w3 w4 w5 w6 wr=>∃k m3 m4 m5:Nat,k≤40∧m3≤n1+k∧m4≤n3+k∧m5≤n2+k∧w6 = .int .i64 k∧af (Row 76 3 wr w3 m3)∧af (Row 62 3 wr w4 m4)∧af (Row 59 2 wr w5 m5)∧af (∀g,w3.ownBlock=some g→g<W1.heap.size→M g)∧af (∀g,w4.ownBlock=some g→g<W1.heap.size→M g)∧af (∀g,w5.ownBlock=some g→g<W1.heap.size→M g)∧af (Sp W1.heap.size M W1 wr)) (fun _ _ _ v _=>40 - (intOf v).toNat)
  case atStart=>exact ⟨0,n1,n3,n2,by omega,by omega,by omega,by omega,rfl,RT,RS,RP,KT,KS,KP,Z1⟩
  case round=>
   obtain ⟨k,m3,m4,m5,hk,h3,h4,h5,rfl,RT1,RS1,RP1,KT1,KS1,KP1,Z1⟩:=hrel;clear RT RS RP KT KS KP;have NW:=aa (show W1.heap.size≤wr.heap.size from Z1.1.size);by_cases hlt:k<40
   ·have hkb:decide ((k:Int)<40)=true:=decide_eq_true (by omega);go_wp2_with (first|((with_reducible refine aM (b:= .append) (xs:=#[.tmp 35, .tmp 37]) rfl ?_);at_builtin;refine oX rfl (.tmp 35) (.tmp 37) 23 76 (.agg #[.int .u64 0, .int .u64 0, .int .u8 0]) 3 24 rfl Tryz.underlying23 nF rfl (by decide) (by omega) u3 m3 [.int .u64 7, .int .u64 6, .int .u8 98] rfl rfl rfl (by intro q hq;simp only [List.mem_cons,List.not_mem_nil,or_false] at hq;rcases hq with rfl|rfl|rfl<;>rfl) RT1.1 (by omega) (fun i q _ hs=>absurd hs (by simp [gP])) ?_;intro vz wz hR hG hat hS;have Z2:=aa (hS W1.heap.size M W1 Z1.1 NW.1 KT1.1);have RT2:=aa hR;have KT2:=aa (pn KT1.1 NW.1 hat);have RS2:=aa (RS1.1.other hG (RS1.1.ne RT1.1 (by decide)));have RP2:=aa (RP1.1.other hG (RP1.1.ne RT1.1 (by decide)));have NW2:=aa (Nat.le_trans NW.1 hG.size);clear hG hS hR hat;generalize wz=w2 at Z2 RT2 RS2 RP2 NW2 ⊢)|((with_reducible refine aM (b:= .append) (xs:=#[.tmp 39, .tmp 41]) rfl ?_);at_builtin;refine oX rfl (.tmp 39) (.tmp 41) 25 62 (.agg #[.int .u8 0, .int .u64 0, .int .u8 0]) 3 24 rfl Tryz.underlying25 mr rfl (by decide) (by omega) u4 m4 [.int .u8 98, .int .u64 0, .int .u8 0] rfl rfl rfl (by intro q hq;simp only [List.mem_cons,List.not_mem_nil,or_false] at hq;rcases hq with rfl|rfl|rfl<;>rfl) RS2.1 (by omega) (fun i q _ hs=>absurd hs (by simp [gP])) ?_;intro vz wz hR hG hat hS;have Z3:=aa (hS W1.heap.size M W1 Z2.1 NW2.1 KS1.1);have RS3:=aa hR;have KS3:=aa (pn KS1.1 NW2.1 hat);have RT3:=aa (RT2.1.other hG (RT2.1.ne RS2.1 (by decide)));have RP3:=aa (RP2.1.other hG (RP2.1.ne RS2.1 (by decide)));have NW3:=aa (Nat.le_trans NW2.1 hG.size);clear hG hS hR hat;generalize wz=w3 at Z3 RT3 RS3 RP3 NW3 ⊢)|((with_reducible refine aM (b:= .append) (xs:=#[.tmp 43, .tmp 45]) rfl ?_);at_builtin;refine oX rfl (.tmp 43) (.tmp 45) 24 59 (.agg #[.int .u64 0, .slice none 0 0]) 2 32 rfl Tryz.underlying24 lE rfl (by decide) (by omega) u5 m5 [.int .u64 4712, .slice none 0 0] rfl rfl rfl (by intro q hq;simp only [List.mem_cons,List.not_mem_nil,or_false] at hq;rcases hq with rfl|rfl<;>rfl) RP3.1 (by omega) (oB _ _) ?_;intro vz wz hR hG hat hS;have Z4:=aa (hS W1.heap.size M W1 Z3.1 NW3.1 KP1.1);have RP4:=aa hR;have KP4:=aa (pn KP1.1 NW3.1 hat);have KT4:=KT2;have KS4:=KS3;have RT4:=aa (RT3.1.other hG (RT3.1.ne RP3.1 (by decide)));have RS4:=aa (RS3.1.other hG (RS3.1.ne RP3.1 (by decide)));clear hG hS hR hat;generalize wz=w4 at Z4 RT4 RS4 RP4 ⊢));go_roundw
    case rel=>exact ⟨k+1,m3+1,m4+1,m5+1,by omega,by omega,by omega,by omega,by go_num,RT4,RS4,RP4,KT4,KS4,KP4,Z4⟩
    case measure=>
     show 40 - ((k:Int)+1).toNat<40 - (k:Int).toNat;omega
   have hkb:decide ((k:Int)<40)=false:=decide_eq_false (by omega);go_wp2_with fail;clear hkb hlt NW RT1 RS1 RP1 KT1 KS1 KP1;have Z0:=Z1;clear Z1;go_loopw [7] (fun w7 wr=>∃i:Nat,i≤n2∧w7 = .int .i64 i∧af (Sp W1.heap.size M W1 wr)) (fun v _=>n2 - (intOf v).toNat)
   case atStart=>exact ⟨0,aI _,rfl,Z0⟩
   case round=>
    obtain ⟨i,hi,rfl,Z1⟩:=hrel;clear Z0;have BX:=aa ((Z1.1.nh b1 LB.1 NM.1).trans BX1.1);have NW:=aa (show W1.heap.size≤wr.heap.size from Z1.1.size);have x:wr.cell? ⟨b1,2,none⟩=some (.slice A2 n2 c2):=cell_of BX.1 2;by_cases hlt:i<n2
    ·have HH:=aa (H1.1.sp Z1.1);obtain ⟨_,h0⟩|⟨g,cap,cur,he,_,_,_,_⟩:=HH.1.r2.1
     ·omega
     injection he with he _ hcap;subst he;subst hcap;obtain ⟨u,hu,mu,hru,hiu,hlu⟩:=HH.1.r2.2.2.2 g _ rfl i hlt;obtain ⟨Au,cu,rfl⟩:=hru.shape;have RU:=aa hru;have IU:=aa hiu;have LU:=aa hlu;have MG:=aa (show M g from (HH.1.r2.2.1 g rfl).2);clear hru hiu hlu HH;go_wp2_with fail;(with_reducible refine (iy W1.heap.size M (.slice Au mu cu) mu wr RU.1 IU.1 NW.1 (by have:=LU.1;omega)).mono ?_);rintro e w2 ⟨rfl,hS⟩;have Z2:=aa (Z1.1.trans hS);have BX2:=aa ((Z2.1.nh b1 LB.1 NM.1).trans BX1.1);have NW2:=aa (show W1.heap.size≤w2.heap.size from Z2.1.size);clear hS hu x Z1 BX NW RU IU LU;have x:w2.cell? ⟨b1,2,none⟩=some (.slice (some ⟨g,0,none⟩) n2 c2):=cell_of BX2.1 2;obtain ⟨_,h0⟩|⟨g',cap',cur',he,hh,hnc,_,hcs⟩:=(H1.1.sp Z2.1).r2.1
     ·omega
     injection he with he _ hcap;injection he with he;injection he with he;subst he;subst hcap;have HB:=aa hh;have FIT:=aa (show i*2+2≤cur'.size by omega);clear hh hnc hcs;go_wp2_with ((with_reducible refine gS 65 64 rfl ?_);refine jd (t:=59) (p:= .tmp 65) (x:= .tmp 64) (u:= .agg #[.int .u64 4711, .slice none 0 0]) rfl rfl rfl [.int .u64 4711, .slice none 0 0] rfl rfl HB.1 rfl (by kernel_rfl) (by have:=FIT.1;simp only [List.length_cons,List.length_nil,Int.toNat_natCast];omega) (by intro q hq;simp only [List.mem_cons,List.not_mem_nil,or_false] at hq;rcases hq with rfl|rfl<;>rfl) (oB _ _) ?_;intro wz hG hS;have Z3:=aa (hS W1.heap.size M W1 Z2.1 NW2.1 (fun _=>MG.1));clear hG hS;generalize wz=w3 at Z3 ⊢);go_roundw
     case rel=>exact ⟨i+1,by omega,by go_num,Z3⟩
     case measure=>
      show n2 - ((i:Int)+1).toNat<n2 - (i:Int).toNat;omega
    go_wp2_with fail;clear hlt hi x NW BX;have Z0:=Z1;clear Z1;go_loopw [8] (fun v8 wr=>∃i:Nat,i≤n3∧v8 = .int .i64 i∧af (Sp W1.heap.size M W1 wr)) (fun v _=>n3 - (intOf v).toNat)
    case atStart=>exact ⟨0,aI _,rfl,Z0⟩
    case round=>
     obtain ⟨i,hi,rfl,Z1⟩:=hrel;clear Z0;have BX:=aa ((Z1.1.nh b1 LB.1 NM.1).trans BX1.1);have NW:=aa (show W1.heap.size≤wr.heap.size from Z1.1.size);have x:wr.cell? ⟨b1,3,none⟩=some (.slice A3 n3 c3):=cell_of BX.1 3;by_cases hlt:i<n3
     ·have HH:=aa (H1.1.sp Z1.1);obtain ⟨_,h0⟩|⟨g,cap,cur,he,hh,hnc,_,hcs⟩:=HH.1.r3
      ·omega
      injection he with he _ hcap;subst he;subst hcap;have HB:=aa hh;have FIT:=aa (show i*3+3≤cur.size by omega);have MG:=aa (show M g from (HH.1.i3 g rfl).2);clear hh hnc hcs HH;go_wp2_with ((with_reducible refine gS 77 76 rfl ?_);refine jd (t:=62) (p:= .tmp 77) (x:= .tmp 76) (u:= .agg #[.int .u8 99, .int .u64 0, .int .u8 0]) rfl rfl rfl [.int .u8 99, .int .u64 0, .int .u8 0] rfl rfl HB.1 rfl (by kernel_rfl) (by have:=FIT.1;simp only [List.length_cons,List.length_nil,Int.toNat_natCast];omega) (by intro q hq;simp only [List.mem_cons,List.not_mem_nil,or_false] at hq;rcases hq with rfl|rfl|rfl<;>rfl) (fun i q _ hs=>absurd hs (by simp [gP])) ?_;intro wz hG hS;have Z2:=aa (hS W1.heap.size M W1 Z1.1 NW.1 (fun _=>MG.1));clear hG hS;generalize wz=w2 at Z2 ⊢);go_roundw
      case rel=>exact ⟨i+1,by omega,by go_num,Z2⟩
      case measure=>
       show n3 - ((i:Int)+1).toNat<n3 - (i:Int).toNat;omega
     go_wp2_with fail;clear hlt hi x NW BX;have Z0:=Z1;clear Z1;go_loopw [9] (fun w9 wr=>∃i:Nat,i≤n6∧w9 = .int .i64 i∧af (Sp W1.heap.size M W1 wr)) (fun v _=>n6 - (intOf v).toNat)
     case atStart=>exact ⟨0,aI _,rfl,Z0⟩
     case round=>
      obtain ⟨i,hi,rfl,Z1⟩:=hrel;clear Z0;have BX:=aa ((Z1.1.nh b1 LB.1 NM.1).trans BX1.1);have NW:=aa (show W1.heap.size≤wr.heap.size from Z1.1.size);have x:wr.cell? ⟨b1,6,none⟩=some (.slice A6 n6 c6):=cell_of BX.1 6;by_cases hlt:i<n6
      case neg=>
       go_wp2_with fail;first|go_end0|((try simp only [Exit.inBlock,Exit.then]);refine gO (results_none rfl _ _ _) rfl ?_)
       exact ⟨rfl,FIN.1 _ Z1.1⟩
      have HH:=aa (H1.1.sp Z1.1);obtain ⟨_,h0⟩|⟨g,cap,cur,he,_,_,_,_⟩:=HH.1.q6.1
      ·omega
      injection he with he _ hcap;subst he;subst hcap;obtain ⟨q,hq,mq,Hq⟩:=HH.1.q6.2.2.2 g _ rfl i hlt;obtain ⟨f,hf,mf,Hf⟩:=HH.1.f6.2.2.2 g _ rfl i hlt;obtain ⟨u0,k0,p0⟩:=HH.1.o6 g _ rfl (i*6) (by omega);obtain ⟨u1,k1,p1⟩:=HH.1.o6 g _ rfl (i*6+1) (by omega);obtain ⟨u3,k3,p3⟩:=HH.1.o6 g _ rfl (i*6+3) (by omega);obtain ⟨u4,k4,p4⟩:=HH.1.o6 g _ rfl (i*6+4) (by omega);obtain ⟨Aq,cq,rfl⟩:=Hq.1.shape;obtain ⟨Af,cf,rfl⟩:=Hf.1.shape;have MG:=aa (show M g from (HH.1.q6.2.1 g rfl).2);have HQ:=aa Hq;have HF:=aa Hf;have PP:=aa (And.intro p0 (And.intro p1 (And.intro p3 p4)));have hmq:=Hq.2.2.1;have hmf:=Hf.2.2.1;clear Hq Hf p0 p1 p3 p4 HH;go_wp2_with ((with_reducible refine gS 10 91 rfl ?_);refine dl (t:=68) (p:= .tmp 10) (x:= .tmp 91) (u:= .agg #[u0,u1, .slice Aq mq cq,u3,u4, .slice Af mf cf]) rfl rfl rfl [u0,u1, .slice Aq mq cq,u3,u4, .slice Af mf cf] rfl rfl (aJ wr _) rfl (by kernel_rfl) rfl (by intro q hq;simp only [List.mem_cons,List.not_mem_nil,or_false] at hq;rcases hq with rfl|rfl|rfl|rfl|rfl|rfl<;>first|exact PP.1.1|exact PP.1.2.1|exact PP.1.2.2.1|exact PP.1.2.2.2|rfl) ?_;intro wz hW hG;have PN:=aa hW;have WP:=aa (bt (ah (Below.refl _ wr) _) hG (Nat.le_refl _));clear hW hG;generalize wz=w3 at PN WP ⊢);clear hq hf k0 k1 k3 k4 x;have NM2:=aa (show ¬M wr.heap.size from fun q=>by have h1:=HM.1 _ q;have h2:=NW.1;omega);have LP:=aa (show wr.heap.size<w3.heap.size from ak PN.1);have N3:=aa (Nat.le_trans NW.1 WP.1.size);have S3:=aa ((Sp.refl W1.heap.size M wr).below WP.1 NW.1);have Z3:=aa (Z1.1.trans S3.1);have Q3:=aa ((HQ.1.sp S3.1 (B5.sp S3.1) (B5.nil _ _ _) (fun i=>by simp [gP]) (by omega)).mono (p':=B5 w3.heap.size M) N3.1 (fun u hu=>hu.mono N3.1));have F3:=aa ((HF.1.sp S3.1 (B5.sp S3.1) (B5.nil _ _ _) (fun i=>by simp [gP]) (by omega)).mono (p':=B5 w3.heap.size M) N3.1 (fun u hu=>hu.mono N3.1));have Y0:=aa (Sp.refl w3.heap.size M w3);clear HQ HF S3 PP Z1 BX WP;generalize wr.heap.size=pb at PN NM2 LP ⊢;go_wp2_with fail;go_loopw [11] (fun w11 wr=>∃k:Nat,k≤mq∧w11 = .int .i64 k∧af (Sp w3.heap.size M w3 wr)) (fun v _=>mq - (intOf v).toNat)
      case atStart=>exact ⟨0,aI _,rfl,Y0⟩
      case round=>
       obtain ⟨k,hk,rfl,Y1⟩:=hrel;clear Y0;have PX:=aa ((Y1.1.nh pb LP.1 NM2.1).trans PN.1);have z:wr.cell? ⟨pb,2,none⟩=some (.slice Aq mq cq):=cell_of PX.1 2;by_cases hkt:k<mq
       ·have QQ:=aa (Q3.1.sp Y1.1 (B5.sp Y1.1) (B5.nil _ _ _) (fun i=>by simp [gP]) (by omega));obtain ⟨_,h0⟩|⟨g2,cap2,cur2,he,_,_,_,_⟩:=QQ.1.1
        ·omega
        injection he with he _ hcap;subst he;subst hcap;obtain ⟨u,hu,mu,hru,hiu,hlu⟩:=QQ.1.2.2.2 g2 _ rfl k hkt;rw [Nat.mul_one,Nat.add_zero] at hu;obtain ⟨Au,cu,rfl⟩:=hru.shape;have RU:=aa hru;have IU:=aa hiu;have LU:=aa hlu;have MG2:=aa (show M g2 from (QQ.1.2.1 g2 rfl).2);have NY:=aa (show w3.heap.size≤wr.heap.size from Y1.1.size);clear hru hiu hlu QQ;go_wp2_with fail;(with_reducible refine (iy w3.heap.size M (.slice Au mu cu) mu wr RU.1 IU.1 NY.1 (by have:=LU.1;omega)).mono ?_);rintro e w2 ⟨rfl,hS⟩;have Y2:=aa (Y1.1.trans hS);have PX2:=aa ((Y2.1.nh pb LP.1 NM2.1).trans PN.1);have NY2:=aa (show w3.heap.size≤w2.heap.size from Y2.1.size);clear hS hu z Y1 PX NY RU IU LU;have z:w2.cell? ⟨pb,2,none⟩=some (.slice (some ⟨g2,0,none⟩) mq cq):=cell_of PX2.1 2;obtain ⟨_,h0⟩|⟨g',cap',cur',he,hh,hnc,_,hcs⟩:=Q3.1.1.sp Q3.1.2.1 Y2.1
        ·omega
        injection he with he _ hcap;injection he with he;injection he with he;subst he;subst hcap;have HB:=aa hh;have FIT:=aa (show k+1≤cur'.size by omega);clear hh hnc hcs;go_wp2_with ((with_reducible refine fq (t:=32) (p:=108) (v:= .const (.slice none 0 0)) rfl ?_);refine jd (t:=32) (p:= .tmp 108) (x:= .const (.slice none 0 0)) (u:= .slice none 0 0) rfl rfl rfl [.slice none 0 0] rfl rfl HB.1 rfl (by kernel_rfl) (by have:=FIT.1;simp only [List.length_cons,List.length_nil,Int.toNat_natCast];omega) (by intro q hq;simp only [List.mem_cons,List.not_mem_nil,or_false] at hq;rcases hq with rfl<;>rfl) (uD _ _) ?_;intro wz hG hS;have Y3:=aa (hS w3.heap.size M w3 Y2.1 NY2.1 (fun _=>MG2.1));clear hG hS;generalize wz=w4 at Y3 ⊢);go_roundw
        case rel=>exact ⟨k+1,by omega,by go_num,Y3⟩
        case measure=>
         show mq - ((k:Int)+1).toNat<mq - (k:Int).toNat;omega
       go_wp2_with fail;clear hkt hk z PX;go_loopw [12] (fun w12 wr=>∃k:Nat,k≤mf∧w12 = .int .i64 k∧af (Sp w3.heap.size M w3 wr)) (fun v _=>mf - (intOf v).toNat)
       case atStart=>exact ⟨0,aI _,rfl,Y1⟩
       case round=>
        obtain ⟨k,hk,rfl,Y2⟩:=hrel;clear Y1;have PX:=aa ((Y2.1.nh pb LP.1 NM2.1).trans PN.1);have z:wr.cell? ⟨pb,5,none⟩=some (.slice Af mf cf):=cell_of PX.1 5;by_cases hkt:k<mf
        ·have QQ:=aa (F3.1.sp Y2.1 (B5.sp Y2.1) (B5.nil _ _ _) (fun i=>by simp [gP]) (by omega));obtain ⟨_,h0⟩|⟨g2,cap2,cur2,he,_,_,_,_⟩:=QQ.1.1
         ·omega
         injection he with he _ hcap;subst he;subst hcap;obtain ⟨u,hu,mu,hru,hiu,hlu⟩:=QQ.1.2.2.2 g2 _ rfl k hkt;obtain ⟨Au,cu,rfl⟩:=hru.shape;have RU:=aa hru;have IU:=aa hiu;have LU:=aa hlu;have MG2:=aa (show M g2 from (QQ.1.2.1 g2 rfl).2);have NY:=aa (show w3.heap.size≤wr.heap.size from Y2.1.size);clear hru hiu hlu QQ;go_wp2_with fail;(with_reducible refine (iy w3.heap.size M (.slice Au mu cu) mu wr RU.1 IU.1 NY.1 (by have:=LU.1;omega)).mono ?_);rintro e w2 ⟨rfl,hS⟩;have Y3:=aa (Y2.1.trans hS);have PX2:=aa ((Y3.1.nh pb LP.1 NM2.1).trans PN.1);have NY2:=aa (show w3.heap.size≤w2.heap.size from Y3.1.size);clear hS hu z Y2 PX NY RU IU LU;have z:w2.cell? ⟨pb,5,none⟩=some (.slice (some ⟨g2,0,none⟩) mf cf):=cell_of PX2.1 5;obtain ⟨_,h0⟩|⟨g',cap',cur',he,hh,hnc,_,hcs⟩:=F3.1.1.sp F3.1.2.1 Y3.1
         ·omega
         injection he with he _ hcap;injection he with he;injection he with he;subst he;subst hcap;have HB:=aa hh;have FIT:=aa (show k*2+2≤cur'.size by omega);clear hh hnc hcs;go_wp2_with ((with_reducible refine gS 127 126 rfl ?_);refine jd (t:=99) (p:= .tmp 127) (x:= .tmp 126) (u:= .agg #[.int .u64 99, .slice none 0 0]) rfl rfl rfl [.int .u64 99, .slice none 0 0] rfl rfl HB.1 rfl (by kernel_rfl) (by have:=FIT.1;simp only [List.length_cons,List.length_nil,Int.toNat_natCast];omega) (by intro q hq;simp only [List.mem_cons,List.not_mem_nil,or_false] at hq;rcases hq with rfl|rfl<;>rfl) (q9 _ _) ?_;intro wz hG hS;have Y4:=aa (hS w3.heap.size M w3 Y3.1 NY2.1 (fun _=>MG2.1));clear hG hS;generalize wz=w4 at Y4 ⊢);go_roundw
         case rel=>exact ⟨k+1,by omega,by go_num,Y4⟩
         case measure=>
          show mf - ((k:Int)+1).toNat<mf - (k:Int).toNat;omega
        have Z4:=aa (Z3.1.trans (Y2.1.weaken N3.1 (fun _ _=>Iff.rfl)));have BX4:=aa ((Z4.1.nh b1 LB.1 NM.1).trans BX1.1);have NW4:=aa (show W1.heap.size≤wr.heap.size from Z4.1.size);have x:wr.cell? ⟨b1,6,none⟩=some (.slice (some ⟨g,0,none⟩) n6 c6):=cell_of BX4.1 6;obtain ⟨_,h0⟩|⟨g',cap',cur',he,hh,hnc,_,hcs⟩:=(H1.1.sp Z4.1).q6.1
        ·omega
        injection he with he _ hcap;injection he with he;injection he with he;subst he;subst hcap;have HB:=aa hh;have FIT:=aa (show i*6+6≤cur'.size by omega);clear hh hnc hcs Y2 PX;go_wp2_with ((with_reducible refine gS 133 132 rfl ?_);refine jd (t:=68) (p:= .tmp 133) (x:= .tmp 132) (u:= .agg #[.int .u64 99, .int .u64 0, .slice none 0 0, .int .u64 0, .int .u64 0, .slice none 0 0]) rfl rfl rfl [.int .u64 99, .int .u64 0, .slice none 0 0, .int .u64 0, .int .u64 0, .slice none 0 0] rfl rfl HB.1 rfl (by kernel_rfl) (by have:=FIT.1;simp only [List.length_cons,List.length_nil,Int.toNat_natCast];omega) (by intro q hq;simp only [List.mem_cons,List.not_mem_nil,or_false] at hq;rcases hq with rfl|rfl|rfl|rfl|rfl|rfl<;>rfl) (tc _ _ _ _ _) ?_;intro wz hG hS;have Z5:=aa (hS W1.heap.size M W1 Z4.1 NW4.1 (fun _=>MG.1));clear hG hS;generalize wz=w5 at Z5 ⊢);go_roundw
        case rel=>exact ⟨i+1,by omega,by go_num,Z5⟩
        case measure=>
         show n6 - ((i:Int)+1).toNat<n6 - (i:Int).toNat;omega
end Go.Proofs.YtpekmdpbfjdjkaaGreat.ref