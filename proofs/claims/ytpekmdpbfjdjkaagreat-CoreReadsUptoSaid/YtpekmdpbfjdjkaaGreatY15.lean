/- Part 15 of the proof that reading bytes answers as the document does. No condition. -/
import Derived.Test.YtpekmdpbfjdjkaaGreatY14
set_option maxHeartbeats 16000000
set_option maxRecDepth 100000
set_option linter.all false
namespace Go.Proofs.YtpekmdpbfjdjkaaGreat.dO
open Go Go.RowKit ag.ax aD cL plain
theorem jF {α:Type} (f:α→List Int) (M:Nat) (l:List α) (h:∀x∈l,(f x).length≤M):(l.flatMap f).length≤l.length*M:=by
 induction l with
 | nil=>simp
 | cons a r ih=>
  rw [bY,List.length_append,List.length_cons,dz];have:=h a List.mem_cons_self;have:=ih (fun x hx=>h x (List.mem_cons_of_mem _ hx));omega
theorem pG (l:List Int) (h:l.length<18446744073709551616):(dI l).length≤10+l.length:=by
 unfold dI;rw [List.length_append];have:=dR l.length h;omega
theorem yK (l:List jx):∀k:Int,iW (some k) l=true→(l.length:Int)≤max 0 (31 - k):=by
 induction l with
 | nil=>intro k _;simp;omega
 | cons x r ih=>
  intro k h;rw [iW] at h;split at h
  ·cases h
  ·rename_i h0;have h0':¬x.f0≤k:=fun hh=>h0 ⟨k,rfl,hh⟩;split at h
   ·cases h
   ·split at h
    ·cases h
    ·split at h
     ·cases h
     ·split at h
      ·cases h
      ·split at h
       ·cases h
       ·have:=ih _ h;rw [List.length_cons];omega
theorem uU (l:List jx) (h:iW none l=true):l.length≤16:=by
 cases l with
 | nil=>simp
 | cons x r=>
  rw [iW] at h;split at h
  ·cases h
  ·split at h
   ·cases h
   ·split at h
    ·cases h
    ·split at h
     ·cases h
     ·split at h
      ·cases h
      ·split at h
       ·cases h
       ·have:=yK r _ h;rw [List.length_cons];omega
theorem sR (tab:List eW) (self:Int) (l:List iA):∀prev,oC tab self prev l=true→∀p∈l,p.f1.length≤64:=by
 induction l with
 | nil=>intro prev _ p hp;cases hp
 | cons a r ih=>
  intro prev h p hp;rw [oC] at h;split at h
  ·cases h
  ·split at h
   ·cases h
   ·split at h
    ·rcases List.mem_cons.1 hp with rfl|hp
     ·omega
     ·exact ih _ h p hp
    ·cases h
theorem AP (del reach:Int) (l:List jE):∀last:Int,last≤reach→kp del reach l last=true→(l.length:Int)≤reach - last∧∀f∈l,1≤f.f1.length∧f.f1.length≤3072:=by
 induction l with
 | nil=>
  intro last hl _;exact ⟨by simp;omega,fun f hf=>by cases hf⟩
 | cons a r ih=>
  intro last hl h;rw [kp] at h;split at h
  ·cases h
  ·split at h
   ·cases h
   ·split at h
    ·cases h
    ·split at h
     ·rename_i h4;obtain ⟨i1,i2⟩:=ih _ (by omega) h;refine ⟨by rw [List.length_cons];omega,fun f hf=>?_⟩;rcases List.mem_cons.1 hf with rfl|hf
      ·unfold qO at h4;simp only [Bool.and_eq_true,decide_eq_true_eq] at h4;omega
      ·exact i2 f hf
     ·cases h
theorem vJ (l:List (List Int)) (h:kI l=false):∀x∈l,1≤x.length∧x.length≤3072:=by
 intro x hx;unfold kI at h;rw [List.any_eq_false] at h;have:=h x hx;unfold qO at this;simp only [Bool.not_eq_true',Bool.and_eq_false_iff,decide_eq_false_iff_not,not_or,Decidable.not_not] at this;omega
structure BH (x:gX):Prop where
 n2:x.f2.length≤16
 n5:x.f5.length≤16
 s2:∀b∈x.f2,b.length≤3072
 s5:∀f∈x.f5,f.f1.length≤3072
theorem yF (self:Int) (l:List gX):∀i,oQ self 16 16 i l=true→∀x∈l,BH x:=by
 induction l with
 | nil=>intro i _ x hx;cases hx
 | cons a r ih=>
  intro i h x hx;rw [oQ,Bool.and_eq_true] at h;rcases List.mem_cons.1 hx with rfl|hx
  ·have h1:=h.1;split at h1
   ·unfold zr at h1;split at h1
    ·split at h1
     ·rename_i h2;have h3:(x.f5.length:Int)=0:=by simpa using h1
      refine ⟨by omega,by omega,fun b hb=>?_,fun f hf=>?_⟩
      ·have e:x.f2=[]:=List.length_eq_zero_iff.1 (by omega);rw [e] at hb;cases hb
      ·have e:x.f5=[]:=List.length_eq_zero_iff.1 (by omega);rw [e] at hf;cases hf
     ·cases h1
    ·cases h1
   ·rw [Bool.and_eq_true] at h1;obtain ⟨h2,h3⟩:=h1;unfold lf at h2;split at h2
    ·cases h2
    ·split at h2
     ·cases h2
     ·split at h2
      ·cases h2
      ·rw [Bool.and_eq_true] at h2;have h4:=vJ x.f2 (by simpa using h2.2);obtain ⟨h5,h6⟩:=AP x.f4 16 x.f5 1 (by omega) h3;exact ⟨by omega,by omega,fun b hb=>(h4 b hb).2,fun f hf=>(h6 f hf).2⟩
  ·exact ih _ h.2 x hx
theorem ug (x:gX) (h:BH x):(cX x).length≤98804:=by
 unfold cX;simp only [List.length_append,dH];have h1:(gr x.f2.length).length≤10:=dR _ (by have:=h.n2;omega);have h2:(gr x.f5.length).length≤10:=dR _ (by have:=h.n5;omega);have h3:=jF dI 3082 x.f2 (fun b hb=>by have:=pG b (by have:=h.s2 b hb;omega);have:=h.s2 b hb;omega);have h4:=jF jN 3090 x.f5 (fun f hf=>by
  have:=pG f.f1 (by have:=h.s5 f hf;omega);have:=h.s5 f hf;unfold jN;rw [List.length_append,dH];omega)
 have h5:x.f2.length*3082≤16*3082:=Nat.mul_le_mul_right _ h.n2;have h6:x.f5.length*3090≤16*3090:=Nat.mul_le_mul_right _ h.n5;omega
structure DS (s:Hs):Prop where
 self:s.self<16
 free:0≤s.free∧s.free≤1073741824
 spare:0≤s.spare∧s.spare≤1073741824
 tab:fY s.table=true∧s.table.length≤8192
 pairs:s.pairs.length≤32768∧oC s.table s.self none s.pairs=true
 ses:s.ses.length≤16∧iW none s.ses=true
 peers:s.peers.length≤16∧cJ s=true∧∀x∈s.peers,BH x
theorem lA (s:Hs) (h:ni s=true):DS s:=by
 unfold ni at h;split at h
 ·rename_i hh;split at h
  ·rename_i ht;split at h
   ·cases h
   ·rename_i hp;split at h
    ·rename_i hpw;split at h
     ·rename_i hsw;unfold oV at hh;split at hh
      ·cases hh
      ·split at hh
       ·cases hh
       ·split at hh
        ·cases hh
        ·split at hh
         ·cases hh
         ·split at hh
          ·cases hh
          ·have ht2:=ht;unfold fY at ht2;simp only [Bool.and_eq_true,decide_eq_true_eq] at ht2;have he:=h;unfold cJ at he;simp only [Bool.and_eq_true] at he;have hf:=of_decide_eq_true he.1.1;exact ⟨by omega,by omega,by omega,⟨ht,by omega⟩,⟨by omega,hpw⟩,⟨uU _ hsw,hsw⟩,⟨hf.2.1,h,yF _ _ _ he.1.2⟩⟩
     ·cases h
    ·cases h
  ·cases h
 ·cases h
theorem jG (s:Hs) (h:DS s):(dV s).length≤16777000:=by
 unfold dV fI;simp only [List.length_append,List.length_cons];have a1:(gr s.table.length).length≤10:=dR _ (by have:=h.tab.2;omega);have a2:(gr s.pairs.length).length≤10:=dR _ (by have:=h.pairs.1;omega);have a3:(gr s.ses.length).length≤10:=dR _ (by have:=h.ses.1;omega);have a4:(bu s.free.toNat).length≤10:=dR _ (by have:=h.free;omega);have a5:(bu s.spare.toNat).length≤10:=dR _ (by have:=h.spare;omega);have b1:=jF iR 9 s.table (fun x _=>by unfold iR;rw [List.length_append,dH];simp);have b2:=jF dY 82 s.pairs (fun p hp=>by
  have:=sR _ _ _ _ h.pairs.2 p hp;have:=pG p.f1 (by omega);unfold dY;rw [List.length_append,dH];omega)
 have b3:=jF ej 10 s.ses (fun x _=>by unfold ej;rw [List.length_cons,List.length_append,dH];simp);have b4:=jF cX 98804 s.peers (fun x hx=>ug x (h.peers.2.2 x hx));have c1:s.table.length*9≤8192*9:=Nat.mul_le_mul_right _ h.tab.2;have c2:s.pairs.length*82≤32768*82:=Nat.mul_le_mul_right _ h.pairs.1;have c3:s.ses.length*10≤16*10:=Nat.mul_le_mul_right _ h.ses.1;have c4:s.peers.length*98804≤16*98804:=Nat.mul_le_mul_right _ h.peers.1;omega
theorem cR {a b:List Int} (h:aq a) (k:aq b):aq (a++b):=fun c hc=>(List.mem_append.1 hc).elim (h c) (k c)
theorem fV {a:Int} {b:List Int} (h:0≤a∧a≤255) (k:aq b):aq (a::b):=fun c hc=>by
 rcases List.mem_cons.1 hc with rfl|hc
 ·exact h
 ·exact k c hc
theorem jR:aq []:=fun c hc=>by cases hc
theorem gU (n:Nat):aq (bu n):=s8 n
theorem jv (x:Int):aq (b8 x):=lY 8 _
theorem kD {l:List Int} (h:aq l):aq (dI l):=cR (gU _) h
theorem fD {α:Type} (f:α→List Int) (l:List α) (h:∀x∈l,aq (f x)):aq (l.flatMap f):=fun c hc=>by
 obtain ⟨x,hx,hc⟩:=List.mem_flatMap.1 hc;exact h x hx c hc
theorem pI {x:gX} (h:qQ x):aq (cX x):=
 cR (jv _) (cR (jv _) (cR (jv _) (cR (jv _) (cR (gU _) (cR (fD _ _ (fun b hb=>kD (h.y2 b hb))) (cR (gU _) (fD _ _ (fun f hf=>cR (jv _) (kD (h.y5 f hf).2)))))))))
theorem kG (s:Hs) (h:oO s) (hp:s.peers.length≤255):aq (dV s):=
 fV (by omega) (fV (by omega) (fV h.b0 (cR (gU _) (cR (fD _ _ (fun x hx=>cR (jv _) (fV (h.b1.2 x hx).2.2 jR))) (cR (gU _) (cR (fD _ _ (fun x hx=>cR (jv _) (kD (h.b2.2 x hx).2.2))) (cR (gU _) (cR (fD _ _ (fun x hx=>fV (h.b3.2 x hx).1 (cR (jv _) (fV (h.b3.2 x hx).2.2 jR)))) (cR (gU _) (cR (gU _) (fV (by omega) (fD _ _ (fun x hx=>pI (h.b6.2 x hx))))))))))))))
end Go.Proofs.YtpekmdpbfjdjkaaGreat.dO
namespace Go.Proofs.YtpekmdpbfjdjkaaGreat.dO
open Go Go.RowKit ag.ax ag.aV ag.aU aD fr iK cL
theorem mK (s:Hs) (A1 A2 A3 A6:Option Addr) (c1 c2 c3 c6:Nat) (W:World) (hr:pL W s A1 A2 A3 A6 c1 c2 c3 c6) (hb:oO s) :
 Calls Tryz.prog 23 #[.agg (jw s A1 A2 A3 A6 c1 c2 c3 c6)] W (rV W (ni s)):=by
 have hu59:=Tryz.underlying59;have hu62:=Tryz.underlying62;have hu30:=Tryz.underlying30;have HR:=aa hr;have HB:=aa hb;have hs0:=hb.b0.1;have hs1:=hb.b0.2;have hL1:=hb.b1.1;have hL2:=hb.b2.1;have hL3:=hb.b3.1;have hf:=hb.b4;have hp:=hb.b5;generalize hO:ni s=o;have HO:=aa hO;have NO:=aa (show ∀W',false=o→Below W.heap.size W W'→rV W o (.returned (.bool false)) W' from fun W' e h=>by subst e;exact ⟨rfl,h⟩);clear hr hb hO;unfold jw;by_cases g1:16≤s.self
 ·have g1b:decide (16≤s.self)=true:=decide_eq_true g1;have HO2:=aa (show false=o by rw [←HO.1,ni,oV];simp only [if_pos g1];rfl);clear HO hf hp g1;go_in;go_wp2_with fail;go_ret;exact NO.1 _ HO2.1 (ah (Below.refl _ _) _)
 have g1b:decide (16≤s.self)=false:=decide_eq_false g1;by_cases g2:s.free<0
 ·have g2b:decide (s.free<0)=true:=decide_eq_true g2;have HO2:=aa (show false=o by rw [←HO.1,ni,oV];simp only [if_neg g1,if_pos g2];rfl);clear HO hf hp g1 g2;go_in;go_wp2_with fail;go_ret;exact NO.1 _ HO2.1 (ah (Below.refl _ _) _)
 have g2b:decide (s.free<0)=false:=decide_eq_false g2;by_cases g3:s.spare<0
 ·have g3b:decide (s.spare<0)=true:=decide_eq_true g3;have HO2:=aa (show false=o by rw [←HO.1,ni,oV];simp only [if_neg g1,if_neg g2,if_pos g3];rfl);clear HO hf hp g1 g2 g3;go_in;go_wp2_with fail;go_ret;exact NO.1 _ HO2.1 (ah (Below.refl _ _) _)
 have g3b:decide (s.spare<0)=false:=decide_eq_false g3;by_cases g4:1073741824 - (s.pairs.length:Int)<s.free
 ·have g4b:decide (1073741824 - (s.pairs.length:Int)<s.free)=true:=decide_eq_true g4;have HO2:=aa (show false=o by rw [←HO.1,ni,oV];simp only [if_neg g1,if_neg g2,if_neg g3,if_pos g4];rfl);clear HO hf hp g1 g2 g3 g4;go_in;go_wp2_with fail;go_ret;exact NO.1 _ HO2.1 (ah (Below.refl _ _) _)
 have g4b:decide (1073741824 - (s.pairs.length:Int)<s.free)=false:=decide_eq_false g4;by_cases g5:1073741824 - (s.table.length:Int)<s.spare
 ·have g5b:decide (1073741824 - (s.table.length:Int)<s.spare)=true:=decide_eq_true g5;have HO2:=aa (show false=o by rw [←HO.1,ni,oV];simp only [if_neg g1,if_neg g2,if_neg g3,if_neg g4,if_pos g5];rfl);clear HO hf hp g1 g2 g3 g4 g5;go_in;go_wp2_with fail;go_ret;exact NO.1 _ HO2.1 (ah (Below.refl _ _) _)
 have g5b:decide (1073741824 - (s.table.length:Int)<s.spare)=false:=decide_eq_false g5;have HO1:=aa (show (if fY s.table=true then if 32768<(s.pairs.length:Int) then false else if oC s.table s.self none s.pairs=true then if iW none s.ses=true then cJ s else false else false else false)=o by rw [←HO.1,ni,oV];simp only [if_neg g1,if_neg g2,if_neg g3,if_neg g4,if_neg g5];rfl);clear HO hf hp g1 g2 g3 g4 g5;go_in;go_wp2_with fail;clear g1b g2b g3b g4b g5b;have BX:=aa (aJ W (.cells #[.int .u8 s.self, .slice A1 s.table.length c1, .slice A2 s.pairs.length c2, .slice A3 s.ses.length c3, .int .i64 s.free, .int .i64 s.spare, .slice A6 s.peers.length c6] 30));have B1:=aa (ah (Below.refl _ W) (.cells #[.int .u8 s.self, .slice A1 s.table.length c1, .slice A2 s.pairs.length c2, .slice A3 s.ses.length c3, .int .i64 s.free, .int .i64 s.spare, .slice A6 s.peers.length c6] 30));have LD:=aa (Cx A1 c1 s.table 8192 (W.alloc (.cells #[.int .u8 s.self, .slice A1 s.table.length c1, .slice A2 s.pairs.length c2, .slice A3 s.ses.length c3, .int .i64 s.free, .int .i64 s.spare, .slice A6 s.peers.length c6] 30)) (Kd.eU HR.1.r1 _) HR.1.l1 hL1 (by omega) (by omega));generalize World.alloc W _=W1 at BX B1 LD ⊢;generalize W.heap.size=b1 at BX ⊢;refine LD.1.mono ?_;rintro e w2 ⟨hB,hres⟩;have B2:=aa (B1.1.trans (hB.mono B1.1.size));have BX2:=aa ((hB.block b1 (ak BX.1)).trans BX.1);have x1:w2.cell? ⟨b1,1,none⟩=some (.slice A1 s.table.length c1):=cell_of BX2.1 1;have x2:w2.cell? ⟨b1,2,none⟩=some (.slice A2 s.pairs.length c2):=cell_of BX2.1 2;rw [Gr] at hres;have SZ1:=aa B1.1.size;cases htc:jc s.table 0 false with
 | false=>
  rw [htc] at hres;obtain ⟨v,er,rfl,her⟩:=hres;have hne:(er != 0)=true:=by simpa using her
  have HO2:=aa (show false=o by rw [←HO1.1,fY,htc];rfl);clear HO1 htc her hB LD;go_wp2_with fail;go_quiet (fail);go_wp2_with fail;go_ret;exact NO.1 _ HO2.1 (ai B2.1 _)
 | true=>
 rw [htc,if_pos rfl,aj] at hres;have FT:=fold_push s.table [];have TO:fY s.table=(decide ((s.table.foldl dS []).length≤8192)&&decide ((s.table.foldl dS []).length=s.table.length)):=by rw [fY,htc];rfl
 generalize s.table.foldl dS []=ot at hres FT TO;by_cases h8:(ot.length:Int)≤8192
 case neg=>
  rw [if_neg h8] at hres;obtain ⟨v,er,rfl,her⟩:=hres;have hne:(er != 0)=true:=by simpa using her
  have HO2:=aa (show false=o by rw [←HO1.1,TO,decide_eq_false (by omega)];rfl);clear HO1 htc her hB LD FT TO h8;go_wp2_with fail;go_quiet (fail);go_wp2_with fail;go_ret;exact NO.1 _ HO2.1 (ai B2.1 _)
 rw [if_pos h8] at hres;obtain ⟨B,rfl,hT⟩:=hres;have T2:=aa hT;have LN:=aa (fun (n:Nat)=>Dg _ B 8192 ot (w2.drewN n) (hT.below (ai (Below.refl _ _) n)));by_cases hln:ot.length=s.table.length
 case neg=>
  have hne:((ot.length:Int) != (s.table.length:Int))=true:=by rw [mq];omega
  have HO2:=aa (show false=o by rw [←HO1.1,TO,decide_eq_false hln,DW];rfl);clear HO1 htc hB LD FT TO h8 hT hln;go_wp2_with fail;go_quiet ((go_at_call 67;exact dA ((LN.1 _).mono fun _ _ h=>h)));go_wp2_with fail;go_ret;exact NO.1 _ HO2.1 (ai B2.1 _)
 have hne:((ot.length:Int) != (s.table.length:Int))=false:=by rw [ci];omega
 have HO2:=aa (show (if 32768<(s.pairs.length:Int) then false else if oC s.table s.self none s.pairs=true then if iW none s.ses=true then cJ s else false else false)=o by rw [←HO1.1,TO,decide_eq_true hln,decide_eq_true (by omega),Bool.and_self,if_pos rfl]);have hot:ot=s.table:=by have h:=FT.2 (by simpa using hln);simpa using h
 subst hot;rcases rW s.table 0 false (fun x hx=>HB.1.b1.2 x hx) (fC _) htc with ⟨h,_⟩|⟨_,ht0,htR,_,htL⟩
 ·cases h
 clear HO1 htc hB LD FT TO h8 hT hln;by_cases gp:32768<(s.pairs.length:Int)
 ·have gpb:decide (32768<(s.pairs.length:Int))=true:=decide_eq_true gp;have HO3:=aa (show false=o by rw [←HO2.1,if_pos gp]);clear HO2 gp ht0 htR htL;go_wp2_with fail;go_quiet ((go_at_call 67;exact dA ((LN.1 _).mono fun _ _ h=>h)));go_wp2_with fail;go_ret;exact NO.1 _ HO3.1 (ai B2.1 _)
 have gpb:decide (32768<(s.pairs.length:Int))=false:=decide_eq_false gp;have HO3:=aa (show (if oC s.table s.self none s.pairs=true then if iW none s.ses=true then cJ s else false else false)=o by rw [←HO2.1,if_neg gp]);have TF:=aa (And.intro ht0 (And.intro htR htL));clear HO2 gp ht0 htR htL;go_wp2_with fail;go_quiet ((go_at_call 67;exact dA ((LN.1 _).mono fun _ _ h=>h)));clear hne gpb LN;have x2':(w2.drewN nq).cell? ⟨b1,2,none⟩=some (.slice A2 s.pairs.length c2):=x2;have T3:=aa (T2.1.below (ai (Below.refl _ w2) nq));have B3:=aa (ai B2.1 nq);have BX3:=aa (show (w2.drewN nq).heap[b1]? = some (.cells #[.int .u8 s.self, .slice A1 s.table.length c1, .slice A2 s.pairs.length c2, .slice A3 s.ses.length c3, .int .i64 s.free, .int .i64 s.spare, .slice A6 s.peers.length c6] 30 (0,0)) from BX2.1);generalize w2.drewN nq=w3 at x2' T3 B3 BX3 ⊢;clear x1 x2 T2 B2 BX2;go_wp2_with fail;go_loopw [66] (fun v66 wr=>∃i:Nat,i≤s.pairs.length∧v66 = .int .i64 i∧af ((if oC s.table s.self (gv s.pairs i) (s.pairs.drop i)=true then if iW none s.ses=true then cJ s else false else false)=o)∧af (Below w3.heap.size w3 wr)) (fun v _=>s.pairs.length - (intOf v).toNat)
 case atStart=>exact ⟨0,aI _,rfl,HO3,⟨Below.refl _ _⟩⟩
 case round=>
  obtain ⟨i,hi,rfl,J0,HW⟩:=hrel;clear HO3;have HWW:=aa (B3.1.trans (HW.1.mono B3.1.size));by_cases hlt:i<s.pairs.length
  case neg=>
   have HO5:=aa (show (if iW none s.ses=true then cJ s else false)=o by have J:=J0.1;rw [List.drop_eq_nil_of_le (by omega),oC,if_pos rfl] at J;exact J);have BO:=HWW;have y3:wr.cell? ⟨b1,3,none⟩=some (.slice A3 s.ses.length c3):=cell_of ((HW.1.block b1 (ak BX3.1)).trans BX3.1) 3;have BX4:=aa ((HW.1.block b1 (ak BX3.1)).trans BX3.1);clear J0 HW HWW B3 BX3 T3 x2' TF BX;generalize wr=wo at BO BX4 y3 ⊢;go_wp2_with fail;clear hlt hi;go_loopw [104] (fun v104 wr=>∃i:Nat,i≤s.ses.length∧v104 = .int .i64 i∧af ((if iW (hJ s.ses i) (s.ses.drop i)=true then cJ s else false)=o)∧af (Below wo.heap.size wo wr)) (fun v _=>s.ses.length - (intOf v).toNat)
   case atStart=>exact ⟨0,aI _,rfl,HO5,⟨Below.refl _ _⟩⟩
   case round=>
    obtain ⟨i,hi,rfl,J0,HW⟩:=hrel;clear HO5;have HWW:=aa (BO.1.trans (HW.1.mono BO.1.size));by_cases hlt:i<s.ses.length
    case neg=>
     have HO6:=aa (show cJ s=o by have J:=J0.1;rw [List.drop_eq_nil_of_le (by omega),iW,if_pos rfl] at J;exact J);have BX5:=aa ((HW.1.block b1 (ak BX4.1)).trans BX4.1);have EF:=aa (rK s A1 A2 A3 A6 c1 c2 c3 c6 wr (HR.1.below HWW.1) HB.1);unfold jw at EF;clear J0 y3 HW;go_wp2_with ((with_reducible refine az (N:=147) rfl ?_);refine fL (t:=30) (p:= .tmp 1) rfl rfl ?haddr BX5.1 Tryz.underlying30 ?hd ?hi ?_;(case haddr=>rfl);(case hd=>rfl);(case hi=>kernel_rfl));refine EF.1.mono ?_;rintro e w5 ⟨rfl,hB5⟩;have B5:=aa (HWW.1.trans (hB5.mono HWW.1.size));clear hB5 EF;go_wp2_with fail;go_ret;exact ⟨by rw [←HO6.1];rfl,B5.1⟩
    obtain ⟨ad,e1,m0,m1,m2⟩:=iF (Kd.aN HR.1.r3 HWW.1) (i:Int) (by omega) (by omega);have hrd:bW s.ses (i:Int)=s.ses[i]:=by simp [bW,List.getD_eq_getElem?_getD,hlt]
    have J:=J0.1;rw [ap hlt,iW,←hrd] at J;have PV:=aa (show hJ s.ses (i+1)=some (bW s.ses (i:Int)).f0 by unfold hJ;rw [if_neg (by omega)];rfl);subst e1;simp only [Int.toNat_natCast] at m0 m1 m2;have PBd:=aa (HB.1.b3.2 _ (hrd▸List.getElem_mem hlt:bW s.ses (i:Int)∈s.ses));generalize bW s.ses (i:Int)=x at m0 m1 m2 J PV PBd;have J1:=aa J;clear J J0 hrd;go_wp2_with fail;have PN:=aa (aJ wr (.cells #[.int .u8 x.f0, .int .u64 x.f1, .int .u8 x.f2] 62));have WP:=aa (ah (Below.refl _ wr) (.cells #[.int .u8 x.f0, .int .u64 x.f1, .int .u8 x.f2] 62));have W4:=aa (HW.1.trans (WP.1.mono HW.1.size));generalize World.alloc wr _=w4 at PN WP W4 ⊢;generalize wr.heap.size=pb at PN ⊢;clear m0 m1 m2;have h0:w4.cell? ⟨pb,0,none⟩=some (.int .u8 x.f0):=cell_of PN.1 0;have h1:w4.cell? ⟨pb,1,none⟩=some (.int .u64 x.f1):=cell_of PN.1 1;have h2:w4.cell? ⟨pb,2,none⟩=some (.int .u8 x.f2):=cell_of PN.1 2;have y4:w4.cell? ⟨b1,3,none⟩=some (.slice (some ad) s.ses.length c3):=cell_of ((W4.1.block b1 (ak BX4.1)).trans BX4.1) 3;rcases Nat.eq_zero_or_pos i with rfl|hpos
    ·have J2:=aa (show (if (if x.f0<16 then false else if 32≤x.f0 then false else if x.f1=0 then false else if x.f2<1 then false else if 4<x.f2 then false else iW (some x.f0) (s.ses.drop (0+1)))=true then cJ s else false)=o by
      rw [←J1.1,if_neg (c:=∃k,k∈hJ s.ses 0∧x.f0≤k) (fun ⟨k,hk,_⟩=>by cases hk)])
     clear J1;by_cases k0:x.f0<16
     ·have k0b:decide (x.f0<16)=true:=decide_eq_true k0;have HO4:=aa (show false=o by rw [←J2.1,if_pos k0];rfl);clear J2 k0;go_quiet (fail);go_wp2_with fail;go_ret;exact NO.1 _ HO4.1 (ai (BO.1.trans (W4.1.mono BO.1.size)) _)
     have k0b:decide (x.f0<16)=false:=decide_eq_false k0;have J3:=aa (show (if (if 32≤x.f0 then false else if x.f1=0 then false else if x.f2<1 then false else if 4<x.f2 then false else iW (some x.f0) (s.ses.drop (0+1)))=true then cJ s else false)=o by rw [←J2.1,if_neg k0]);clear J2 k0;by_cases k1:32≤x.f0
     ·have k1b:decide (32≤x.f0)=true:=decide_eq_true k1;have HO4:=aa (show false=o by rw [←J3.1,if_pos k1];rfl);clear J3 k1;go_quiet (fail);go_wp2_with fail;go_ret;exact NO.1 _ HO4.1 (ai (BO.1.trans (W4.1.mono BO.1.size)) _)
     have k1b:decide (32≤x.f0)=false:=decide_eq_false k1;have J4:=aa (show (if (if x.f1=0 then false else if x.f2<1 then false else if 4<x.f2 then false else iW (some x.f0) (s.ses.drop (0+1)))=true then cJ s else false)=o by rw [←J3.1,if_neg k1]);clear J3 k1;by_cases k2:x.f1=0
     ·have k2b:(x.f1 == 0)=true:=by rw [gw];exact k2
      have HO4:=aa (show false=o by rw [←J4.1,if_pos k2];rfl);clear J4 k2;go_quiet (fail);go_wp2_with fail;go_ret;exact NO.1 _ HO4.1 (ai (BO.1.trans (W4.1.mono BO.1.size)) _)
     have k2b:(x.f1 == 0)=false:=by rw [bi];exact k2
     have J5:=aa (show (if (if x.f2<1 then false else if 4<x.f2 then false else iW (some x.f0) (s.ses.drop (0+1)))=true then cJ s else false)=o by rw [←J4.1,if_neg k2]);clear J4 k2;by_cases k3:x.f2<1
     ·have k3b:decide (x.f2<1)=true:=decide_eq_true k3;have HO4:=aa (show false=o by rw [←J5.1,if_pos k3];rfl);clear J5 k3;go_quiet (fail);go_wp2_with fail;go_ret;exact NO.1 _ HO4.1 (ai (BO.1.trans (W4.1.mono BO.1.size)) _)
     have k3b:decide (x.f2<1)=false:=decide_eq_false k3;have J6:=aa (show (if (if 4<x.f2 then false else iW (some x.f0) (s.ses.drop (0+1)))=true then cJ s else false)=o by rw [←J5.1,if_neg k3]);clear J5 k3;by_cases k4:4<x.f2
     ·have k4b:decide (4<x.f2)=true:=decide_eq_true k4;have HO4:=aa (show false=o by rw [←J6.1,if_pos k4];rfl);clear J6 k4;go_quiet (fail);go_wp2_with fail;go_ret;exact NO.1 _ HO4.1 (ai (BO.1.trans (W4.1.mono BO.1.size)) _)
     have k4b:decide (4<x.f2)=false:=decide_eq_false k4;have J7:=aa (show (if (iW (some x.f0) (s.ses.drop (0+1)))=true then cJ s else false)=o by rw [←J6.1,if_neg k4]);clear J6 k4;have HO4:=aa (show (if iW (hJ s.ses (0+1)) (s.ses.drop (0+1))=true then cJ s else false)=o by rw [←J7.1,PV.1]);clear J7;go_quiet (fail);go_wp2_with fail;go_roundw
     case rel=>exact ⟨0+1,by omega,by go_num,HO4,⟨ai W4.1 _⟩⟩
     case measure=>
      show s.ses.length - ((0:Nat)+1:Int).toNat<s.ses.length - ((0:Nat):Int).toNat;omega
    ·obtain ⟨i',rfl⟩:∃i',i=i'+1:=⟨i - 1,by omega⟩;obtain ⟨ad',e2,n0,_,_⟩:=iF (Kd.aN HR.1.r3 HWW.1) (i':Int) (by omega) (by omega);injection e2 with e2;subst e2;simp only [Int.toNat_natCast] at n0;have PK:=aa (show hJ s.ses (i'+1)=some (bW s.ses (i':Int)).f0 by unfold hJ;rw [if_neg (by omega)];rfl);generalize (bW s.ses (i':Int)).f0=pk at n0 PK;replace n0:=an (WP.1) n0;have hip:(0:Int)<((i'+1:Nat):Int):=by omega
     have hsub:wrap64 (((i'+1:Nat):Int) - 1)=(i':Int):=by rw [IntWalk.wrap64_in _ (by omega)];omega
     have hsub2:IntKind.i64.wrap (((i'+1:Nat):Int) - 1)=(i':Int):=by rw [aA _ (by omega)];omega
     have hil:(i':Int)<(s.ses.length:Int):=by omega
     have hwi:IntKind.i64.wrap (i':Int)=(i':Int):=aA _ (by omega);have hi0:(0:Int)≤(i':Int):=by omega
     by_cases gk:x.f0≤pk
     ·have gkb:decide (x.f0≤pk)=true:=decide_eq_true gk;have HO4:=aa (show false=o by
       rw [←J1.1,PK.1,if_pos (c:=∃k,k∈some pk∧x.f0≤k) ⟨pk,rfl,gk⟩];rfl)
      clear J1 gk;go_quiet (fail);go_wp2_with fail;go_ret;exact NO.1 _ HO4.1 (ai (BO.1.trans (W4.1.mono BO.1.size)) _)
     have gkb:decide (x.f0≤pk)=false:=decide_eq_false gk;have J2:=aa (show (if (if x.f0<16 then false else if 32≤x.f0 then false else if x.f1=0 then false else if x.f2<1 then false else if 4<x.f2 then false else iW (some x.f0) (s.ses.drop ((i'+1)+1)))=true then cJ s else false)=o by
      rw [←J1.1,PK.1,if_neg (c:=∃k,k∈some pk∧x.f0≤k) (fun ⟨k,hk,hk2⟩=>gk (by injection hk with hk;rw [hk];exact hk2))])
     clear J1 gk;by_cases k0:x.f0<16
     ·have k0b:decide (x.f0<16)=true:=decide_eq_true k0;have HO4:=aa (show false=o by rw [←J2.1,if_pos k0];rfl);clear J2 k0;go_quiet (fail);go_wp2_with fail;go_ret;exact NO.1 _ HO4.1 (ai (BO.1.trans (W4.1.mono BO.1.size)) _)
     have k0b:decide (x.f0<16)=false:=decide_eq_false k0;have J3:=aa (show (if (if 32≤x.f0 then false else if x.f1=0 then false else if x.f2<1 then false else if 4<x.f2 then false else iW (some x.f0) (s.ses.drop ((i'+1)+1)))=true then cJ s else false)=o by rw [←J2.1,if_neg k0]);clear J2 k0;by_cases k1:32≤x.f0
     ·have k1b:decide (32≤x.f0)=true:=decide_eq_true k1;have HO4:=aa (show false=o by rw [←J3.1,if_pos k1];rfl);clear J3 k1;go_quiet (fail);go_wp2_with fail;go_ret;exact NO.1 _ HO4.1 (ai (BO.1.trans (W4.1.mono BO.1.size)) _)
     have k1b:decide (32≤x.f0)=false:=decide_eq_false k1;have J4:=aa (show (if (if x.f1=0 then false else if x.f2<1 then false else if 4<x.f2 then false else iW (some x.f0) (s.ses.drop ((i'+1)+1)))=true then cJ s else false)=o by rw [←J3.1,if_neg k1]);clear J3 k1;by_cases k2:x.f1=0
     ·have k2b:(x.f1 == 0)=true:=by rw [gw];exact k2
      have HO4:=aa (show false=o by rw [←J4.1,if_pos k2];rfl);clear J4 k2;go_quiet (fail);go_wp2_with fail;go_ret;exact NO.1 _ HO4.1 (ai (BO.1.trans (W4.1.mono BO.1.size)) _)
     have k2b:(x.f1 == 0)=false:=by rw [bi];exact k2
     have J5:=aa (show (if (if x.f2<1 then false else if 4<x.f2 then false else iW (some x.f0) (s.ses.drop ((i'+1)+1)))=true then cJ s else false)=o by rw [←J4.1,if_neg k2]);clear J4 k2;by_cases k3:x.f2<1
     ·have k3b:decide (x.f2<1)=true:=decide_eq_true k3;have HO4:=aa (show false=o by rw [←J5.1,if_pos k3];rfl);clear J5 k3;go_quiet (fail);go_wp2_with fail;go_ret;exact NO.1 _ HO4.1 (ai (BO.1.trans (W4.1.mono BO.1.size)) _)
     have k3b:decide (x.f2<1)=false:=decide_eq_false k3;have J6:=aa (show (if (if 4<x.f2 then false else iW (some x.f0) (s.ses.drop ((i'+1)+1)))=true then cJ s else false)=o by rw [←J5.1,if_neg k3]);clear J5 k3;by_cases k4:4<x.f2
     ·have k4b:decide (4<x.f2)=true:=decide_eq_true k4;have HO4:=aa (show false=o by rw [←J6.1,if_pos k4];rfl);clear J6 k4;go_quiet (fail);go_wp2_with fail;go_ret;exact NO.1 _ HO4.1 (ai (BO.1.trans (W4.1.mono BO.1.size)) _)
     have k4b:decide (4<x.f2)=false:=decide_eq_false k4;have J7:=aa (show (if (iW (some x.f0) (s.ses.drop ((i'+1)+1)))=true then cJ s else false)=o by rw [←J6.1,if_neg k4]);clear J6 k4;have HO4:=aa (show (if iW (hJ s.ses ((i'+1)+1)) (s.ses.drop ((i'+1)+1))=true then cJ s else false)=o by rw [←J7.1,PV.1]);clear J7;go_quiet (fail);go_wp2_with fail;go_roundw
     case rel=>exact ⟨(i'+1)+1,by omega,by go_num,HO4,⟨ai W4.1 _⟩⟩
     case measure=>
      show s.ses.length - (((i'+1):Nat)+1:Int).toNat<s.ses.length - (((i'+1):Nat):Int).toNat;omega
  obtain ⟨ad,Y1,q1,e1,m0,m1,l1,C1⟩:=iG (Kd.aN HR.1.r2 HWW.1) (i:Int) (by omega) (by omega);have hrd:cF s.pairs (i:Int)=s.pairs[i]:=by simp [cF,List.getD_eq_getElem?_getD,hlt]
  have J:=J0.1;rw [ap hlt,oC,←hrd] at J;have PV:=aa (show gv s.pairs (i+1)=some (cF s.pairs (i:Int)).f0 by unfold gv;rw [if_neg (by omega)];rfl);subst e1;simp only [Int.toNat_natCast] at m0 m1 C1;have PBd:=aa (HB.1.b2.2 _ (hrd▸List.getElem_mem hlt:cF s.pairs (i:Int)∈s.pairs));generalize cF s.pairs (i:Int)=p at m0 m1 l1 C1 J PV PBd;have hpl:=PBd.1.2.1;have J1:=aa J;clear J J0 hrd C1;go_wp2_with fail;have PN:=aa (aJ wr (.cells #[.int .u64 p.f0, .slice Y1 p.f1.length q1] 59));have WP:=aa (ah (Below.refl _ wr) (.cells #[.int .u64 p.f0, .slice Y1 p.f1.length q1] 59));have W4:=aa (HW.1.trans (WP.1.mono HW.1.size));generalize World.alloc wr _=w4 at PN WP W4 ⊢;generalize wr.heap.size=pb at PN ⊢;clear m0 m1;have h0:w4.cell? ⟨pb,0,none⟩=some (.int .u64 p.f0):=cell_of PN.1 0;have h1:w4.cell? ⟨pb,1,none⟩=some (.slice Y1 p.f1.length q1):=cell_of PN.1 1;have y0:w4.cell? ⟨b1,0,none⟩=some (.int .u8 s.self):=cell_of ((W4.1.block b1 (ak BX3.1)).trans BX3.1) 0;have y2:w4.cell? ⟨b1,2,none⟩=some (.slice (some ad) s.pairs.length c2):=cell_of ((W4.1.block b1 (ak BX3.1)).trans BX3.1) 2;rcases Nat.eq_zero_or_pos i with rfl|hpos
  ·have J2:=aa (show (if (if 64<(p.f1.length:Int) then false else if iE s.table p.f0=s.self then oC s.table s.self (some p.f0) (s.pairs.drop (0+1)) else false)=true then if iW none s.ses=true then cJ s else false else false)=o by
    rw [←J1.1,if_neg (c:=∃k,k∈gv s.pairs 0∧p.f0≤k) (fun ⟨k,hk,_⟩=>by cases hk)])
   clear J1;by_cases g64:64<(p.f1.length:Int)
   ·have g64b:decide (64<(p.f1.length:Int))=true:=decide_eq_true g64;have HO4:=aa (show false=o by rw [←J2.1,if_pos g64];rfl);clear J2 g64;go_quiet (fail);go_wp2_with fail;go_ret;exact NO.1 _ HO4.1 (ai (B3.1.trans (W4.1.mono B3.1.size)) _)
   have g64b:decide (64<(p.f1.length:Int))=false:=decide_eq_false g64;have J3:=aa (show (if (if iE s.table p.f0=s.self then oC s.table s.self (some p.f0) (s.pairs.drop (0+1)) else false)=true then if iW none s.ses=true then cJ s else false else false)=o by rw [←J2.1,if_neg g64]);clear J2 g64;have LK:=aa (sU _ B 8192 p.f0 s.table w4.drew (T3.1.below (W4.1.drew)) TF.1.2.1 (by omega) TF.1.1 (by rw [TF.1.2.2];exact PBd.1.1.2));refine hY (fun w'=>w'.cell? ⟨pb,0,none⟩=some (.int .u64 p.f0)∧w'.cell? ⟨pb,1,none⟩=some (.slice Y1 p.f1.length q1)∧w'.cell? ⟨b1,0,none⟩=some (.int .u8 s.self)∧w'.cell? ⟨b1,2,none⟩=some (.slice (some ad) s.pairs.length c2)) 29 [(0,0),(1,0),(2,0),(3,0),(4,1),(5,0),(6,1),(7,0),(8,0),(9,0),(10,0),(11,1),(12,0),(13,0),(14,0),(15,0),(16,1),(17,0),(18,0),(19,0),(20,0),(21,0),(22,0),(23,1),(25,0),(26,1),(24,2),(27,0),(28,0)] (by kernel_rfl) (by kernel_rfl) (fun _ _ _ _ _ h=>h) ⟨h0,h1,y0,y2⟩ ?_;iterate 3 (refine eF ?_;simp only [cS,Act.put])
   refine da rfl rfl ?_;simp only [cS,Act.put];refine iQ rfl rfl ?_;simp only [cS,Act.put];refine da rfl rfl ?_;simp only [cS,Act.put];refine iQ rfl rfl ?_;simp only [cS,Act.put];refine da rfl rfl ?_;simp only [cS,Act.put];refine da rfl rfl ?_;simp only [cS,Act.put];refine da rfl rfl ?_;simp only [cS,Act.put];refine da rfl rfl ?_;simp only [cS,Act.put];refine iQ rfl rfl ?_;simp only [cS,Act.put];refine da rfl rfl ?_;simp only [cS,Act.put];iterate 3 (refine eF ?_;simp only [cS,Act.put])
   iterate 1 (refine aQ (v:=?_) rfl rfl ?_ ?_;rotate_left 1;(focus (intro w hSw;obtain ⟨u0,u1,u2,u3⟩:=hSw;go_simp;try (with_reducible rfl)));simp only [cS,Act.put])
   iterate 6 (refine eF ?_;simp only [cS,Act.put])
   iterate 1 (refine aQ (v:=?_) rfl rfl ?_ ?_;rotate_left 1;(focus (intro w hSw;obtain ⟨u0,u1,u2,u3⟩:=hSw;go_simp;try (with_reducible rfl)));simp only [cS,Act.put])
   iterate 1 (refine eF ?_;simp only [cS,Act.put])
   iterate 1 (refine aQ (v:=?_) rfl rfl ?_ ?_;rotate_left 1;(focus (intro w hSw;obtain ⟨u0,u1,u2,u3⟩:=hSw;go_simp;try (with_reducible rfl)));simp only [cS,Act.put])
   refine aT rfl ?_;go_wp2_with fail;refine LK.1.mono ?_;rintro e w5 ⟨r,hr,hF,rfl,hB5⟩;have hb5:Below w4.heap.size w4 w5:=(Below.refl _ _).drew.trans hB5;have hSw:(fun w'=>w'.cell? ⟨pb,0,none⟩=some (.int .u64 p.f0)∧w'.cell? ⟨pb,1,none⟩=some (.slice Y1 p.f1.length q1)∧w'.cell? ⟨b1,0,none⟩=some (.int .u8 s.self)∧w'.cell? ⟨b1,2,none⟩=some (.slice (some ad) s.pairs.length c2)) w5:=⟨an hb5 h0,an hb5 h1,an hb5 y0,an hb5 y2⟩;have W5:=aa (W4.1.trans (hb5.mono W4.1.size));rw [←mc s.table p.f0 r hF hr];clear hF hr hB5 hb5 LK h0 h1 y0 y2;generalize iE s.table p.f0=hh at J3 ⊢;go_wp2_with fail;refine bB.mk hSw (fun _=>?_);clear hSw;iterate 2 (refine eF ?_;simp only [cS,Act.put])
   refine bC ?_;simp only [aC,List.drop_zero];by_cases gh:hh=s.self
   case neg=>
    have ghb:(hh != s.self)=true:=by rw [mq];exact gh
    have HO4:=aa (show false=o by rw [←J3.1,if_neg gh];rfl);clear J3 gh;go_wp2_with fail;go_ret;exact NO.1 _ HO4.1 (B3.1.trans (W5.1.mono B3.1.size))
   have ghb:(hh != s.self)=false:=by rw [ci];exact gh
   have HO4:=aa (show (if oC s.table s.self (gv s.pairs (0+1)) (s.pairs.drop (0+1))=true then if iW none s.ses=true then cJ s else false else false)=o by rw [←J3.1,if_pos gh,PV.1]);clear J3 gh;go_wp2_with fail;go_roundw
   case rel=>exact ⟨0+1,by omega,by go_num,HO4,W5⟩
   case measure=>
    show s.pairs.length - ((0:Nat)+1:Int).toNat<s.pairs.length - ((0:Nat):Int).toNat;omega
  ·obtain ⟨i',rfl⟩:∃i',i=i'+1:=⟨i - 1,by omega⟩;obtain ⟨ad',Y2,q2,e2,n0,_,_,_⟩:=iG (Kd.aN HR.1.r2 HWW.1) (i':Int) (by omega) (by omega);injection e2 with e2;subst e2;simp only [Int.toNat_natCast] at n0;have PK:=aa (show gv s.pairs (i'+1)=some (cF s.pairs (i':Int)).f0 by unfold gv;rw [if_neg (by omega)];rfl);generalize (cF s.pairs (i':Int)).f0=pk at n0 PK;replace n0:=an (WP.1) n0;have hip:(0:Int)<((i'+1:Nat):Int):=by omega
   have hsub:wrap64 (((i'+1:Nat):Int) - 1)=(i':Int):=by rw [IntWalk.wrap64_in _ (by omega)];omega
   have hsub2:IntKind.i64.wrap (((i'+1:Nat):Int) - 1)=(i':Int):=by rw [aA _ (by omega)];omega
   have hil:(i':Int)<(s.pairs.length:Int):=by omega
   have hwi:IntKind.i64.wrap (i':Int)=(i':Int):=aA _ (by omega);have hi0:(0:Int)≤(i':Int):=by omega
   by_cases gk:p.f0≤pk
   ·have gkb:decide (p.f0≤pk)=true:=decide_eq_true gk;have HO4:=aa (show false=o by
     rw [←J1.1,PK.1,if_pos (c:=∃k,k∈some pk∧p.f0≤k) ⟨pk,rfl,gk⟩];rfl)
    clear J1 gk;go_quiet (fail);go_wp2_with fail;go_ret;exact NO.1 _ HO4.1 (ai (B3.1.trans (W4.1.mono B3.1.size)) _)
   have gkb:decide (p.f0≤pk)=false:=decide_eq_false gk;have J2:=aa (show (if (if 64<(p.f1.length:Int) then false else if iE s.table p.f0=s.self then oC s.table s.self (some p.f0) (s.pairs.drop ((i'+1)+1)) else false)=true then if iW none s.ses=true then cJ s else false else false)=o by
    rw [←J1.1,PK.1,if_neg (c:=∃k,k∈some pk∧p.f0≤k) (fun ⟨k,hk,hk2⟩=>gk (by injection hk with hk;rw [hk];exact hk2))])
   clear J1 gk;by_cases g64:64<(p.f1.length:Int)
   ·have g64b:decide (64<(p.f1.length:Int))=true:=decide_eq_true g64;have HO4:=aa (show false=o by rw [←J2.1,if_pos g64];rfl);clear J2 g64;go_quiet (fail);go_wp2_with fail;go_ret;exact NO.1 _ HO4.1 (ai (B3.1.trans (W4.1.mono B3.1.size)) _)
   have g64b:decide (64<(p.f1.length:Int))=false:=decide_eq_false g64;have J3:=aa (show (if (if iE s.table p.f0=s.self then oC s.table s.self (some p.f0) (s.pairs.drop ((i'+1)+1)) else false)=true then if iW none s.ses=true then cJ s else false else false)=o by rw [←J2.1,if_neg g64]);clear J2 g64;have LK:=aa (sU _ B 8192 p.f0 s.table w4.drew (T3.1.below (W4.1.drew)) TF.1.2.1 (by omega) TF.1.1 (by rw [TF.1.2.2];exact PBd.1.1.2));refine hY (fun w'=>w'.cell? ⟨pb,0,none⟩=some (.int .u64 p.f0)∧w'.cell? ⟨pb,1,none⟩=some (.slice Y1 p.f1.length q1)∧w'.cell? ⟨b1,0,none⟩=some (.int .u8 s.self)∧w'.cell? ⟨b1,2,none⟩=some (.slice (some ad) s.pairs.length c2)∧w'.cell? (ad.add (i'*2))=some (.int .u64 pk)) 29 [(0,0),(1,0),(2,0),(3,0),(4,1),(5,0),(6,1),(7,0),(8,0),(9,0),(10,0),(11,1),(12,0),(13,0),(14,0),(15,0),(16,1),(17,0),(18,0),(19,0),(20,0),(21,0),(22,0),(23,1),(25,0),(26,1),(24,2),(27,0),(28,0)] (by kernel_rfl) (by kernel_rfl) (fun _ _ _ _ _ h=>h) ⟨h0,h1,y0,y2,n0⟩ ?_;iterate 4 (refine eF ?_;simp only [cS,Act.put])
   iterate 1 (refine aQ (v:=?_) rfl rfl ?_ ?_;rotate_left 1;(focus (intro w hSw;obtain ⟨u0,u1,u2,u3,u4⟩:=hSw;go_simp;try (with_reducible rfl)));simp only [cS,Act.put])
   iterate 1 (refine eF ?_;simp only [cS,Act.put])
   iterate 1 (refine aQ (v:=?_) rfl rfl ?_ ?_;rotate_left 1;(focus (intro w hSw;obtain ⟨u0,u1,u2,u3,u4⟩:=hSw;go_simp;try (with_reducible rfl)));simp only [cS,Act.put])
   iterate 4 (refine eF ?_;simp only [cS,Act.put])
   iterate 1 (refine aQ (v:=?_) rfl rfl ?_ ?_;rotate_left 1;(focus (intro w hSw;obtain ⟨u0,u1,u2,u3,u4⟩:=hSw;go_simp;try (with_reducible rfl)));simp only [cS,Act.put])
   iterate 4 (refine eF ?_;simp only [cS,Act.put])
   iterate 1 (refine aQ (v:=?_) rfl rfl ?_ ?_;rotate_left 1;(focus (intro w hSw;obtain ⟨u0,u1,u2,u3,u4⟩:=hSw;go_simp;try (with_reducible rfl)));simp only [cS,Act.put])
   iterate 6 (refine eF ?_;simp only [cS,Act.put])
   iterate 1 (refine aQ (v:=?_) rfl rfl ?_ ?_;rotate_left 1;(focus (intro w hSw;obtain ⟨u0,u1,u2,u3,u4⟩:=hSw;go_simp;try (with_reducible rfl)));simp only [cS,Act.put])
   iterate 1 (refine eF ?_;simp only [cS,Act.put])
   iterate 1 (refine aQ (v:=?_) rfl rfl ?_ ?_;rotate_left 1;(focus (intro w hSw;obtain ⟨u0,u1,u2,u3,u4⟩:=hSw;go_simp;try (with_reducible rfl)));simp only [cS,Act.put])
   refine aT rfl ?_;go_wp2_with fail;refine LK.1.mono ?_;rintro e w5 ⟨r,hr,hF,rfl,hB5⟩;have hb5:Below w4.heap.size w4 w5:=(Below.refl _ _).drew.trans hB5;have hSw:(fun w'=>w'.cell? ⟨pb,0,none⟩=some (.int .u64 p.f0)∧w'.cell? ⟨pb,1,none⟩=some (.slice Y1 p.f1.length q1)∧w'.cell? ⟨b1,0,none⟩=some (.int .u8 s.self)∧w'.cell? ⟨b1,2,none⟩=some (.slice (some ad) s.pairs.length c2)∧w'.cell? (ad.add (i'*2))=some (.int .u64 pk)) w5:=⟨an hb5 h0,an hb5 h1,an hb5 y0,an hb5 y2,an hb5 n0⟩;have W5:=aa (W4.1.trans (hb5.mono W4.1.size));rw [←mc s.table p.f0 r hF hr];clear hF hr hB5 hb5 LK h0 h1 y0 y2 n0;generalize iE s.table p.f0=hh at J3 ⊢;go_wp2_with fail;refine bB.mk hSw (fun _=>?_);clear hSw;iterate 2 (refine eF ?_;simp only [cS,Act.put])
   refine bC ?_;simp only [aC,List.drop_zero];by_cases gh:hh=s.self
   case neg=>
    have ghb:(hh != s.self)=true:=by rw [mq];exact gh
    have HO4:=aa (show false=o by rw [←J3.1,if_neg gh];rfl);clear J3 gh;go_wp2_with fail;go_ret;exact NO.1 _ HO4.1 (B3.1.trans (W5.1.mono B3.1.size))
   have ghb:(hh != s.self)=false:=by rw [ci];exact gh
   have HO4:=aa (show (if oC s.table s.self (gv s.pairs ((i'+1)+1)) (s.pairs.drop ((i'+1)+1))=true then if iW none s.ses=true then cJ s else false else false)=o by rw [←J3.1,if_pos gh,PV.1]);clear J3 gh;go_wp2_with fail;go_roundw
   case rel=>exact ⟨(i'+1)+1,by omega,by go_num,HO4,W5⟩
   case measure=>
    show s.pairs.length - (((i'+1):Nat)+1:Int).toNat<s.pairs.length - (((i'+1):Nat):Int).toNat;omega
end Go.Proofs.YtpekmdpbfjdjkaaGreat.dO