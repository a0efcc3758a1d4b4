/- Part 9 of the proof that reading bytes answers as the document does. No condition. -/
import Derived.Test.YtpekmdpbfjdjkaaGreatY8
set_option maxHeartbeats 16000000
set_option maxRecDepth 100000
set_option linter.all false
namespace Go.Proofs.YtpekmdpbfjdjkaaGreat.fE
open Go.RowKit ag.ax ag.aV ag.aU aD fr plain iK cL
def iv (g:Mg):Bool:=decide (1≤g.limit)&&decide (g.limit≤16)
def od (g:Mg):Bool:=decide (1≤g.of_)&&decide (g.of_≤5)
def dN (g:Mg):Bool:=(g.st == 1)||((g.st == 2)&&((g.of_ == 1)||(g.of_ == 3)))||((g.st == 3)&&(g.of_ == 4))||((g.st == 4)&&((g.of_ == 2)||(g.of_ == 4)))
def iI (g:Mg):Bool:=(g.st == 1)||(decide (4≤g.st)&&decide (g.st≤10))
def nX (g:Mg):Bool:=lW g.host == 1
def oA (g:Mg):Bool:=decide (0<g.pay.length)&&decide (g.pay.length≤3072)
theorem tA (W:World) (base bm:Nat) (g:Mg) (h:kk W base bm g):Calls Tryz.prog 270 #[.agg #[], .pointer (some ⟨bm,0,none⟩)] W fun e w'=>e = .returned (.bool (iv g))∧Below W.heap.size W w':=by
 obtain ⟨v4,v5,v14,v15,v16,hb,hr⟩:=h.at_;have c13:W.cell? ⟨bm,13,none⟩=some (.int .u8 g.limit):=cell_of hb 13;have d13:=ca c13;clear h hb hr;by_cases h1:1≤g.limit
 ·have h1b:decide (1≤g.limit)=true:=by simp [h1]
  by_cases h2:g.limit≤16
  ·have h2b:decide (g.limit≤16)=true:=by simp [h2]
   rw [show iv g=true by unfold iv;simp [h1,h2]];go_in;go_wp2_with fail;go_ret;exact ⟨rfl,ah (Below.refl _ _) _⟩
  ·have h2b:decide (g.limit≤16)=false:=by simp [h2]
   rw [show iv g=false by unfold iv;simp [h1,h2]];go_in;go_wp2_with fail;go_ret;exact ⟨rfl,ah (Below.refl _ _) _⟩
 ·have h1b:decide (1≤g.limit)=false:=by simp [h1]
  rw [show iv g=false by unfold iv;simp [h1]];go_in;go_wp2_with fail;go_ret;exact ⟨rfl,ah (Below.refl _ _) _⟩
theorem Bm (W:World) (base bm:Nat) (g:Mg) (h:kk W base bm g):Calls Tryz.prog 278 #[.agg #[], .pointer (some ⟨bm,0,none⟩)] W fun e w'=>e = .returned (.bool (od g))∧Below W.heap.size W w':=by
 obtain ⟨v4,v5,v14,v15,v16,hb,hr⟩:=h.at_;have c7:W.cell? ⟨bm,7,none⟩=some (.int .u8 g.of_):=cell_of hb 7;have d7:=ca c7;clear h hb hr;by_cases h1:1≤g.of_
 ·have h1b:decide (1≤g.of_)=true:=by simp [h1]
  by_cases h2:g.of_≤5
  ·have h2b:decide (g.of_≤5)=true:=by simp [h2]
   rw [show od g=true by unfold od;simp [h1,h2]];go_in;go_wp2_with fail;go_ret;exact ⟨rfl,ah (Below.refl _ _) _⟩
  ·have h2b:decide (g.of_≤5)=false:=by simp [h2]
   rw [show od g=false by unfold od;simp [h1,h2]];go_in;go_wp2_with fail;go_ret;exact ⟨rfl,ah (Below.refl _ _) _⟩
 ·have h1b:decide (1≤g.of_)=false:=by simp [h1]
  rw [show od g=false by unfold od;simp [h1]];go_in;go_wp2_with fail;go_ret;exact ⟨rfl,ah (Below.refl _ _) _⟩
theorem ul (W:World) (base bm:Nat) (g:Mg) (h:kk W base bm g):Calls Tryz.prog 285 #[.agg #[], .pointer (some ⟨bm,0,none⟩)] W fun e w'=>e = .returned (.bool (dN g))∧Below W.heap.size W w':=by
 obtain ⟨v4,v5,v14,v15,v16,hb,hr⟩:=h.at_;have c7:W.cell? ⟨bm,7,none⟩=some (.int .u8 g.of_):=cell_of hb 7;have d7:=ca c7;have c8:W.cell? ⟨bm,8,none⟩=some (.int .u8 g.st):=cell_of hb 8;have d8:=ca c8;clear h hb hr;by_cases h1:g.st=1
 ·have h1b:(g.st == 1)=true:=by simp [h1]
  rw [show dN g=true by unfold dN;simp [h1]];go_in;go_wp2_with fail;go_ret;exact ⟨rfl,ah (Below.refl _ _) _⟩
 ·have h1b:(g.st == 1)=false:=by simp [h1]
  by_cases h2:g.st=2
  ·have h2b:(g.st == 2)=true:=by simp [h2]
   by_cases h3:g.of_=1
   ·have h3b:(g.of_ == 1)=true:=by simp [h3]
    rw [show dN g=true by unfold dN;simp [h2,h3]];go_in;go_wp2_with fail;go_ret;exact ⟨rfl,ah (Below.refl _ _) _⟩
   ·have h3b:(g.of_ == 1)=false:=by simp [h3]
    by_cases h4:g.of_=3
    ·have h4b:(g.of_ == 3)=true:=by simp [h4]
     rw [show dN g=true by unfold dN;simp [h2,h4]];go_in;go_wp2_with fail;go_ret;exact ⟨rfl,ah (Below.refl _ _) _⟩
    ·have h4b:(g.of_ == 3)=false:=by simp [h4]
     rw [show dN g=false by unfold dN;simp [h2,h3,h4]];go_in;go_wp2_with fail;go_ret;exact ⟨rfl,ah (Below.refl _ _) _⟩
  ·have h2b:(g.st == 2)=false:=by simp [h2]
   by_cases h5:g.st=3
   ·have h5b:(g.st == 3)=true:=by simp [h5]
    by_cases h6:g.of_=4
    ·have h6b:(g.of_ == 4)=true:=by simp [h6]
     rw [show dN g=true by unfold dN;simp [h5,h6]];go_in;go_wp2_with fail;go_ret;exact ⟨rfl,ah (Below.refl _ _) _⟩
    ·have h6b:(g.of_ == 4)=false:=by simp [h6]
     rw [show dN g=false by unfold dN;simp [h5,h6]];go_in;go_wp2_with fail;go_ret;exact ⟨rfl,ah (Below.refl _ _) _⟩
   ·have h5b:(g.st == 3)=false:=by simp [h5]
    by_cases h7:g.st=4
    ·have h7b:(g.st == 4)=true:=by simp [h7]
     by_cases h8:g.of_=2
     ·have h8b:(g.of_ == 2)=true:=by simp [h8]
      rw [show dN g=true by unfold dN;simp [h7,h8]];go_in;go_wp2_with fail;go_ret;exact ⟨rfl,ah (Below.refl _ _) _⟩
     ·have h8b:(g.of_ == 2)=false:=by simp [h8]
      by_cases h9:g.of_=4
      ·have h9b:(g.of_ == 4)=true:=by simp [h9]
       rw [show dN g=true by unfold dN;simp [h7,h9]];go_in;go_wp2_with fail;go_ret;exact ⟨rfl,ah (Below.refl _ _) _⟩
      ·have h9b:(g.of_ == 4)=false:=by simp [h9]
       rw [show dN g=false by unfold dN;simp [h7,h8,h9]];go_in;go_wp2_with fail;go_ret;exact ⟨rfl,ah (Below.refl _ _) _⟩
    ·have h7b:(g.st == 4)=false:=by simp [h7]
     rw [show dN g=false by unfold dN;simp [h1,h2,h5,h7]];go_in;go_wp2_with fail;go_ret;exact ⟨rfl,ah (Below.refl _ _) _⟩
theorem Fj (W:World) (base bm:Nat) (g:Mg) (h:kk W base bm g):Calls Tryz.prog 321 #[.agg #[], .pointer (some ⟨bm,0,none⟩)] W fun e w'=>e = .returned (.bool (iI g))∧Below W.heap.size W w':=by
 obtain ⟨v4,v5,v14,v15,v16,hb,hr⟩:=h.at_;have c8:W.cell? ⟨bm,8,none⟩=some (.int .u8 g.st):=cell_of hb 8;have d8:=ca c8;clear h hb hr;by_cases h1:g.st=1
 ·have h1b:(g.st == 1)=true:=by simp [h1]
  rw [show iI g=true by unfold iI;simp [h1]];go_in;go_wp2_with fail;go_ret;exact ⟨rfl,ah (Below.refl _ _) _⟩
 ·have h1b:(g.st == 1)=false:=by simp [h1]
  by_cases h2:4≤g.st
  ·have h2b:decide (4≤g.st)=true:=by simp [h2]
   by_cases h3:g.st≤10
   ·have h3b:decide (g.st≤10)=true:=by simp [h3]
    rw [show iI g=true by unfold iI;simp [h2,h3]];go_in;go_wp2_with fail;go_ret;exact ⟨rfl,ah (Below.refl _ _) _⟩
   ·have h3b:decide (g.st≤10)=false:=by simp [h3]
    rw [show iI g=false by unfold iI;simp [h1,h2,h3]];go_in;go_wp2_with fail;go_ret;exact ⟨rfl,ah (Below.refl _ _) _⟩
  ·have h2b:decide (4≤g.st)=false:=by simp [h2]
   rw [show iI g=false by unfold iI;simp [h1,h2]];go_in;go_wp2_with fail;go_ret;exact ⟨rfl,ah (Below.refl _ _) _⟩
theorem vl (W:World) (base bm:Nat) (g:Mg) (h:kk W base bm g):Calls Tryz.prog 300 #[.agg #[], .pointer (some ⟨bm,0,none⟩)] W fun e w'=>e = .returned (.bool (nX g))∧Below W.heap.size W w':=by
 obtain ⟨v4,v5,v14,v15,v16,hb,hr⟩:=h.at_;have c9:W.cell? ⟨bm,9,none⟩=some (.int .u8 g.host):=cell_of hb 9;have d9:=ca c9;clear h hb hr;unfold nX;go_in;go_wp2_with fail;refine (wR g.host _).mono ?_;rintro r w6 ⟨rfl,rfl⟩;go_wp2_with fail;go_ret;exact ⟨rfl,ah (Below.refl _ _) _⟩
theorem xY (W:World) (base bm:Nat) (g:Mg) (h:kk W base bm g):Calls Tryz.prog 328 #[.agg #[], .pointer (some ⟨bm,0,none⟩)] W fun e w'=>e = .returned (.bool (oA g))∧Below W.heap.size W w':=by
 obtain ⟨v4,v5,v14,v15,v16,hb,hr⟩:=h.at_;obtain ⟨A16,c16,rfl⟩:=Kd.aG hr.r16;have c16:W.cell? ⟨bm,16,none⟩=some (.slice A16 g.pay.length c16):=cell_of hb 16;have d16:=ca c16;clear h hb hr;have e1:((0:Int)<(g.pay.length:Int))=(0<g.pay.length):=by simp
 have e2:((g.pay.length:Int)≤3072)=(g.pay.length≤3072):=by apply propext;omega
 unfold oA;generalize g.pay.length=n at c16 d16 e1 e2 ⊢;by_cases h1:0<n
 ·have h1b:decide ((0:Int)<(n:Int))=true:=by simpa using h1
  by_cases h2:n≤3072
  ·have h2b:decide ((n:Int)≤3072)=true:=by rw [decide_eq_true_eq];omega
   rw [show (decide (0<n)&&decide (n≤3072))=true by simp [h1,h2]];go_in;go_wp2_with fail;go_ret;exact ⟨rfl,ah (Below.refl _ _) _⟩
  ·have h2b:decide ((n:Int)≤3072)=false:=by rw [decide_eq_false_iff_not];omega
   rw [show (decide (0<n)&&decide (n≤3072))=false by simp [h1,h2]];go_in;go_wp2_with fail;go_ret;exact ⟨rfl,ah (Below.refl _ _) _⟩
 ·have h1b:decide ((0:Int)<(n:Int))=false:=by rw [decide_eq_false_iff_not];omega
  rw [show (decide (0<n)&&decide (n≤3072))=false by simp [h1]];go_in;go_wp2_with fail;go_ret;exact ⟨rfl,ah (Below.refl _ _) _⟩
theorem mC.below {W W':World} {base bc br:Nat} {size:Int} {bm:Nat} {g:Mg} {rest:List Int} {e:Int} (h:mC W base bc br size bm g rest e) (hb:Below W.heap.size W W'):mC W' base bc br size bm g rest e:=
 ⟨h.cu.mv (us:=[]) (Mv.cH hb) (by simp) (by simp) (by simp),h.ms.mv (us:=[]) (Mv.cH hb) (by simp) (by simp) (by simp) (by simp),Nat.le_trans h.b4 hb.size⟩
theorem small (S R bx:Nat) (upd:Mg→Int→Mg) (ok:Mg→Bool) (W:World) (base bc br:Nat) (size:Int) (bm:Nat) (g:Mg) (rest:List Int) (h:fH W base bc br size bm g rest) (hx:W.heap[bx]? = some (.cells #[.pointer (some ⟨bm,0,none⟩)] 273 (0,0)))
 (hSe:∀(xs:Array Value) (W1:World),(callFunc S xs).run Tryz.prog W1 = .ok (.enter S xs) W1) (hRe:∀(xs:Array Value) (W1:World),(callFunc R xs).run Tryz.prog W1 = .ok (.enter R xs) W1)
 (hS:∀(W1:World) (x:Int) (rest1:List Int) (e1:Int),mC W1 base bc br size bm g rest1 e1→W1.heap[bx]? = some (.cells #[.pointer (some ⟨bm,0,none⟩)] 273 (0,0))→Calls Tryz.prog S #[.int .u8 x, .pointer (some ⟨bx,0,none⟩)] W1 fun e w'=>e = .returned (.tuple #[])∧mC w' base bc br size bm (upd g x) rest1 e1∧∀W0,fZ W0 W1 base→fZ W0 w' base)
 (hR:∀(W1:World) (x:Int),kk W1 base bm (upd g x)→Calls Tryz.prog R #[.agg #[], .pointer (some ⟨bm,0,none⟩)] W1 fun e w'=>e = .returned (.bool (ok (upd g x)))∧Below W1.heap.size W1 w') :
 Calls Tryz.prog 274 #[.pointer (some ⟨bc,0,none⟩), .pointer (some ⟨bm,0,none⟩), .func (.func S) #[] #[.pointer (some ⟨bx,0,none⟩)], .func (.func R) #[.agg #[]] #[]] W (eG W base bc br size bm ((dQ 1 rest).bind fun q=>if ok (upd g q.1)=true then some (upd g q.1,q.2) else none)):=by
 have HH:=aa h;have HSE:=aa hSe;have HRE:=aa hRe;have HSS:=aa hS;have HRR:=aa hR;have X0:=aa hx;clear hSe hRe hS hR hx;have RD:=aa (fun (W1:World) (hW:fH W1 base bc br size bm g rest)=>Bz PT base br rest 0 W1 hW.cu.rd hW.b2 hW.b4 (by decide) hW.Af);have HS:=aa (And.intro (gC (n:=1) (s:=(rest,0)) h.Af) (cw (n:=1) (s:=(rest,0)) h.Af));unfold dQ pR;generalize aZ 1 (rest,0)=q at RD HS ⊢;obtain ⟨x,rest',e'⟩:=q;simp only at RD HS ⊢;clear h;generalize hO:Option.bind _ _=o;have HO:=aa hO;clear hO;go_in;go_wp2_with fail;have P0:=aa HH.1;have F0:=aa (fZ.refl W base);refine (at_ bc br size rest 0 W P0.1.cu P0.1.s0 P0.1.s1).mono ?_;rintro r w2 ⟨rfl,m2,rfl⟩;have c0:(W.drewN m2).cell? ⟨bc,0,none⟩=some (.pointer (some ⟨br,0,none⟩)):=cell_of P0.1.cu.cur 0;have P2:=aa (P0.1.drewN m2);have F2:=aa (F0.1.drewN m2);go_wp2_with fail;refine (RD.1 _ P2.1).mono ?_;rintro r w3 ⟨rfl,hD⟩;have F3:=aa (F2.1.read hD);have R3:=aa (P2.1.read hD);have D3:=aa hD.mv;clear hD F0 c0 P0;go_wp2_with fail;have X3:=aa (D3.1.at (show (W.drewN m2).heap[bx]? = _ from X0.1) (by decide));clear X0 D3;rw [HSE.1,Oper.upon_enter];refine (HSS.1 w3 x rest' e' R3.1 X3.1).mono ?_;rintro r w4 ⟨rfl,hP,hF⟩;have R4:=aa hP;have F4:=aa (hF W F3.1);clear hP hF R3 F3 X3 HSS;go_wp2_with fail;by_cases he:e'=0
 case neg=>
  (with_reducible refine (eM _ bc br size rest' e' w4 R4.1.cu he).mono ?_);rintro r w5 ⟨⟨at_,why,rfl,hw⟩,rfl⟩;go_wp2_with fail;exact ⟨rfl,eG.no F4.1 (by rw [←HO.1];simp [he]) (cV.mk' hw)⟩
 subst he;(with_reducible refine (eN _ bc br size rest' w4 R4.1.cu).mono ?_);rintro r w5 ⟨rfl,rfl⟩;go_wp2_with fail;rw [HRE.1,Oper.upon_enter];refine (HRR.1 _ x R4.1.ms).mono ?_;rintro r w6 ⟨rfl,hB⟩;have R6:=aa (R4.1.below hB);have F6:=aa (F4.1.grow hB R4.1.b4);clear hB R4 F4 HRR;go_wp2_with fail;by_cases hk:ok (upd g x)=true
 case neg=>
  rw [show ok (upd g x)=false by simpa using hk];(with_reducible refine (dU _ _ _ (by decide)).mono ?_);rintro r w8 ⟨⟨at_,why,rfl,hw⟩,rfl⟩;go_wp2_with fail;exact ⟨rfl,eG.no F6.1 (by rw [←HO.1];simp [hk]) (cV.mk' hw)⟩
 rw [hk];(with_reducible refine (dM _ _ _).mono ?_);rintro r w8 ⟨rfl,rfl⟩;go_wp2_with fail;go_end0;exact eG.ok F6.1 (by rw [←HO.1];simp [hk]) (R6.1.mQ HS.1.2 HH.1)
theorem uz (W:World) (base bc br:Nat) (size:Int) (bm:Nat) (g:Mg) (rest:List Int) (e:Int) (bx:Nat) (x:Int) (hb:base≤bm) (h:mC W base bc br size bm g rest e) (hx:W.heap[bx]? = some (.cells #[.pointer (some ⟨bm,0,none⟩)] 273 (0,0))) :
 Calls Tryz.prog 275 #[.int .u8 x, .pointer (some ⟨bx,0,none⟩)] W fun e' w'=>e' = .returned (.tuple #[])∧mC w' base bc br size bm { g with limit:=x } rest e∧∀W0,fZ W0 W base→fZ W0 w' base:=by
 have R3:=aa h;have c0:W.cell? ⟨bx,0,none⟩=some (.pointer (some ⟨bm,0,none⟩)):=cell_of hx 0;obtain ⟨v4,v5,v14,v15,v16,hb',hr⟩:=h.ms.at_;have M3:=aa hb';have MR:=aa hr;have HB:=aa hb;clear h hx hb' hr hb;go_in;go_wp2_with ((with_reducible refine gS 6 4 rfl ?_);refine sC 13 (.int .u8 x) ((fF { g with limit:=x } v4 v5 v14 v15 v16).toArray) M3.1 ?_;intro w4 W4 G4);go_end0;exact ⟨rfl,R3.1.set G4.1 (g':={ g with limit:=x }) ⟨v4,v5,v14,v15,v16,W4.1,(MR.1.grown G4.1).to rfl rfl rfl rfl rfl⟩,fun W0 hF=>hF.set G4.1 M3.1 (by decide) HB.1 R3.1.b4⟩
theorem tY (W:World) (base bc br:Nat) (size:Int) (bm:Nat) (g:Mg) (rest:List Int) (h:fH W base bc br size bm g rest) :
 Calls Tryz.prog 272 #[.agg #[], .pointer (some ⟨bc,0,none⟩), .pointer (some ⟨bm,0,none⟩)] W (eG W base bc br size bm ((dQ 1 rest).bind fun q=>if iv { g with limit:=q.1 }=true then some ({ g with limit:=q.1 },q.2) else none)):=by
 have HH:=aa h;clear h;generalize hO:Option.bind _ _=o;have HO:=aa hO;clear hO;go_in;go_wp2_with fail;have B1:=ah (ah (Below.refl W.heap.size W) (.cells #[] 291)) (.cells #[.pointer (some ⟨bm,0,none⟩)] 273);have P0:=aa (HH.1.below B1);have F0:=aa ((fZ.refl W base).grow B1 HH.1.b4);have e1:(W.alloc (.cells #[] 291)).heap.size=W.heap.size+1:=cW _;have X0:=aJ (W.alloc (.cells #[] 291)) (.cells #[.pointer (some ⟨bm,0,none⟩)] 273);rw [e1] at X0;replace X0:=aa X0;clear e1 B1;generalize (W.alloc (.cells #[] 291)).alloc (.cells #[.pointer (some ⟨bm,0,none⟩)] 273)=W1 at P0 F0 X0 ⊢;have SM:=aa (show Calls Tryz.prog 274 #[.pointer (some ⟨bc,0,none⟩), .pointer (some ⟨bm,0,none⟩), .func (.func 275) #[] #[.pointer (some ⟨W.heap.size+1,0,none⟩)], .func (.func 270) #[.agg #[]] #[]] W1 (eG W1 base bc br size bm o) by
  rw [←HO.1];exact small 275 270 (W.heap.size+1) (fun g x=>{ g with limit:=x }) iv W1 base bc br size bm g rest P0.1 X0.1 (fun _ _=>rfl) (fun _ _=>rfl) (fun W1 x rest1 e1 h1 h2=>uz W1 base bc br size bm g rest1 e1 _ x HH.1.b3 h1 h2) (fun W1 x h1=>tA W1 base bm _ h1))
 refine SM.1.mono ?_;rintro r w5 ⟨hF,hres⟩;have F5:=aa (F0.1.trans hF);clear hF SM X0 P0 F0;rcases o with _|⟨g',rest'⟩
 ·obtain ⟨at_,why,rfl,hw⟩:=hres;go_wp2_with fail;exact ⟨rfl,eG.no F5.1 rfl (cV.mk' hw)⟩
 ·obtain ⟨rfl,hP⟩:=hres;have P5:=aa hP;clear hP;go_wp2_with fail;go_end0;exact eG.ok F5.1 rfl P5.1
theorem C4 (W:World) (base bc br:Nat) (size:Int) (bm:Nat) (g:Mg) (rest:List Int) (e:Int) (bx:Nat) (x:Int) (hb:base≤bm) (h:mC W base bc br size bm g rest e) (hx:W.heap[bx]? = some (.cells #[.pointer (some ⟨bm,0,none⟩)] 273 (0,0))) :
 Calls Tryz.prog 282 #[.int .u8 x, .pointer (some ⟨bx,0,none⟩)] W fun e' w'=>e' = .returned (.tuple #[])∧mC w' base bc br size bm { g with of_:=x } rest e∧∀W0,fZ W0 W base→fZ W0 w' base:=by
 have R3:=aa h;have c0:W.cell? ⟨bx,0,none⟩=some (.pointer (some ⟨bm,0,none⟩)):=cell_of hx 0;obtain ⟨v4,v5,v14,v15,v16,hb',hr⟩:=h.ms.at_;have M3:=aa hb';have MR:=aa hr;have HB:=aa hb;clear h hx hb' hr hb;go_in;go_wp2_with ((with_reducible refine gS 6 4 rfl ?_);refine sC 7 (.int .u8 x) ((fF { g with of_:=x } v4 v5 v14 v15 v16).toArray) M3.1 ?_;intro w4 W4 G4);go_end0;exact ⟨rfl,R3.1.set G4.1 (g':={ g with of_:=x }) ⟨v4,v5,v14,v15,v16,W4.1,(MR.1.grown G4.1).to rfl rfl rfl rfl rfl⟩,fun W0 hF=>hF.set G4.1 M3.1 (by decide) HB.1 R3.1.b4⟩
theorem AK (W:World) (base bc br:Nat) (size:Int) (bm:Nat) (g:Mg) (rest:List Int) (h:fH W base bc br size bm g rest) :
 Calls Tryz.prog 280 #[.agg #[], .pointer (some ⟨bc,0,none⟩), .pointer (some ⟨bm,0,none⟩)] W (eG W base bc br size bm ((dQ 1 rest).bind fun q=>if od { g with of_:=q.1 }=true then some ({ g with of_:=q.1 },q.2) else none)):=by
 have HH:=aa h;clear h;generalize hO:Option.bind _ _=o;have HO:=aa hO;clear hO;go_in;go_wp2_with fail;have B1:=ah (ah (Below.refl W.heap.size W) (.cells #[] 292)) (.cells #[.pointer (some ⟨bm,0,none⟩)] 273);have P0:=aa (HH.1.below B1);have F0:=aa ((fZ.refl W base).grow B1 HH.1.b4);have e1:(W.alloc (.cells #[] 292)).heap.size=W.heap.size+1:=cW _;have X0:=aJ (W.alloc (.cells #[] 292)) (.cells #[.pointer (some ⟨bm,0,none⟩)] 273);rw [e1] at X0;replace X0:=aa X0;clear e1 B1;generalize (W.alloc (.cells #[] 292)).alloc (.cells #[.pointer (some ⟨bm,0,none⟩)] 273)=W1 at P0 F0 X0 ⊢;have SM:=aa (show Calls Tryz.prog 274 #[.pointer (some ⟨bc,0,none⟩), .pointer (some ⟨bm,0,none⟩), .func (.func 282) #[] #[.pointer (some ⟨W.heap.size+1,0,none⟩)], .func (.func 278) #[.agg #[]] #[]] W1 (eG W1 base bc br size bm o) by
  rw [←HO.1];exact small 282 278 (W.heap.size+1) (fun g x=>{ g with of_:=x }) od W1 base bc br size bm g rest P0.1 X0.1 (fun _ _=>rfl) (fun _ _=>rfl) (fun W1 x rest1 e1 h1 h2=>C4 W1 base bc br size bm g rest1 e1 _ x HH.1.b3 h1 h2) (fun W1 x h1=>Bm W1 base bm _ h1))
 refine SM.1.mono ?_;rintro r w5 ⟨hF,hres⟩;have F5:=aa (F0.1.trans hF);clear hF SM X0 P0 F0;rcases o with _|⟨g',rest'⟩
 ·obtain ⟨at_,why,rfl,hw⟩:=hres;go_wp2_with fail;exact ⟨rfl,eG.no F5.1 rfl (cV.mk' hw)⟩
 ·obtain ⟨rfl,hP⟩:=hres;have P5:=aa hP;clear hP;go_wp2_with fail;go_end0;exact eG.ok F5.1 rfl P5.1
theorem wI (W:World) (base bc br:Nat) (size:Int) (bm:Nat) (g:Mg) (rest:List Int) (e:Int) (bx:Nat) (x:Int) (hb:base≤bm) (h:mC W base bc br size bm g rest e) (hx:W.heap[bx]? = some (.cells #[.pointer (some ⟨bm,0,none⟩)] 273 (0,0))) :
 Calls Tryz.prog 289 #[.int .u8 x, .pointer (some ⟨bx,0,none⟩)] W fun e' w'=>e' = .returned (.tuple #[])∧mC w' base bc br size bm { g with st:=x } rest e∧∀W0,fZ W0 W base→fZ W0 w' base:=by
 have R3:=aa h;have c0:W.cell? ⟨bx,0,none⟩=some (.pointer (some ⟨bm,0,none⟩)):=cell_of hx 0;obtain ⟨v4,v5,v14,v15,v16,hb',hr⟩:=h.ms.at_;have M3:=aa hb';have MR:=aa hr;have HB:=aa hb;clear h hx hb' hr hb;go_in;go_wp2_with ((with_reducible refine gS 6 4 rfl ?_);refine sC 8 (.int .u8 x) ((fF { g with st:=x } v4 v5 v14 v15 v16).toArray) M3.1 ?_;intro w4 W4 G4);go_end0;exact ⟨rfl,R3.1.set G4.1 (g':={ g with st:=x }) ⟨v4,v5,v14,v15,v16,W4.1,(MR.1.grown G4.1).to rfl rfl rfl rfl rfl⟩,fun W0 hF=>hF.set G4.1 M3.1 (by decide) HB.1 R3.1.b4⟩
theorem tJ (W:World) (base bc br:Nat) (size:Int) (bm:Nat) (g:Mg) (rest:List Int) (h:fH W base bc br size bm g rest) :
 Calls Tryz.prog 287 #[.agg #[], .pointer (some ⟨bc,0,none⟩), .pointer (some ⟨bm,0,none⟩)] W (eG W base bc br size bm ((dQ 1 rest).bind fun q=>if dN { g with st:=q.1 }=true then some ({ g with st:=q.1 },q.2) else none)):=by
 have HH:=aa h;clear h;generalize hO:Option.bind _ _=o;have HO:=aa hO;clear hO;go_in;go_wp2_with fail;have B1:=ah (ah (Below.refl W.heap.size W) (.cells #[] 293)) (.cells #[.pointer (some ⟨bm,0,none⟩)] 273);have P0:=aa (HH.1.below B1);have F0:=aa ((fZ.refl W base).grow B1 HH.1.b4);have e1:(W.alloc (.cells #[] 293)).heap.size=W.heap.size+1:=cW _;have X0:=aJ (W.alloc (.cells #[] 293)) (.cells #[.pointer (some ⟨bm,0,none⟩)] 273);rw [e1] at X0;replace X0:=aa X0;clear e1 B1;generalize (W.alloc (.cells #[] 293)).alloc (.cells #[.pointer (some ⟨bm,0,none⟩)] 273)=W1 at P0 F0 X0 ⊢;have SM:=aa (show Calls Tryz.prog 274 #[.pointer (some ⟨bc,0,none⟩), .pointer (some ⟨bm,0,none⟩), .func (.func 289) #[] #[.pointer (some ⟨W.heap.size+1,0,none⟩)], .func (.func 285) #[.agg #[]] #[]] W1 (eG W1 base bc br size bm o) by
  rw [←HO.1];exact small 289 285 (W.heap.size+1) (fun g x=>{ g with st:=x }) dN W1 base bc br size bm g rest P0.1 X0.1 (fun _ _=>rfl) (fun _ _=>rfl) (fun W1 x rest1 e1 h1 h2=>wI W1 base bc br size bm g rest1 e1 _ x HH.1.b3 h1 h2) (fun W1 x h1=>ul W1 base bm _ h1))
 refine SM.1.mono ?_;rintro r w5 ⟨hF,hres⟩;have F5:=aa (F0.1.trans hF);clear hF SM X0 P0 F0;rcases o with _|⟨g',rest'⟩
 ·obtain ⟨at_,why,rfl,hw⟩:=hres;go_wp2_with fail;exact ⟨rfl,eG.no F5.1 rfl (cV.mk' hw)⟩
 ·obtain ⟨rfl,hP⟩:=hres;have P5:=aa hP;clear hP;go_wp2_with fail;go_end0;exact eG.ok F5.1 rfl P5.1
theorem yE (W:World) (base bc br:Nat) (size:Int) (bm:Nat) (g:Mg) (rest:List Int) (e:Int) (bx:Nat) (x:Int) (hb:base≤bm) (h:mC W base bc br size bm g rest e) (hx:W.heap[bx]? = some (.cells #[.pointer (some ⟨bm,0,none⟩)] 273 (0,0))) :
 Calls Tryz.prog 304 #[.int .u8 x, .pointer (some ⟨bx,0,none⟩)] W fun e' w'=>e' = .returned (.tuple #[])∧mC w' base bc br size bm { g with host:=x } rest e∧∀W0,fZ W0 W base→fZ W0 w' base:=by
 have R3:=aa h;have c0:W.cell? ⟨bx,0,none⟩=some (.pointer (some ⟨bm,0,none⟩)):=cell_of hx 0;obtain ⟨v4,v5,v14,v15,v16,hb',hr⟩:=h.ms.at_;have M3:=aa hb';have MR:=aa hr;have HB:=aa hb;clear h hx hb' hr hb;go_in;go_wp2_with ((with_reducible refine gS 6 4 rfl ?_);refine sC 9 (.int .u8 x) ((fF { g with host:=x } v4 v5 v14 v15 v16).toArray) M3.1 ?_;intro w4 W4 G4);go_end0;exact ⟨rfl,R3.1.set G4.1 (g':={ g with host:=x }) ⟨v4,v5,v14,v15,v16,W4.1,(MR.1.grown G4.1).to rfl rfl rfl rfl rfl⟩,fun W0 hF=>hF.set G4.1 M3.1 (by decide) HB.1 R3.1.b4⟩
theorem uA (W:World) (base bc br:Nat) (size:Int) (bm:Nat) (g:Mg) (rest:List Int) (h:fH W base bc br size bm g rest) :
 Calls Tryz.prog 302 #[.agg #[], .pointer (some ⟨bc,0,none⟩), .pointer (some ⟨bm,0,none⟩)] W (eG W base bc br size bm ((dQ 1 rest).bind fun q=>if nX { g with host:=q.1 }=true then some ({ g with host:=q.1 },q.2) else none)):=by
 have HH:=aa h;clear h;generalize hO:Option.bind _ _=o;have HO:=aa hO;clear hO;go_in;go_wp2_with fail;have B1:=ah (ah (Below.refl W.heap.size W) (.cells #[] 295)) (.cells #[.pointer (some ⟨bm,0,none⟩)] 273);have P0:=aa (HH.1.below B1);have F0:=aa ((fZ.refl W base).grow B1 HH.1.b4);have e1:(W.alloc (.cells #[] 295)).heap.size=W.heap.size+1:=cW _;have X0:=aJ (W.alloc (.cells #[] 295)) (.cells #[.pointer (some ⟨bm,0,none⟩)] 273);rw [e1] at X0;replace X0:=aa X0;clear e1 B1;generalize (W.alloc (.cells #[] 295)).alloc (.cells #[.pointer (some ⟨bm,0,none⟩)] 273)=W1 at P0 F0 X0 ⊢;have SM:=aa (show Calls Tryz.prog 274 #[.pointer (some ⟨bc,0,none⟩), .pointer (some ⟨bm,0,none⟩), .func (.func 304) #[] #[.pointer (some ⟨W.heap.size+1,0,none⟩)], .func (.func 300) #[.agg #[]] #[]] W1 (eG W1 base bc br size bm o) by
  rw [←HO.1];exact small 304 300 (W.heap.size+1) (fun g x=>{ g with host:=x }) nX W1 base bc br size bm g rest P0.1 X0.1 (fun _ _=>rfl) (fun _ _=>rfl) (fun W1 x rest1 e1 h1 h2=>yE W1 base bc br size bm g rest1 e1 _ x HH.1.b3 h1 h2) (fun W1 x h1=>vl W1 base bm _ h1))
 refine SM.1.mono ?_;rintro r w5 ⟨hF,hres⟩;have F5:=aa (F0.1.trans hF);clear hF SM X0 P0 F0;rcases o with _|⟨g',rest'⟩
 ·obtain ⟨at_,why,rfl,hw⟩:=hres;go_wp2_with fail;exact ⟨rfl,eG.no F5.1 rfl (cV.mk' hw)⟩
 ·obtain ⟨rfl,hP⟩:=hres;have P5:=aa hP;clear hP;go_wp2_with fail;go_end0;exact eG.ok F5.1 rfl P5.1
theorem xo (W:World) (base bc br:Nat) (size:Int) (bm:Nat) (g:Mg) (rest:List Int) (e:Int) (bx:Nat) (x:Int) (hb:base≤bm) (h:mC W base bc br size bm g rest e) (hx:W.heap[bx]? = some (.cells #[.pointer (some ⟨bm,0,none⟩)] 273 (0,0))) :
 Calls Tryz.prog 325 #[.int .u8 x, .pointer (some ⟨bx,0,none⟩)] W fun e' w'=>e' = .returned (.tuple #[])∧mC w' base bc br size bm { g with st:=x } rest e∧∀W0,fZ W0 W base→fZ W0 w' base:=by
 have R3:=aa h;have c0:W.cell? ⟨bx,0,none⟩=some (.pointer (some ⟨bm,0,none⟩)):=cell_of hx 0;obtain ⟨v4,v5,v14,v15,v16,hb',hr⟩:=h.ms.at_;have M3:=aa hb';have MR:=aa hr;have HB:=aa hb;clear h hx hb' hr hb;go_in;go_wp2_with ((with_reducible refine gS 6 4 rfl ?_);refine sC 8 (.int .u8 x) ((fF { g with st:=x } v4 v5 v14 v15 v16).toArray) M3.1 ?_;intro w4 W4 G4);go_end0;exact ⟨rfl,R3.1.set G4.1 (g':={ g with st:=x }) ⟨v4,v5,v14,v15,v16,W4.1,(MR.1.grown G4.1).to rfl rfl rfl rfl rfl⟩,fun W0 hF=>hF.set G4.1 M3.1 (by decide) HB.1 R3.1.b4⟩
theorem vR (W:World) (base bc br:Nat) (size:Int) (bm:Nat) (g:Mg) (rest:List Int) (h:fH W base bc br size bm g rest) :
 Calls Tryz.prog 323 #[.agg #[], .pointer (some ⟨bc,0,none⟩), .pointer (some ⟨bm,0,none⟩)] W (eG W base bc br size bm ((dQ 1 rest).bind fun q=>if iI { g with st:=q.1 }=true then some ({ g with st:=q.1 },q.2) else none)):=by
 have HH:=aa h;clear h;generalize hO:Option.bind _ _=o;have HO:=aa hO;clear hO;go_in;go_wp2_with fail;have B1:=ah (ah (Below.refl W.heap.size W) (.cells #[] 298)) (.cells #[.pointer (some ⟨bm,0,none⟩)] 273);have P0:=aa (HH.1.below B1);have F0:=aa ((fZ.refl W base).grow B1 HH.1.b4);have e1:(W.alloc (.cells #[] 298)).heap.size=W.heap.size+1:=cW _;have X0:=aJ (W.alloc (.cells #[] 298)) (.cells #[.pointer (some ⟨bm,0,none⟩)] 273);rw [e1] at X0;replace X0:=aa X0;clear e1 B1;generalize (W.alloc (.cells #[] 298)).alloc (.cells #[.pointer (some ⟨bm,0,none⟩)] 273)=W1 at P0 F0 X0 ⊢;have SM:=aa (show Calls Tryz.prog 274 #[.pointer (some ⟨bc,0,none⟩), .pointer (some ⟨bm,0,none⟩), .func (.func 325) #[] #[.pointer (some ⟨W.heap.size+1,0,none⟩)], .func (.func 321) #[.agg #[]] #[]] W1 (eG W1 base bc br size bm o) by
  rw [←HO.1];exact small 325 321 (W.heap.size+1) (fun g x=>{ g with st:=x }) iI W1 base bc br size bm g rest P0.1 X0.1 (fun _ _=>rfl) (fun _ _=>rfl) (fun W1 x rest1 e1 h1 h2=>xo W1 base bc br size bm g rest1 e1 _ x HH.1.b3 h1 h2) (fun W1 x h1=>Fj W1 base bm _ h1))
 refine SM.1.mono ?_;rintro r w5 ⟨hF,hres⟩;have F5:=aa (F0.1.trans hF);clear hF SM X0 P0 F0;rcases o with _|⟨g',rest'⟩
 ·obtain ⟨at_,why,rfl,hw⟩:=hres;go_wp2_with fail;exact ⟨rfl,eG.no F5.1 rfl (cV.mk' hw)⟩
 ·obtain ⟨rfl,hP⟩:=hres;have P5:=aa hP;clear hP;go_wp2_with fail;go_end0;exact eG.ok F5.1 rfl P5.1
def jH (l:List Int):Option (Bool × List Int):=pR (lQ (l,0))
theorem qB (l:List Int) (h:aq l):aq (lQ (l,0)).2.1:=by
 unfold lQ;rw [if_neg (by simp)];split
 ·exact h
 ·exact cw (n:=1) (s:=(l,0)) h
theorem xC (W:World) (base bc br:Nat) (size:Int) (bm:Nat) (g:Mg) (rest:List Int) (h:fH W base bc br size bm g rest) :
 Calls Tryz.prog 260 #[.agg #[], .pointer (some ⟨bc,0,none⟩), .pointer (some ⟨bm,0,none⟩)] W (eG W base bc br size bm ((jH rest).bind fun q=>if q.1=true then (fJ 64 q.2).bind fun b=>some ({ g with has:=true,old:=b.1 },b.2) else some ({ g with has:=false },q.2))):=by
 have HH:=aa h;have RD:=aa (fun (W1:World) (hW:fH W1 base bc br size bm g rest)=>C8 PT base br rest 0 W1 hW.cu.rd hW.b2 hW.b4 (by decide) hW.Af);have HS:=aa (qB rest h.Af);unfold jH pR;generalize lQ (rest,0)=q at RD HS ⊢;obtain ⟨x,rest',e'⟩:=q;simp only at RD HS ⊢;clear h;generalize hO:Option.bind _ _=o;have HO:=aa hO;clear hO;go_in;go_wp2_with fail;have B0:=aa (aJ W (.cells #[] 289));have P0:=aa (HH.1.below (ah (Below.refl _ _) (.cells #[] 289)));have F0:=aa ((fZ.refl W base).grow (ah (Below.refl _ _) (.cells #[] 289)) HH.1.b4);generalize W.alloc (.cells #[] 289)=W1 at B0 P0 F0 ⊢;clear B0;refine (at_ bc br size rest 0 W1 P0.1.cu P0.1.s0 P0.1.s1).mono ?_;rintro r w2 ⟨rfl,m2,rfl⟩;have c0:(W1.drewN m2).cell? ⟨bc,0,none⟩=some (.pointer (some ⟨br,0,none⟩)):=cell_of P0.1.cu.cur 0;have P2:=aa (P0.1.drewN m2);have F2:=aa (F0.1.drewN m2);go_wp2_with fail;refine (RD.1 _ P2.1).mono ?_;rintro r w3 ⟨rfl,hD⟩;have F3:=aa (F2.1.read hD);have R3:=aa (P2.1.read hD);clear hD F0 c0 P0;obtain ⟨v4,v5,v14,v15,v16,hb,hr⟩:=R3.1.ms.at_;have M3:=aa hb;have MR:=aa hr;clear hb hr;go_wp2_with ((with_reducible refine gS 16 14 rfl ?_);refine sC 6 (.bool x) ((fF { g with has:=x } v4 v5 v14 v15 v16).toArray) M3.1 ?_;intro w4 hW hG;have R4:=aa (R3.1.set hG.1 (g':={ g with has:=x }) ⟨v4,v5,v14,v15,v16,hW.1,(MR.1.grown hG.1).to rfl rfl rfl rfl rfl⟩);have F4:=aa (F3.1.set hG.1 M3.1 (by decide) HH.1.b3 R3.1.b4));clear R3 F3 M3 MR;by_cases he:e'=0
 case neg=>
  (with_reducible refine (eM _ bc br size rest' e' w4 R4.1.cu he).mono ?_);rintro r w5 ⟨⟨at_,why,rfl,hw⟩,rfl⟩;go_wp2_with fail;exact ⟨rfl,eG.no F4.1 (by rw [←HO.1];simp [he]) (cV.mk' hw)⟩
 subst he;(with_reducible refine (eN _ bc br size rest' w4 R4.1.cu).mono ?_);rintro r w5 ⟨rfl,rfl⟩;obtain ⟨u4,u5,u14,u15,u16,hb,hr⟩:=R4.1.ms.at_;have k6:w5.cell? ⟨bm,6,none⟩=some (.bool x):=cell_of hb 6;clear hb hr;cases x
 ·go_wp2_with fail;go_end0;exact eG.ok F4.1 (by rw [←HO.1];simp) (R4.1.mQ HS.1 HH.1)
 have P4:=aa (R4.1.mQ HS.1 HH.1);clear R4;go_wp2_with fail;refine (nA 64 (by omega) w5 base bc br size bm { g with has:=true } rest' P4.1).mono ?_;rintro r w6 ⟨hF,⟨hn,⟨at_,why,rfl,hw⟩⟩|⟨xs,rest2,vx,hn,rfl,hrow,hP, -⟩⟩
 ·have HN:=aa hn;have F5:=aa (F4.1.trans hF);clear hn hF;go_wp2_with fail;exact ⟨rfl,eG.no F5.1 (by rw [←HO.1];simp [HN.1]) (cV.mk' hw)⟩
 have HN:=aa hn;have F5:=aa (F4.1.trans hF);have P5:=aa hP;have V5:=aa (my hrow P4.1.b4 P4.1.ms);obtain ⟨vA,vc,rfl⟩:=Kd.aG hrow;have R5:=aa (show mC w6 base bc br size bm { g with has:=true } rest2 0 from ⟨hP.cu,hP.ms,hP.b4⟩);clear hn hF hP hrow F4 P4 k6;obtain ⟨v4,v5,v14,v15,v16,hb,hr⟩:=R5.1.ms.at_;have M5:=aa hb;have MR:=aa hr;clear hb hr;go_wp2_with ((with_reducible refine gS 28 26 rfl ?_);refine sC 5 (.slice vA xs.length vc) ((fF { g with has:=true,old:=xs } v4 (.slice vA xs.length vc) v14 v15 v16).toArray) M5.1 ?_;intro w7 hW hG;have R7:=aa (R5.1.set hG.1 (g':={ g with has:=true,old:=xs }) ⟨v4, .slice vA xs.length vc,v14,v15,v16,hW.1,⟨(MR.1.grown hG.1).r4,Kd.eL V5.1 hG.1 (fun k hk e=>hk (by injection e)),(MR.1.grown hG.1).r14,(MR.1.grown hG.1).r15,(MR.1.grown hG.1).r16⟩⟩);have F7:=aa (F5.1.set hG.1 M5.1 (by decide) HH.1.b3 R5.1.b4));go_end0;exact eG.ok F7.1 (by rw [←HO.1];simp [HN.1]) (R7.1.mQ P5.1.Af HH.1)
theorem xL (W:World) (base bc br:Nat) (size:Int) (bm:Nat) (g:Mg) (rest:List Int) (h:fH W base bc br size bm g rest) :
 Calls Tryz.prog 330 #[.agg #[], .pointer (some ⟨bc,0,none⟩), .pointer (some ⟨bm,0,none⟩)] W (eG W base bc br size bm ((fJ 3072 rest).bind fun q=>if oA { g with pay:=q.1 }=true then some ({ g with pay:=q.1 },q.2) else none)):=by
 have HH:=aa h;clear h;generalize hO:Option.bind _ _=o;have HO:=aa hO;clear hO;go_in;go_wp2_with fail;have B0:=aa (aJ W (.cells #[] 299));have P0:=aa (HH.1.below (ah (Below.refl _ _) (.cells #[] 299)));have F0:=aa ((fZ.refl W base).grow (ah (Below.refl _ _) (.cells #[] 299)) HH.1.b4);generalize W.alloc (.cells #[] 299)=W1 at B0 P0 F0 ⊢;generalize W.heap.size=b0 at B0 ⊢;refine (at_ bc br size rest 0 W1 P0.1.cu P0.1.s0 P0.1.s1).mono ?_;rintro r w2 ⟨rfl,m2,rfl⟩;have c0:(W1.drewN m2).cell? ⟨bc,0,none⟩=some (.pointer (some ⟨br,0,none⟩)):=cell_of P0.1.cu.cur 0;have P2:=aa (P0.1.drewN m2);have F2:=aa (F0.1.drewN m2);have B2:=aa (show (W1.drewN m2).heap[b0]? = some (.cells #[] 299 (0,0)) from B0.1);clear P0 F0 B0 c0;go_wp2_with fail;refine (nA 3072 (by omega) _ base bc br size bm g rest P2.1).mono ?_;rintro r w6 ⟨hF,⟨hn,⟨at_,why,rfl,hw⟩⟩|⟨xs,rest2,vx,hn,rfl,hrow,hP,hT⟩⟩
 ·have HN:=aa hn;have F5:=aa (F2.1.trans hF);clear hn hF;go_wp2_with fail;exact ⟨rfl,eG.no F5.1 (by rw [←HO.1];simp [HN.1]) (cV.mk' hw)⟩
 have HN:=aa hn;have F5:=aa (F2.1.trans hF);have Y5:=aa hP.Af;have P5:=aa hP;have B5:=aa (hT.at B2.1 (by decide));have V5:=aa (my hrow P2.1.b4 P2.1.ms);obtain ⟨vA,vc,rfl⟩:=Kd.aG hrow;have R5:=aa (show mC w6 base bc br size bm g rest2 0 from ⟨hP.cu,hP.ms,hP.b4⟩);clear hn hF hP hrow hT F2 P2;obtain ⟨v4,v5,v14,v15,v16,hb,hr⟩:=R5.1.ms.at_;have M5:=aa hb;have MR:=aa hr;clear hb hr;go_wp2_with ((with_reducible refine gS 13 11 rfl ?_);refine sC 16 (.slice vA xs.length vc) ((fF { g with pay:=xs } v4 v5 v14 v15 (.slice vA xs.length vc)).toArray) M5.1 ?_;intro w7 hW hG;have R7:=aa (R5.1.set hG.1 (g':={ g with pay:=xs }) ⟨v4,v5,v14,v15, .slice vA xs.length vc,hW.1,⟨(MR.1.grown hG.1).r4,(MR.1.grown hG.1).r5,(MR.1.grown hG.1).r14,(MR.1.grown hG.1).r15,Kd.eL V5.1 hG.1 (fun k hk e=>hk (by injection e))⟩⟩);have F7:=aa (F5.1.set hG.1 M5.1 (by decide) HH.1.b3 R5.1.b4);have B7:=aa ((Mv.bG (ts:=PT) hG.1 M5.1 (by decide)).at B5.1 (by decide)));refine (xY w7 base bm _ R7.1.ms).mono ?_;rintro r w8 ⟨rfl,hB⟩;have R8:=aa (R7.1.below hB);have F8:=aa (F7.1.grow hB R7.1.b4);clear hB R7 F7 B7 F5 P5 B5 V5 R5 M5 MR;go_wp2_with fail;by_cases hk:oA { g with pay:=xs }=true
 case neg=>
  rw [show oA { g with pay:=xs }=false by simpa using hk];(with_reducible refine (dU _ _ _ (by decide)).mono ?_);rintro r w9 ⟨⟨at_,why,rfl,hw⟩,rfl⟩;go_wp2_with fail;exact ⟨rfl,eG.no F8.1 (by rw [←HO.1,HN.1,aj];exact if_neg hk) (cV.mk' hw)⟩
 rw [hk];(with_reducible refine (dM _ _ _).mono ?_);rintro r w9 ⟨rfl,rfl⟩;go_wp2_with fail;go_end0;exact eG.ok F8.1 (by rw [←HO.1,HN.1,aj];exact if_pos hk) (R8.1.mQ Y5.1 HH.1)
theorem wO (W:World) (base bm:Nat) (g:Mg) (h:kk W base bm g):Calls Tryz.prog 349 #[.pointer (some ⟨bm,0,none⟩)] W fun e w'=>e = .returned (.int .i64 (if g.k=6 then 16 else 32))∧w'=W:=by
 obtain ⟨v4,v5,v14,v15,v16,hb,hr⟩:=h.at_;have c1:W.cell? ⟨bm,0,none⟩=some (.int .u8 g.k):=cell_of hb 0;clear h hb hr;by_cases hk:g.k=6
 ·have hkb:(g.k == 6)=true:=by simpa using hk
  rw [if_pos hk];clear hk;go_in;go_wp2_with fail;go_ret;exact ⟨rfl,rfl⟩
 ·have hkb:(g.k == 6)=false:=by simpa using hk
  rw [if_neg hk];clear hk;go_in;go_wp2_with fail;go_ret;exact ⟨rfl,rfl⟩
def eR:Nat→Bool→Int→Mg→List Int→Option (Mg × List Int)
 | 0,_,_,g,l=>some (g,l)
 | n+1,first,next,g,l=>(df l).bind fun q=>if next≤(next+q.1) % 18446744073709551616∧(next+q.1) % 18446744073709551616≤g.hi∧(first=true∨0<next) then
  (fJ 64 q.2).bind fun b=>eR n false (((next+q.1) % 18446744073709551616+1) % 18446744073709551616) { g with pairs:=g.pairs++[⟨(next+q.1) % 18446744073709551616,b.1⟩] } b.2 else none
theorem nQ {W w3:World} {base bm:Nat} {v v14:Value} {xs:List Int} {ps:List iA} (h:Kd.R (Kd.int .u8) 5 w3 W.heap.size (fun _=>True) v xs) (hB:base≤W.heap.size) (hm:bm<W.heap.size) (h14:Kd.R Ee 59 W base (fun k=>k≠bm) v14 ps):Kd.R (Kd.int .u8) 5 w3 base (fun k=>k≠bm∧some k≠v14.ownBlock) v xs:=by
 refine Kd.cI (Kd.bZ (Kd.bS h) (fun k hk=>⟨fun e=>?_,fun e=>?_⟩)) hB
 ·have:=hk.2.1;omega
 ·obtain ⟨inner,ho⟩:=Kd.kB h14;have:=nC ho k e.symm;have:=hk.2.1;omega
theorem uh (W:World) (base bc br:Nat) (size:Int) (bm:Nat) (g:Mg) (rest:List Int) (h:fH W base bc br size bm g rest) (hk0:0≤g.key) (hk1:g.key<18446744073709551616) (h14:g.pairs.length≤1000) :
 Calls Tryz.prog 347 #[.agg #[], .pointer (some ⟨bc,0,none⟩), .pointer (some ⟨bm,0,none⟩)] W (eG W base bc br size bm ((df rest).bind fun q=>if q.1≤(if g.k=6 then 16 else 32) then eR q.1.toNat true g.key g q.2 else none)):=by
 have HH:=aa h;have RD:=aa (fun (W1:World) (hW:fH W1 base bc br size bm g rest)=>iw PT base br rest 0 W1 hW.cu.rd hW.b2 hW.b4 (by decide) hW.Af);have HS:=aa (Au (rest,0) h.Af);unfold df pR;generalize fQ (rest,0)=q at RD HS ⊢;obtain ⟨x,rest',e'⟩:=q;simp only at RD HS ⊢;clear h;generalize hO:Option.bind _ _=o;have HO:=aa hO;clear hO;have K0:=aa hk0;have K1:=aa hk1;have K14:=aa h14;clear hk0 hk1 h14;obtain ⟨mo,hmo⟩:∃mo:Int,mo=if g.k=6 then 16 else 32:=⟨_,rfl⟩;have hm0:0≤mo∧mo≤32:=by rw [hmo];split<;>omega
 have HMO:=aa hmo;obtain ⟨n,rfl⟩:=Int.eq_ofNat_of_zero_le HS.1.1;clear hmo;go_in;go_wp2_with fail;have B0:=aa (aJ W (.cells #[] 302));have P0:=aa (HH.1.below (ah (Below.refl _ _) (.cells #[] 302)));have F0:=aa ((fZ.refl W base).grow (ah (Below.refl _ _) (.cells #[] 302)) HH.1.b4);generalize W.alloc (.cells #[] 302)=W1 at B0 P0 F0 ⊢;clear B0;refine (at_ bc br size rest 0 W1 P0.1.cu P0.1.s0 P0.1.s1).mono ?_;rintro r w2 ⟨rfl,m2,rfl⟩;have c0:(W1.drewN m2).cell? ⟨bc,0,none⟩=some (.pointer (some ⟨br,0,none⟩)):=cell_of P0.1.cu.cur 0;have P2:=aa (P0.1.drewN m2);have F2:=aa (F0.1.drewN m2);go_wp2_with fail;refine (RD.1 _ P2.1).mono ?_;rintro r w3 ⟨rfl,hD⟩;have F3:=aa (F2.1.read hD);have R3:=aa (P2.1.read hD);clear hD F0 c0 P0;go_wp2_with fail;by_cases he:e'=0
 case neg=>
  (with_reducible refine (eM _ bc br size rest' e' w3 R3.1.cu he).mono ?_);rintro r w5 ⟨⟨at_,why,rfl,hw⟩,rfl⟩;go_wp2_with fail;exact ⟨rfl,eG.no F3.1 (by rw [←HO.1];simp [he]) (cV.mk' hw)⟩
 subst he;(with_reducible refine (eN _ bc br size rest' w3 R3.1.cu).mono ?_);rintro r w5 ⟨rfl,rfl⟩;go_wp2_with fail;(with_reducible refine (wO _ base bm g R3.1.ms).mono ?_);rintro r w6 ⟨rfl,rfl⟩;rw [←HMO.1];have hwm:IntKind.u64.wrap mo=mo:=by rw [kj];omega
 by_cases hx:(n:Int)≤mo
 case neg=>
  have hxb:decide ((n:Int)≤mo)=false:=by simpa using hx
  go_wp2_with fail;(with_reducible refine (dU _ _ _ (by decide)).mono ?_);rintro r w7 ⟨⟨at_,why,rfl,hw⟩,rfl⟩;go_wp2_with fail;exact ⟨rfl,eG.no F3.1 (by rw [←HO.1];simp only [↓reduceIte,aj];rw [←HMO.1,if_neg (by omega)]) (cV.mk' hw)⟩
 have hxb:decide ((n:Int)≤mo)=true:=by simpa using hx
 go_wp2_with fail;(with_reducible refine (dM _ _ _).mono ?_);rintro r w7 ⟨rfl,rfl⟩;have k2:w7.cell? ⟨bm,2,none⟩=some (.int .u64 g.key):=by
  obtain ⟨v4,v5,v14,v15,v16,hb,hr⟩:=R3.1.ms.at_;exact cell_of hb 2
 go_wp2_with fail;have P3:=aa (R3.1.mQ HS.1.2.2 HH.1);have HO2:=aa (show eR n true g.key g rest'=o by rw [←HO.1];simp only [↓reduceIte,aj];rw [←HMO.1,if_pos hx,Int.toNat_natCast]);have hn32:n≤32:=by omega
 clear HO R3 k2 hx hxb hwm HS HMO;go_loopw [6,8,9,10,11,34] (fun v6 v8 v9 v10 v11 v34 wr=>∃(i:Nat) (nx:Int) (gi:Mg) (li:List Int) (a6:Int),v6 = .int .i64 a6∧v34 = .int .u64 (i:Int)∧v8 = .int .u64 nx∧i≤n∧0≤nx∧nx<18446744073709551616∧af (fH wr base bc br size bm gi li)∧af (fZ W wr base)∧af (gi.pairs.length≤1000+i)∧af (eR (n - i) (decide (i=0)) nx gi li=o)) (fun _ _ _ _ _ v _=>n - (intOf v).toNat)
 case atStart=>exact ⟨0,g.key,g,rest',_,rfl,rfl,rfl,aI _,K0.1,K1.1,P3,F3,⟨by have:=K14.1;omega⟩,HO2⟩
 case round=>
  clear P3 F3 HO2 K0 K1 K14;obtain ⟨i,nx,gi,li,a6,rfl,rfl,rfl,hi,hn0,hn1,P,F,K,O⟩:=hrel;by_cases hlt:i<n
  case neg=>
   have hii:¬(i:Int)<(n:Int):=by omega
   go_wp2_with fail;go_end0;exact eG.ok F.1 (by rw [←O.1,show n - i=0 by omega];rfl) P.1
  obtain ⟨m,hm⟩:∃m,n - i=m+1:=⟨n - i - 1,by omega⟩;have HM:=aa hm;have O1:=O.1;rw [hm,eR] at O1;have RD2:=aa (fun (W1:World) (hW:fH W1 base bc br size bm gi li)=>iw PT base br li 0 W1 hW.cu.rd hW.b2 hW.b4 (by decide) hW.Af);have HS2:=aa (Au (li,0) P.1.Af);unfold df pR at O1;generalize fQ (li,0)=q at RD2 HS2 O1;obtain ⟨x,rest2,e2⟩:=q;simp only at RD2 HS2 O1;have O2:=aa O1;clear O O1 hm;go_wp2_with fail;refine (at_ bc br size li 0 wr P.1.cu P.1.s0 P.1.s1).mono ?_;rintro r w2 ⟨rfl,m2,rfl⟩;have c0:(wr.drewN m2).cell? ⟨bc,0,none⟩=some (.pointer (some ⟨br,0,none⟩)):=cell_of P.1.cu.cur 0;have P2:=aa (P.1.drewN m2);have F2:=aa (F.1.drewN m2);clear P F;go_wp2_with fail;refine (RD2.1 _ P2.1).mono ?_;rintro r w3 ⟨rfl,hD⟩;have F3:=aa (F2.1.read hD);have R3:=aa (P2.1.read hD);clear hD F2 c0 RD2;go_wp2_with fail;by_cases he:e2=0
  case neg=>
   (with_reducible refine (eM _ bc br size rest2 e2 w3 R3.1.cu he).mono ?_);rintro r w5 ⟨⟨at_,why,rfl,hw⟩,rfl⟩;go_wp2_with fail;exact ⟨rfl,eG.no F3.1 (by rw [←O2.1];simp [he]) (cV.mk' hw)⟩
  subst he;(with_reducible refine (eN _ bc br size rest2 w3 R3.1.cu).mono ?_);rintro r w5 ⟨rfl,rfl⟩;have P3:=aa (R3.1.mQ HS2.1.2.2 P2.1);have O3:=O2.1;rw [if_pos rfl,aj] at O3;simp only at O3;have hwk:IntKind.u64.wrap (nx+x)=(nx+x) % 18446744073709551616:=kj _;generalize hy:(nx+x) % 18446744073709551616=y at hwk O3;have hy0:0≤y:=by omega
  have hy1:y<18446744073709551616:=by omega
  obtain ⟨v4,v5,v14,v15,v16,hb,hr⟩:=R3.1.ms.at_;have k3:w5.cell? ⟨bm,3,none⟩=some (.int .u64 gi.hi):=cell_of hb 3;obtain ⟨A14,c14,rfl⟩:=Kd.aG hr.r14;have k14:w5.cell? ⟨bm,14,none⟩=some (.slice A14 gi.pairs.length c14):=cell_of hb 14;have MB:=aa hb;have MR:=aa hr;have hwy:IntKind.u64.wrap (y+1)=(y+1) % 18446744073709551616:=kj _;have hwi:IntKind.u64.wrap ((i:Int)+1)=(i:Int)+1:=by rw [kj];omega
  clear hb hr hy R3 P2 HS2 O2;by_cases g1:nx≤y
  case neg=>
   have g1b:decide (nx≤y)=false:=by simpa using g1
   rw [if_neg (fun h=>g1 h.1)] at O3;have O4:=aa O3;clear O3 g1;go_wp2_with fail;(with_reducible refine (dU _ _ _ (by decide)).mono ?_);rintro r w7 ⟨⟨at_,why,rfl,hw⟩,rfl⟩;go_wp2_with fail;exact ⟨rfl,eG.no F3.1 O4.1.symm (cV.mk' hw)⟩
  have g1b:decide (nx≤y)=true:=by simpa using g1
  by_cases g2:y≤gi.hi
  case neg=>
   have g2b:decide (y≤gi.hi)=false:=by simpa using g2
   rw [if_neg (fun h=>g2 h.2.1)] at O3;have O4:=aa O3;clear O3 g1 g2;go_wp2_with fail;(with_reducible refine (dU _ _ _ (by decide)).mono ?_);rintro r w7 ⟨⟨at_,why,rfl,hw⟩,rfl⟩;go_wp2_with fail;exact ⟨rfl,eG.no F3.1 O4.1.symm (cV.mk' hw)⟩
  have g2b:decide (y≤gi.hi)=true:=by simpa using g2
  by_cases g3:i=0
  ·have g3b:((i:Int) == 0)=true:=by simp [g3]
   rw [if_pos ⟨g1,g2, .inl (by simp [g3])⟩] at O3;have O4:=aa O3;have G3:=aa g3;clear O3 g1 g2 g3;go_wp2_with fail;(with_reducible refine (dM _ _ _).mono ?_);rintro r w7 ⟨rfl,rfl⟩;go_wp2_with fail;refine hY (fun w'=>w'.cell? ⟨bm,14,none⟩=some (.slice A14 gi.pairs.length c14)) 10 [(0,0),(1,0),(2,0),(3,0),(4,1),(5,0),(6,0),(7,2),(8,0),(9,2)] (by kernel_rfl) (by kernel_rfl) (fun _ _ _ _ _ h=>h) k14 ?_;have P4:=aa (show fH w7.drew base bc br size bm gi rest2 from P3.1.drewN 1);have F4:=aa (show fZ W w7.drew base from F3.1.drewN 1);have M4:=aa (show w7.drew.heap[bm]? = some (.cells (fF gi v4 v5 (.slice A14 gi.pairs.length c14) v15 v16).toArray 214 (0,0)) from MB.1);have MR4:=aa (MR.1.mv (us:=[]) ((Mv.refl TR w7).drew.mono (fun _ h=>h) |> fun _=>(Mv.refl [] w7).drew) (by simp) (by simp) (by simp));clear P3 F3 MB MR k14 k3;generalize w7.drew=w8 at P4 F4 M4 MR4 ⊢;iterate 4 (refine eF ?_;simp only [cS,Act.put])
   iterate 1 (refine aQ (v:=?_) rfl rfl ?_ ?_;rotate_left 1;(focus (intro w hSw;go_simp;try (with_reducible rfl)));simp only [cS,Act.put])
   iterate 2 (refine eF ?_;simp only [cS,Act.put])
   refine aT rfl ?_;go_wp2_with fail;refine (nA 64 (by omega) w8 base bc br size bm gi rest2 P4.1).mono ?_;rintro r w9 ⟨hF,⟨hn,⟨at_,why,rfl,hw⟩⟩|⟨xs,rest3,vx,hn,rfl,hrow,hP,hT⟩⟩
   ·have HN:=aa hn;have F5:=aa (F4.1.trans hF);clear hn hF;go_wp2_with fail;exact ⟨rfl,eG.no F5.1 (by rw [←O4.1,HN.1];rfl) (cV.mk' hw)⟩
   have HN:=aa hn;have F5:=aa (F4.1.trans hF);have P5:=aa hP;have M5:=aa (hT.at M4.1 (by decide));have MR5:=aa (MR4.1.mv hT (by decide) (by decide) (by decide));have V5:=aa (nQ hrow P4.1.b4 (ak M4.1) MR4.1.r14);have k14:w9.cell? ⟨bm,14,none⟩=some (.slice A14 gi.pairs.length c14):=cell_of M5.1 14;have N5:=aa (show some bm≠(Value.slice A14 gi.pairs.length c14).ownBlock from fun e=>MR5.1.r14.1 bm e.symm rfl);obtain ⟨vA,vcp,rfl⟩:=Kd.aG hrow;clear hn hF hP hT hrow F4 P4 M4 MR4;go_wp2_with fail;refine bB.mk k14 (fun hSw=>?_);clear hSw;iterate 1 (refine eF ?_;simp only [cS,Act.put])
   refine aT rfl ?_;go_wp2_with fail;refine bB.mk ((eT _ _ _ (ak M5.1)).trans k14) (fun hSw=>?_);refine bC ?_;simp only [aC,List.drop_zero];clear hSw k14;go_wp2_with (first
    | ((with_reducible refine aM (b:= .append) (xs:=#[.tmp 75, .tmp 80]) rfl ?_);at_builtin;refine Kd.cG Ee (w0:=W) base rfl (.tmp 75) (.tmp 80) 24 59 (.agg #[(.int .u64 0),(.slice none 0 0)]) 32 rfl Tryz.underlying24 lE rfl (by decide) (by omega) (.slice A14 gi.pairs.length c14) gi.pairs (⟨y,xs⟩:iA) [.int .u64 y, .slice vA xs.length vcp] (fun k=>k≠bm) (fun k=>k≠bm∧some k≠(Value.slice A14 gi.pairs.length c14).ownBlock) rfl rfl ?aP (fun _ hk=>hk) ?aF ?aO ?aB ?aS ?aL ?_;(case aP=>exact kT _ _ _ _ V5.1);(case aB=>exact F5.1.below);(case aF=>exact (fun k hk e=>by subst e;exact absurd hk (Nat.not_le.2 (ak M5.1))));(case aO=>exact MR5.1.r14);(case aS=>exact P5.1.b4);(case aL=>have:=K.1;omega);intro v1 w10 h1 h2 h3 h4;have Z1:=aa ((h3.block bm (ak M5.1) N5.1).trans M5.1);have Z2:=aa h1;have Z3:=aa (show fZ W w10 base from ⟨h2,F5.1.mv.trans (Mv.fB h3 MR5.1.r14 (by decide))⟩);have Z4:=aa (Mv.fB (ts:=[59]) h3 MR5.1.r14 (by decide));have Z5:=aa h3;clear h1 h2 h3 h4)
    | ((with_reducible refine gS 83 81 rfl ?_);refine sC 14 v1 ((fF { gi with pairs:=gi.pairs++[⟨y,xs⟩] } v4 v5 v1 v15 v16).toArray) Z1.1 (hc:=by obtain ⟨_,_,rfl⟩:=Kd.aG Z2.1;rfl) (h1:=by obtain ⟨_,_,rfl⟩:=Kd.aG Z2.1;rfl) ?_;intro w11 W11 G11))
   have hw1:w9.heap.size≤w10.heap.size:=Z5.1.size;have MV11:Mv [59,214] w9 w11:=(Z4.1.mono (by simp)).trans (Mv.bG G11.1 Z1.1 (by simp));have rne:∀{v:Value} {zs:List Int},Kd.R (Kd.int .u8) 5 w9 base (fun k=>k≠bm) v zs→Kd.R (Kd.int .u8) 5 w11 base (fun k=>k≠bm) v zs:=fun hr=>eV hr MV11 (by intro q hq;have hq':q∈[5]:=hq;rw [List.mem_singleton] at hq';subst hq';decide);have P11:=aa (show fH w11 base bc br size bm { gi with pairs:=gi.pairs++[⟨y,xs⟩] } rest3 from ⟨P5.1.cu.mv MV11 (by decide) (by decide) (by decide),⟨v4,v5,v1,v15,v16,W11.1,⟨rne MR5.1.r4,rne MR5.1.r5,Kd.eL Z2.1 G11.1 (fun k hk e=>hk (by injection e)),eV MR5.1.r15 MV11 (by intro q hq;have hq':q∈[62]:=hq;rw [List.mem_singleton] at hq';subst hq';decide),rne MR5.1.r16⟩⟩,P5.1.Af,P5.1.b1,P5.1.b2,P5.1.b3,Nat.le_trans P5.1.b4 (Nat.le_trans hw1 G11.1.size),P5.1.s0,P5.1.s1⟩);have F11:=aa (Z3.1.set G11.1 Z1.1 (by decide) P5.1.b3 (Nat.le_trans P5.1.b4 hw1));have K11:=aa (show ({ gi with pairs:=gi.pairs++[⟨y,xs⟩] }:Mg).pairs.length≤1000+(i+1) by have:=K.1;simp only [List.length_append,List.length_singleton];omega);have O11:=aa (show eR (n - (i+1)) (decide (i+1=0)) ((y+1) % 18446744073709551616) { gi with pairs:=gi.pairs++[⟨y,xs⟩] } rest3=o by rw [←O4.1,HN.1,show n - (i+1)=m by have:=HM.1;omega];simp);clear MV11 rne Z1 Z2 Z3 Z4 Z5 W11 G11 M5 MR5 V5 N5 F5 P5 O4 HN K hw1;go_roundw
   case rel=>exact ⟨i+1,(y+1) % 18446744073709551616,_,rest3,_,rfl,by go_num,rfl,by omega,by omega,by omega,P11,F11,K11,O11⟩
   case measure=>simp [intOf];omega
  ·have g3b:((i:Int) == 0)=false:=by simp [g3]
   by_cases g4:0<nx
   case neg=>
    have g4b:decide (0<nx)=false:=by simpa using g4
    rw [if_neg (fun h=>by rcases h.2.2 with h|h;simp [g3] at h;exact g4 h)] at O3;have O4:=aa O3;clear O3 g1 g2 g3 g4;go_wp2_with fail;(with_reducible refine (dU _ _ _ (by decide)).mono ?_);rintro r w7 ⟨⟨at_,why,rfl,hw⟩,rfl⟩;go_wp2_with fail;exact ⟨rfl,eG.no F3.1 O4.1.symm (cV.mk' hw)⟩
   have g4b:decide (0<nx)=true:=by simpa using g4
   rw [if_pos ⟨g1,g2, .inr g4⟩] at O3;have O4:=aa O3;clear O3 g1 g2 g3 g4;go_wp2_with fail;(with_reducible refine (dM _ _ _).mono ?_);rintro r w7 ⟨rfl,rfl⟩;go_wp2_with fail;refine hY (fun w'=>w'.cell? ⟨bm,14,none⟩=some (.slice A14 gi.pairs.length c14)) 10 [(0,0),(1,0),(2,0),(3,0),(4,1),(5,0),(6,0),(7,2),(8,0),(9,2)] (by kernel_rfl) (by kernel_rfl) (fun _ _ _ _ _ h=>h) k14 ?_;have P4:=aa (show fH w7.drew base bc br size bm gi rest2 from P3.1.drewN 1);have F4:=aa (show fZ W w7.drew base from F3.1.drewN 1);have M4:=aa (show w7.drew.heap[bm]? = some (.cells (fF gi v4 v5 (.slice A14 gi.pairs.length c14) v15 v16).toArray 214 (0,0)) from MB.1);have MR4:=aa (MR.1.mv (us:=[]) ((Mv.refl TR w7).drew.mono (fun _ h=>h) |> fun _=>(Mv.refl [] w7).drew) (by simp) (by simp) (by simp));clear P3 F3 MB MR k14 k3;generalize w7.drew=w8 at P4 F4 M4 MR4 ⊢;iterate 4 (refine eF ?_;simp only [cS,Act.put])
   iterate 1 (refine aQ (v:=?_) rfl rfl ?_ ?_;rotate_left 1;(focus (intro w hSw;go_simp;try (with_reducible rfl)));simp only [cS,Act.put])
   iterate 2 (refine eF ?_;simp only [cS,Act.put])
   refine aT rfl ?_;go_wp2_with fail;refine (nA 64 (by omega) w8 base bc br size bm gi rest2 P4.1).mono ?_;rintro r w9 ⟨hF,⟨hn,⟨at_,why,rfl,hw⟩⟩|⟨xs,rest3,vx,hn,rfl,hrow,hP,hT⟩⟩
   ·have HN:=aa hn;have F5:=aa (F4.1.trans hF);clear hn hF;go_wp2_with fail;exact ⟨rfl,eG.no F5.1 (by rw [←O4.1,HN.1];rfl) (cV.mk' hw)⟩
   have HN:=aa hn;have F5:=aa (F4.1.trans hF);have P5:=aa hP;have M5:=aa (hT.at M4.1 (by decide));have MR5:=aa (MR4.1.mv hT (by decide) (by decide) (by decide));have V5:=aa (nQ hrow P4.1.b4 (ak M4.1) MR4.1.r14);have k14:w9.cell? ⟨bm,14,none⟩=some (.slice A14 gi.pairs.length c14):=cell_of M5.1 14;have N5:=aa (show some bm≠(Value.slice A14 gi.pairs.length c14).ownBlock from fun e=>MR5.1.r14.1 bm e.symm rfl);obtain ⟨vA,vcp,rfl⟩:=Kd.aG hrow;clear hn hF hP hT hrow F4 P4 M4 MR4;go_wp2_with fail;refine bB.mk k14 (fun hSw=>?_);clear hSw;iterate 1 (refine eF ?_;simp only [cS,Act.put])
   refine aT rfl ?_;go_wp2_with fail;refine bB.mk ((eT _ _ _ (ak M5.1)).trans k14) (fun hSw=>?_);refine bC ?_;simp only [aC,List.drop_zero];clear hSw k14;go_wp2_with (first
    | ((with_reducible refine aM (b:= .append) (xs:=#[.tmp 75, .tmp 80]) rfl ?_);at_builtin;refine Kd.cG Ee (w0:=W) base rfl (.tmp 75) (.tmp 80) 24 59 (.agg #[(.int .u64 0),(.slice none 0 0)]) 32 rfl Tryz.underlying24 lE rfl (by decide) (by omega) (.slice A14 gi.pairs.length c14) gi.pairs (⟨y,xs⟩:iA) [.int .u64 y, .slice vA xs.length vcp] (fun k=>k≠bm) (fun k=>k≠bm∧some k≠(Value.slice A14 gi.pairs.length c14).ownBlock) rfl rfl ?aP (fun _ hk=>hk) ?aF ?aO ?aB ?aS ?aL ?_;(case aP=>exact kT _ _ _ _ V5.1);(case aB=>exact F5.1.below);(case aF=>exact (fun k hk e=>by subst e;exact absurd hk (Nat.not_le.2 (ak M5.1))));(case aO=>exact MR5.1.r14);(case aS=>exact P5.1.b4);(case aL=>have:=K.1;omega);intro v1 w10 h1 h2 h3 h4;have Z1:=aa ((h3.block bm (ak M5.1) N5.1).trans M5.1);have Z2:=aa h1;have Z3:=aa (show fZ W w10 base from ⟨h2,F5.1.mv.trans (Mv.fB h3 MR5.1.r14 (by decide))⟩);have Z4:=aa (Mv.fB (ts:=[59]) h3 MR5.1.r14 (by decide));have Z5:=aa h3;clear h1 h2 h3 h4)
    | ((with_reducible refine gS 83 81 rfl ?_);refine sC 14 v1 ((fF { gi with pairs:=gi.pairs++[⟨y,xs⟩] } v4 v5 v1 v15 v16).toArray) Z1.1 (hc:=by obtain ⟨_,_,rfl⟩:=Kd.aG Z2.1;rfl) (h1:=by obtain ⟨_,_,rfl⟩:=Kd.aG Z2.1;rfl) ?_;intro w11 W11 G11))
   have hw1:w9.heap.size≤w10.heap.size:=Z5.1.size;have MV11:Mv [59,214] w9 w11:=(Z4.1.mono (by simp)).trans (Mv.bG G11.1 Z1.1 (by simp));have rne:∀{v:Value} {zs:List Int},Kd.R (Kd.int .u8) 5 w9 base (fun k=>k≠bm) v zs→Kd.R (Kd.int .u8) 5 w11 base (fun k=>k≠bm) v zs:=fun hr=>eV hr MV11 (by intro q hq;have hq':q∈[5]:=hq;rw [List.mem_singleton] at hq';subst hq';decide);have P11:=aa (show fH w11 base bc br size bm { gi with pairs:=gi.pairs++[⟨y,xs⟩] } rest3 from ⟨P5.1.cu.mv MV11 (by decide) (by decide) (by decide),⟨v4,v5,v1,v15,v16,W11.1,⟨rne MR5.1.r4,rne MR5.1.r5,Kd.eL Z2.1 G11.1 (fun k hk e=>hk (by injection e)),eV MR5.1.r15 MV11 (by intro q hq;have hq':q∈[62]:=hq;rw [List.mem_singleton] at hq';subst hq';decide),rne MR5.1.r16⟩⟩,P5.1.Af,P5.1.b1,P5.1.b2,P5.1.b3,Nat.le_trans P5.1.b4 (Nat.le_trans hw1 G11.1.size),P5.1.s0,P5.1.s1⟩);have F11:=aa (Z3.1.set G11.1 Z1.1 (by decide) P5.1.b3 (Nat.le_trans P5.1.b4 hw1));have K11:=aa (show ({ gi with pairs:=gi.pairs++[⟨y,xs⟩] }:Mg).pairs.length≤1000+(i+1) by have:=K.1;simp only [List.length_append,List.length_singleton];omega);have O11:=aa (show eR (n - (i+1)) (decide (i+1=0)) ((y+1) % 18446744073709551616) { gi with pairs:=gi.pairs++[⟨y,xs⟩] } rest3=o by rw [←O4.1,HN.1,show n - (i+1)=m by have:=HM.1;omega];simp);clear MV11 rne Z1 Z2 Z3 Z4 Z5 W11 G11 M5 MR5 V5 N5 F5 P5 O4 HN K hw1;go_roundw
   case rel=>exact ⟨i+1,(y+1) % 18446744073709551616,_,rest3,_,rfl,by go_num,rfl,by omega,by omega,by omega,P11,F11,K11,O11⟩
   case measure=>simp [intOf];omega
end Go.Proofs.YtpekmdpbfjdjkaaGreat.fE