/- Part 12 of the proof that reading bytes answers as the document does. No condition. -/
import Derived.Test.YtpekmdpbfjdjkaaGreatY11
set_option maxHeartbeats 16000000
set_option maxRecDepth 100000
set_option linter.all false
namespace Go.Proofs.YtpekmdpbfjdjkaaGreat.fE
open Go Go.RowKit ag.ax ag.aV ag.aU aD fr plain iK cL
def AF:List Nat:=294::FT
structure lP (ts:List Nat) (g:Mg):Prop where
 s:303∈ts→g.ses=[]
 p:302∈ts→g.pairs=[]
 a:294∈ts→g.pairs=[]
 k0:0≤g.key
 k1:g.key<18446744073709551616
 nd:ts.Nodup
 np:302∈ts→294∉ts
 la:294∉ts.dropLast
 sub:∀t∈ts,t∈AF
theorem lP.start (k:Int) (h1:1≤k) (h2:k≤12):lP (fieldsOf k) (sH k):=by
 obtain rfl|rfl|rfl|rfl|rfl|rfl|rfl|rfl|rfl|rfl|rfl|rfl:k=1∨k=2∨k=3∨k=4∨k=5∨k=6∨k=7∨k=8∨k=9∨k=10∨k=11∨k=12:=by omega
 all_goals exact ⟨fun _=>rfl,fun _=>rfl,fun _=>rfl,by decide,by decide,by decide,by decide,by decide,by decide⟩
theorem lP.Cp {t:Nat} {ts:List Nat} {g:Mg} (n:lP (t::ts) g) (W:World) (base bc br:Nat) (size:Int) (bm:Nat) (rest:List Int) (h:fH W base bc br size bm g rest) :
 Calls Tryz.prog (rI t) #[.agg #[], .pointer (some ⟨bc,0,none⟩), .pointer (some ⟨bm,0,none⟩)] W (eG W base bc br size bm (gE t g rest)):=by
 have ht:=n.sub t List.mem_cons_self;unfold AF at ht;rw [List.mem_cons] at ht;by_cases ha:t=294
 ·subst ha;exact rM W base bc br size bm g rest h ⟨n.a List.mem_cons_self,n.k0,n.k1⟩
 ·have hf:t∈FT:=ht.resolve_left ha;unfold gE;rw [if_neg ha];exact yX t hf W base bc br size bm g rest h ⟨fun e=>n.s (e▸List.mem_cons_self),fun e=>n.p (e▸List.mem_cons_self),n.k0,n.k1⟩
theorem lP.next {t:Nat} {ts:List Nat} {g:Mg} {l:List Int} (h:lP (t::ts) g) (hl:aq l):∀g' l',gE t g l=some (g',l')→lP ts g'∨ts=[]:=by
 intro g' l' e;by_cases hts:ts=[]
 ·exact .inr hts
 left;have hd:(t::ts).dropLast=t::ts.dropLast:=by
  cases ts with
  | nil=>exact absurd rfl hts
  | cons a b=>rfl
 have la:=h.la;rw [hd,List.mem_cons,not_or] at la;have ha:t≠294:=fun e=>la.1 e.symm;have ht:t∈FT:=by
  have ht:=h.sub t List.mem_cons_self;unfold AF at ht;rw [List.mem_cons] at ht;exact ht.resolve_left ha
 unfold gE at e;rw [if_neg ha] at e;obtain ⟨k1,k2,k3,k4⟩:=keeps t g l hl ht g' l' e;have hn:=List.nodup_cons.1 h.nd;refine ⟨fun hm=>?_,fun hm=>?_,fun hm=>?_,k3 h.k0 h.k1,k4 h.k0 h.k1,hn.2,fun hm hm2=>h.np (List.mem_cons_of_mem _ hm) (List.mem_cons_of_mem _ hm2),la.2,fun t ht=>h.sub t (List.mem_cons_of_mem _ ht)⟩
 ·rw [k1 (fun e=>hn.1 (e▸hm))];exact h.s (List.mem_cons_of_mem _ hm)
 ·rw [k2 (fun e=>hn.1 (e▸hm))];exact h.p (List.mem_cons_of_mem _ hm)
 ·rw [k2 (fun e=>h.np (by rw [e];exact List.mem_cons_self) (List.mem_cons_of_mem _ hm))];exact h.a (List.mem_cons_of_mem _ hm)
theorem vI (n:Nat):∀(b:Bool) (k:Int) (g:Mg) (l:List Int) (g':Mg) (l':List Int),eR n b k g l=some (g',l')→g'.k=g.k:=by
 induction n with
 | zero=>
  intro b k g l g' l' h;rw [eR] at h;injection h with h;injection h with h;subst h;rfl
 | succ n ih=>
  intro b k g l g' l' h;rw [eR] at h;cases hv:df l with
  | none=>rw [hv] at h;cases h
  | some q=>
   rw [hv,aj] at h;split at h
   ·cases hb:fJ 64 q.2 with
    | none=>rw [hb] at h;cases h
    | some b=>
     rw [hb,aj] at h;have r:=ih _ _ _ _ _ _ h;exact r
   ·cases h
theorem AM (n:Nat):∀(g:Mg) (l:List Int) (g':Mg) (l':List Int),kg n g l=some (g',l')→g'.k=g.k:=by
 induction n with
 | zero=>
  intro g l g' l' h;rw [kg] at h;injection h with h;injection h with h;subst h;rfl
 | succ n ih=>
  intro g l g' l' h;rw [kg] at h;cases hv:dQ 1 l with
  | none=>rw [hv] at h;cases h
  | some q=>
   rw [hv,aj] at h;split at h
   ·cases hb:df q.2 with
    | none=>rw [hb] at h;cases h
    | some b=>
     rw [hb,aj] at h;split at h
     ·cases hc:dQ 1 b.2 with
      | none=>rw [hc] at h;cases h
      | some c=>
       rw [hc,aj] at h;split at h
       ·have r:=ih _ _ _ _ h;exact r
       ·cases h
     ·cases h
   ·cases h
theorem sG (t:Nat) (g:Mg) (l:List Int) (ht:t∈FT) (g':Mg) (l':List Int) (e:jt t g l=some (g',l')):g'.k=g.k:=by
 simp only [FT,List.mem_cons,ga,Ad] at ht;have ob:∀{α:Type} (o:Option α) (f:α→Option (Mg × List Int)),o.bind f=some (g',l')→∃a,o=some a∧f a=some (g',l'):=by
  intro α o f h;cases o with
  | none=>cases h
  | some a=>exact ⟨a,rfl,h⟩
 have oi:∀{c:Prop} [Decidable c] (x:Option (Mg × List Int)),(if c then x else none)=some (g',l')→x=some (g',l'):=by
  intro c _ x h;split at h
  ·exact h
  ·cases h
 have os:∀{m:Mg} {r:List Int},some (m,r)=some (g',l')→m=g':=by
  intro m r h;injection h with h;injection h
 rcases ht with rfl|rfl|rfl|rfl|rfl|rfl|rfl|rfl|rfl|rfl|rfl|rfl|rfl|rfl|rfl|rfl|rfl|rfl
 ·obtain ⟨q,hq,e⟩:=ob _ _ e;obtain rfl:=os (oi _ e);rfl
 ·obtain ⟨q,hq,e⟩:=ob _ _ e;obtain rfl:=os e;rfl
 ·obtain ⟨q,hq,e⟩:=ob _ _ e;obtain rfl:=os e;rfl
 ·obtain ⟨q,hq,e⟩:=ob _ _ e;split at e
  ·obtain ⟨b,hb,e⟩:=ob _ _ e;obtain rfl:=os e;rfl
  ·obtain rfl:=os e;rfl
 ·obtain ⟨q,hq,e⟩:=ob _ _ e;obtain rfl:=os (oi _ e);rfl
 ·obtain ⟨q,hq,e⟩:=ob _ _ e;obtain rfl:=os (oi _ e);rfl
 ·obtain ⟨q,hq,e⟩:=ob _ _ e;obtain rfl:=os (oi _ e);rfl
 ·obtain ⟨q,hq,e⟩:=ob _ _ e;obtain rfl:=os (oi _ e);rfl
 ·obtain ⟨q,hq,e⟩:=ob _ _ e;obtain rfl:=os (oi _ e);rfl
 ·obtain ⟨q,hq,e⟩:=ob _ _ e;obtain rfl:=os e;rfl
 ·obtain ⟨q,hq,e⟩:=ob _ _ e;obtain rfl:=os e;rfl
 ·obtain ⟨q,hq,e⟩:=ob _ _ e;obtain rfl:=os (oi _ e);rfl
 ·obtain ⟨q,hq,e⟩:=ob _ _ e;obtain rfl:=os (oi _ e);rfl
 ·obtain ⟨q,hq,e⟩:=ob _ _ e;obtain rfl:=os e;rfl
 ·obtain ⟨q,hq,e⟩:=ob _ _ e;obtain rfl:=os e;rfl
 ·obtain ⟨q,hq,e⟩:=ob _ _ e;obtain rfl:=os e;rfl
 ·obtain ⟨q,hq,e⟩:=ob _ _ e;exact vI _ _ _ _ _ _ _ (oi _ e)
 ·obtain ⟨q,hq,e⟩:=ob _ _ e;exact AM _ _ _ _ _ (oi _ e)
theorem AN (ts:List Nat):∀(g:Mg) (l:List Int),(∀t∈ts,t∈FT)→∀g' l',iu ts g l=some (g',l')→g'.k=g.k:=by
 induction ts with
 | nil=>
  intro g l _ g' l' e;rw [iu] at e;injection e with e;injection e with e;rw [←e]
 | cons t ts ih=>
  intro g l hs g' l' e;rw [iu] at e;cases hq:jt t g l with
  | none=>rw [hq] at e;cases e
  | some q=>
   rw [hq,aj] at e;rw [ih q.1 q.2 (fun t ht=>hs t (List.mem_cons_of_mem _ ht)) g' l' e];exact sG t g l (hs t List.mem_cons_self) q.1 q.2 hq
theorem za (t:Nat) (g:Mg) (l:List Int) (ht:t∈AF) (g':Mg) (l':List Int) (e:gE t g l=some (g',l')):g'.k=g.k:=by
 unfold gE at e;unfold AF at ht;rw [List.mem_cons] at ht;split at e
 ·exact AN _ g l (oK g).1 g' l' e
 ·exact sG t g l (ht.resolve_left (by assumption)) g' l' e
theorem vV (g:Mg) (v4 v5 v14 v15 v16:Value) (h4:v4.oneCell'=true) (h5:v5.oneCell'=true) (h14:v14.oneCell'=true) (h15:v15.oneCell'=true) (h16:v16.oneCell'=true):∀q∈fF g v4 v5 v14 v15 v16,q.oneCell'=true:=by
 intro q hq;simp only [fF,List.mem_cons,ga,Ad] at hq;rcases hq with rfl|rfl|rfl|rfl|rfl|rfl|rfl|rfl|rfl|rfl|rfl|rfl|rfl|rfl|rfl|rfl|rfl<;>first|rfl|assumption
theorem gG.narrow {x:Nat} {ts:List Nat} {W W':World} {br:Nat} {rest:List Int} {e:Int} (h:gG (x::ts) W br rest e) (hm:Mv [x] W W') (hx:151∉[x]):gG ts W' br rest e:=by
 obtain ⟨A,c,h1,h2,h3⟩:=h.dI;exact ⟨⟨A,c,hm.at h1 hx,h2,fun W2 hw=>h3 W2 ((hm.mono (fun k hk=>by rw [List.mem_singleton] at hk;subst hk;exact List.mem_cons_self)).trans (hw.mono (fun k hk=>List.mem_cons_of_mem _ hk)))⟩,h.le⟩
theorem DM (x0 x1 x2 x3:Int) (y0:0≤x0∧x0≤255) (y1:0≤x1∧x1≤255) (y2:0≤x2∧x2≤255) (y3:0≤x3∧x3≤255):bits .or .u32 (bits .or .u32 (bits .or .u32 (x0*16777216) (x1*65536)) (x2*256)) x3=x0*16777216+x1*65536+x2*256+x3:=by
 obtain ⟨a,rfl⟩:=Int.eq_ofNat_of_zero_le y0.1;obtain ⟨b,rfl⟩:=Int.eq_ofNat_of_zero_le y1.1;obtain ⟨c,rfl⟩:=Int.eq_ofNat_of_zero_le y2.1;obtain ⟨d,rfl⟩:=Int.eq_ofNat_of_zero_le y3.1;rw [show ((a:Int)*16777216)=((2 ^ 24*a:Nat):Int) by omega,show ((b:Int)*65536)=((b*65536:Nat):Int) by omega,u32_or_nat _ _ (by omega) (by omega),←fh (by omega:b*65536<2 ^ 24) a];rw [show 2 ^ 24*a+b*65536=2 ^ 16*(a*256+b) by omega,show ((c:Int)*256)=((c*256:Nat):Int) by omega,u32_or_nat _ _ (by omega) (by omega),←fh (by omega:c*256<2 ^ 16) (a*256+b)];rw [show 2 ^ 16*(a*256+b)+c*256=2 ^ 8*((a*256+b)*256+c) by omega,u32_or_nat _ _ (by omega) (by omega),←fh (by omega:d<2 ^ 8) ((a*256+b)*256+c)];omega
theorem ng (l:List Int) (n j:Nat):rd (l.drop n) ((j:Nat):Int)=rd l ((n+j:Nat):Int):=by
 unfold rd;rw [Int.toNat_natCast,Int.toNat_natCast,List.getD_eq_getElem?_getD,List.getD_eq_getElem?_getD,List.getElem?_drop]
theorem qM.DC {W w:World} {b2 b3 b4:Nat} {a:Act} {k:Int} {cs:List Value} {o:Option Int} (ho:o=some k) (hd:a.defers=[{ target:= .fn (.func 166) #[.pointer (some ⟨b2,0,none⟩), .pointer (some ⟨b3,0,none⟩), .pointer (some ⟨b4,0,none⟩)],args:=#[] }]) (hs:cs.length=17) (h1:∀q∈cs,q.oneCell'=true) (hk:cs.head? = some (.int .u8 k)) (h2:w.heap[b2]? = some (.cells cs.toArray 214 (0,0))) (h3:w.heap[b3]? = some (.cells #[.int .i64 0] 3 (0,0))) (h4:w.heap[b4]? = some (.cells #[.int .i64 0] 33 (0,0))) (hb:Below W.heap.size W w) (t2:a.tmps.getD 2 undef = .pointer (some ⟨b2,0,none⟩)) (t3:a.tmps.getD 3 undef = .pointer (some ⟨b3,0,none⟩)) (t4:a.tmps.getD 4 undef = .pointer (some ⟨b4,0,none⟩)) :
 bodyPostD Tryz.prog Tryz.f146 (qM W o) .ret a w:=by
 subst ho;have h:=AL W w b2 b3 b4 0 a.tmps k cs hs h1 hk h2 h3 h4 hb t2 t3 t4;rw [←hd] at h;exact h
theorem wQ {base:Nat} (w:World) (br m:Nat) (g:Mg) (rest:List Int) (h:gG PT w br rest 0) (hs:base≤w.heap.size) (hb:base≤br) (e1:g.val=[]) (e2:g.old=[]) (e3:g.pairs=[]) (e4:g.ses=[]) (e5:g.pay=[]) (hy:aq rest) (hm:m≤1000000000) :
 fH ((w.alloc (.cells #[.pointer (some ⟨br,0,none⟩), .int .i64 (m:Int)] 267)).alloc (.cells (fF g (.slice none 0 0) (.slice none 0 0) (.slice none 0 0) (.slice none 0 0) (.slice none 0 0)).toArray 214)) base w.heap.size br (m:Int) (w.heap.size+1) g rest:=by
 have q1:(w.alloc (.cells #[.pointer (some ⟨br,0,none⟩), .int .i64 (m:Int)] 267)).heap.size=w.heap.size+1:=cW _;have n1:=aJ w (.cells #[.pointer (some ⟨br,0,none⟩), .int .i64 (m:Int)] 267);have n11:=(cm (w.alloc (.cells #[.pointer (some ⟨br,0,none⟩), .int .i64 (m:Int)] 267)) (.cells (fF g (.slice none 0 0) (.slice none 0 0) (.slice none 0 0) (.slice none 0 0) (.slice none 0 0)).toArray 214) _ (by rw [q1];omega)).trans n1;have n2:=vr w (.cells #[.pointer (some ⟨br,0,none⟩), .int .i64 (m:Int)] 267) (fF g (.slice none 0 0) (.slice none 0 0) (.slice none 0 0) (.slice none 0 0) (.slice none 0 0)).toArray 214;have B:=ah (ah (Below.refl w.heap.size w) (.cells #[.pointer (some ⟨br,0,none⟩), .int .i64 (m:Int)] 267)) (.cells (fF g (.slice none 0 0) (.slice none 0 0) (.slice none 0 0) (.slice none 0 0) (.slice none 0 0)).toArray 214);exact ⟨⟨n11,h.mv (ts':=[]) (Mv.cH B) (fun _ hk=>by cases hk) (by simp)⟩,⟨_,_,_,_,_,n2,by rw [e1];exact Kd.cY _ _ _ _ _,by rw [e2];exact Kd.cY _ _ _ _ _,by rw [e3];exact Kd.cY _ _ _ _ _,by rw [e4];exact Kd.cY _ _ _ _ _,by rw [e5];exact Kd.cY _ _ _ _ _⟩,hy,hs,hb,by omega,Nat.le_trans hs B.size,by omega,by omega⟩
theorem parse (A:Option Addr) (c:Nat) (l:List Int) (W:World) (hl:Kd.C (Kd.int .u8) W A l.length l) (hc:l.length≤c) (hL:l.length≤100000000) (hb:aq l) :
 Calls Tryz.prog 146 #[.slice A l.length c] W (qM W ((ic l).map (·.k))):=by
 have hmf:∀(fn:Fn) (first cap:Array Value) (w:World),(Instr.makeFunc fn first cap).run Tryz.prog w = .ok (.func fn first cap) w:=fun _ _ _ _=>rfl;have HC:=aa hl;have HB:=aa hb;have hLi:(l.length:Int)≤100000000:=by omega
 generalize hO:(ic l).map (·.k)=o;have HO:=aa hO;clear hl hb hO;go_enter_defers Tryz.func146,Tryz.ntmps146;go_wp2_with fail;have R0:=aa (wX.start W (vY.toArray) rfl);have HCW:=aa (Kd.aN HC.1 R0.1.below);simp only [vY] at R0 HCW;generalize (((W.alloc (.cells _ 214)).alloc (.cells #[.int .i64 0] 3)).alloc (.cells #[.int .i64 0] 33))=w0 at R0 HCW ⊢;by_cases g1:l.length≤4096
 case neg=>
  have g1b:decide ((l.length:Int)≤4096)=false:=by rw [decide_eq_false_iff_not];omega
  rw [g1b];(with_reducible refine (dU _ _ _ (by decide)).mono ?_);rintro r w7 ⟨⟨at_,why,rfl,hw⟩,rfl⟩;exact qM.no (by rw [←HO.1];unfold ic;rw [if_neg g1];rfl) hw R0.1 rfl rfl rfl
 have g1b:decide ((l.length:Int)≤4096)=true:=by rw [decide_eq_true_eq];omega
 rw [g1b];(with_reducible refine (dM _ _ _).mono ?_);rintro r w7 ⟨rfl,rfl⟩;go_wp2_with fail;by_cases g2:7≤l.length
 case neg=>
  have g2b:decide ((7:Int)≤(l.length:Int))=false:=by rw [decide_eq_false_iff_not];omega
  rw [g2b];(with_reducible refine (dU _ _ _ (by decide)).mono ?_);rintro r w7 ⟨⟨at_,why,rfl,hw⟩,rfl⟩;exact qM.no (by rw [←HO.1];unfold ic;rw [if_pos g1,if_neg g2];rfl) hw R0.1 rfl rfl rfl
 have g2b:decide ((7:Int)≤(l.length:Int))=true:=by rw [decide_eq_true_eq];omega
 rw [g2b];(with_reducible refine (dM _ _ _).mono ?_);rintro r w7 ⟨rfl,rfl⟩;obtain ⟨ad,rfl,k0⟩:=mU HCW.1 0 (by omega);have k1:w7.cell? ⟨ad.block,ad.off+1,none⟩=some (.int .u8 (rd l 1)):=by
  obtain ⟨ad',e,k⟩:=mU HCW.1 1 (by omega);injection e with e;subst e;exact k
 have k2:w7.cell? ⟨ad.block,ad.off+2,none⟩=some (.int .u8 (rd l 2)):=by
  obtain ⟨ad',e,k⟩:=mU HCW.1 2 (by omega);injection e with e;subst e;exact k
 have k0':w7.cell? ad=some (.int .u8 (rd l 0)):=k0;go_wp2_with fail;by_cases g3:rd l 0=83
 case neg=>
  have g3b:(rd l 0 == 83)=false:=by simpa using g3
  rw [g3b];(with_reducible refine (dU _ _ _ (by decide)).mono ?_);rintro r w7 ⟨⟨at_,why,rfl,hw⟩,rfl⟩;exact qM.no (by rw [←HO.1];unfold ic;rw [if_pos g1,if_pos g2,if_neg g3];rfl) hw R0.1 rfl rfl rfl
 have g3b:(rd l 0 == 83)=true:=by simpa using g3
 rw [g3b];(with_reducible refine (dM _ _ _).mono ?_);rintro r w7 ⟨rfl,rfl⟩;go_wp2_with fail;by_cases g4:rd l 1=1
 case neg=>
  have g4b:(rd l 1 == 1)=false:=by simpa using g4
  rw [g4b];(with_reducible refine (dU _ _ _ (by decide)).mono ?_);rintro r w7 ⟨⟨at_,why,rfl,hw⟩,rfl⟩;exact qM.no (by rw [←HO.1];unfold ic;rw [if_pos g1,if_pos g2,if_pos g3,if_neg g4];rfl) hw R0.1 rfl rfl rfl
 have g4b:(rd l 1 == 1)=true:=by simpa using g4
 rw [g4b];(with_reducible refine (dM _ _ _).mono ?_);rintro r w7 ⟨rfl,rfl⟩;have hw4:wrap64 ((l.length:Int) - 4)=((l.length - 4:Nat):Int):=by unfold wrap64;omega
 obtain ⟨n,hn⟩:∃n:Nat,l.length - 4=n:=⟨_,rfl⟩;rw [hn] at hw4;have HN:=aa hn;have hn3:(3:Int)≤(n:Int):=by omega
 have hnl:(n:Int)+4=(l.length:Int):=by omega
 clear hn;go_wp2_with fail;rw [show (l.length:Int) - 4=(n:Int) by omega];have q:∀j:Nat,j<4→w7.cell? (ad.add (n+j))=some (.int .u8 (rd l ((n+j:Nat):Int))):=by
  intro j hj;obtain ⟨ad',e,k⟩:=mU HCW.1 (n+j) (by omega);injection e with e;subst e;exact k
 have q0:w7.cell? (ad.add n)=some (.int .u8 (rd l (n:Int))):=q 0 (by omega);have q1:w7.cell? ⟨ad.block,ad.off+(n+1),none⟩=some (.int .u8 (rd l ((n+1:Nat):Int))):=q 1 (by omega);have q2:w7.cell? ⟨ad.block,ad.off+(n+2),none⟩=some (.int .u8 (rd l ((n+2:Nat):Int))):=q 2 (by omega);have q3:w7.cell? ⟨ad.block,ad.off+(n+3),none⟩=some (.int .u8 (rd l ((n+3:Nat):Int))):=q 3 (by omega);clear q;have HBE:=aa (show yO (l.drop n)=rd l (n:Int)*16777216+rd l ((n+1:Nat):Int)*65536+rd l ((n+2:Nat):Int)*256+rd l ((n+3:Nat):Int) by
  unfold yO;rw [show rd (l.drop n) 0=rd l (n:Int) from ng l n 0,show rd (l.drop n) 1=rd l ((n+1:Nat):Int) from ng l n 1,show rd (l.drop n) 2=rd l ((n+2:Nat):Int) from ng l n 2,show rd (l.drop n) 3=rd l ((n+3:Nat):Int) from ng l n 3])
 have hw1:wrap64 ((n:Int)+1)=(n:Int)+1:=IntWalk.wrap64_in _ (by omega);have hw2:wrap64 ((n:Int)+2)=(n:Int)+2:=IntWalk.wrap64_in _ (by omega);have hw3:wrap64 ((n:Int)+3)=(n:Int)+3:=IntWalk.wrap64_in _ (by omega);have hy:∀i:Nat,i<l.length→0≤rd l (i:Int)∧rd l (i:Int)≤255:=fun i hi=>HB.1 _ (by simp only [rd,List.getD_eq_getElem?_getD,Int.toNat_natCast,List.getElem?_eq_getElem hi,Option.getD_some];exact List.getElem_mem hi);have y0:=hy n (by omega);have y1:=hy (n+1) (by omega);have y2:=hy (n+2) (by omega);have y3:=hy (n+3) (by omega);clear hy;obtain ⟨x0,hx0⟩:∃x,x=rd l (n:Int):=⟨_,rfl⟩;rw [←hx0] at q0 y0;obtain ⟨x1,hx1⟩:∃x,x=rd l ((n+1:Nat):Int):=⟨_,rfl⟩;rw [←hx1] at q1 y1;obtain ⟨x2,hx2⟩:∃x,x=rd l ((n+2:Nat):Int):=⟨_,rfl⟩;rw [←hx2] at q2 y2;obtain ⟨x3,hx3⟩:∃x,x=rd l ((n+3:Nat):Int):=⟨_,rfl⟩;rw [←hx3] at q3 y3;have HX:=aa (show yO (l.drop n)=x0*16777216+x1*65536+x2*256+x3 by rw [HBE.1,hx0,hx1,hx2,hx3]);clear hx0 hx1 hx2 hx3 HBE;have i0:(n:Int)<(l.length:Int):=by omega
 have i1:(n:Int)+1<(l.length:Int):=by omega
 have i2:(n:Int)+2<(l.length:Int):=by omega
 have i3:(n:Int)+3<(l.length:Int):=by omega
 have p1:(0:Int)≤(n:Int)+1:=by omega
 have p2:(0:Int)≤(n:Int)+2:=by omega
 have p3:(0:Int)≤(n:Int)+3:=by omega
 have t1:((n:Int)+1).toNat=n+1:=by omega
 have t2:((n:Int)+2).toNat=n+2:=by omega
 have t3:((n:Int)+3).toNat=n+3:=by omega
 have j1:IntKind.i64.wrap ((n:Int)+1)=(n:Int)+1:=aA _ (by omega);have j2:IntKind.i64.wrap ((n:Int)+2)=(n:Int)+2:=aA _ (by omega);have j3:IntKind.i64.wrap ((n:Int)+3)=(n:Int)+3:=aA _ (by omega);have v0:IntKind.u32.wrap x0=x0:=gf _ (by omega);have v1:IntKind.u32.wrap x1=x1:=gf _ (by omega);have v2:IntKind.u32.wrap x2=x2:=gf _ (by omega);have v3:IntKind.u32.wrap x3=x3:=gf _ (by omega);have u0:IntKind.u32.wrap (x0*16777216)=x0*16777216:=gf _ (by omega);have u1:IntKind.u32.wrap (x1*65536)=x1*65536:=gf _ (by omega);have u2:IntKind.u32.wrap (x2*256)=x2*256:=gf _ (by omega);go_quiet (fail);clear q0 q1 q2 q3 i1 i2 i3 p1 p2 p3 t1 t2 t3 j1 j2 j3;go_wp2_with fail;have hor:=DM x0 x1 x2 x3 y0 y1 y2 y3;rw [←HX.1] at hor;rw [hor];have hlen:(l.take n).length=n:=by rw [List.length_take];omega
 have R1:=aa (R0.1.step (ai (Below.refl _ _) nq));have HC1:=aa (Kd.aN HCW.1 (ai (Below.refl _ _) nq));have CW:=zN (some ad) c (l.take n) (w7.drewN nq) (Kd.lq HC1.1 (m:=n) (by omega)) (by omega) (by omega) (fun x hx=>HB.1 x (List.mem_of_mem_take hx));rw [hlen] at CW;replace CW:=aa CW;clear hor HX y0 y1 y2 y3 v0 v1 v2 v3 u0 u1 u2 R0;refine CW.1.mono ?_;rintro r w8 ⟨rfl,hD8⟩;have R0:=aa (R1.1.step (hD8.below.mono R1.1.size));have k2':=Kd.aN HC1.1 hD8.below;have HC2:=aa k2';clear R1 CW HC1 hD8 k2' k2 hlen;generalize hbe:yO (l.drop n)=be;have HBE2:=aa hbe;clear hbe;generalize hsu:((eH (l.take n):Nat):Int)=su;have HSU:=aa hsu;clear hsu;go_wp2_with fail;by_cases g5:su=be
 case neg=>
  have g5b:(su == be)=false:=by simpa using g5
  rw [g5b];(with_reducible refine (dU _ _ _ (by decide)).mono ?_);rintro r w7 ⟨⟨at_,why,rfl,hw⟩,rfl⟩;exact qM.no (by rw [←HO.1];unfold ic;rw [if_pos g1,if_pos g2,if_pos g3,if_pos g4,HN.1,HSU.1,HBE2.1,if_neg g5];rfl) hw R0.1 rfl rfl rfl
 have g5b:(su == be)=true:=by simpa using g5
 rw [g5b];(with_reducible refine (dM _ _ _).mono ?_);rintro r w7 ⟨rfl,rfl⟩;have k2:w7.cell? ⟨ad.block,ad.off+2,none⟩=some (.int .u8 (rd l 2)):=by
  obtain ⟨ad',e,k⟩:=mU HC2.1 2 (by omega);injection e with e;subst e;exact k
 obtain ⟨kd,hkd⟩:∃x,x=rd l 2:=⟨_,rfl⟩;rw [←hkd] at k2;have HKD:=aa hkd;clear hkd;go_wp2_with fail;(with_reducible refine (xK kd _).mono ?_);rintro r w9 ⟨rfl,rfl⟩;go_wp2_with fail;by_cases g6:1≤kd∧kd≤12
 case neg=>
  have g6b:(decide (1≤kd)&&decide (kd≤12))=false:=by rw [←Bool.decide_and,decide_eq_false_iff_not];exact g6
  rw [g6b];(with_reducible refine (dU _ _ _ (by decide)).mono ?_);rintro r w7 ⟨⟨at_,why,rfl,hw⟩,rfl⟩;exact qM.no (by rw [←HO.1];unfold ic;rw [if_pos g1,if_pos g2,if_pos g3,if_pos g4,HN.1,HSU.1,HBE2.1,if_pos g5,←HKD.1,if_neg g6];rfl) hw R0.1 rfl rfl rfl
 have g6b:(decide (1≤kd)&&decide (kd≤12))=true:=by rw [←Bool.decide_and,decide_eq_true_eq];exact g6
 rw [g6b];(with_reducible refine (dM _ _ _).mono ?_);rintro r w7 ⟨rfl,rfl⟩;have hlen3:((l.take n).drop 3).length=n - 3:=by rw [List.length_drop,List.length_take];omega
 have hn3i:(n:Int) - 3=((n - 3:Nat):Int):=by omega
 go_wp2_with fail;have hC3:Kd.C (Kd.int .u8) w7 (some ⟨ad.block,ad.off+3,none⟩) ((l.take n).drop 3).length ((l.take n).drop 3):=by
  have h:=Kd.pw (Kd.lq HC2.1 (m:=n) (by omega)) (m:=3) (by rw [List.length_take];omega) (c:=c) (by rw [List.length_take];omega);rw [if_neg (show ¬c=3 by omega)] at h;simpa [Kd.int,Kd.scalar,Addr.add] using h
 have NR:=oG (33::PT) ((l.take n).drop 3) (some ⟨ad.block,ad.off+3,none⟩) (c - 3) w7 hC3 (by rw [hlen3];omega) (by decide);rw [hlen3] at NR;have HL3:=aa hlen3;clear hlen3 hC3;refine NR.mono ?_;rintro r w8 ⟨br,rfl,hRd,hbr,hB8⟩;have RD:=aa hRd;have R8:=aa (R0.1.step (hB8.mono R0.1.size));have BR:=aa (Nat.le_trans R0.1.size hbr);clear NR hRd hbr hB8 R0;obtain ⟨e4,he4⟩:=R8.1.c4;obtain ⟨p3,hp3⟩:=R8.1.c3;obtain ⟨c2s,hc2,hs2⟩:=R8.1.c2;have H4:=aa he4;have H3:=aa hp3;have H2:=aa (And.intro hc2 hs2);clear he4 hp3 hc2 hs2;go_wp2_with ((with_reducible refine gS 4 86 rfl ?_);refine s1 (.int .i64 0) H4.1 ?_;intro w9 W9 G9;have k9:w9.cell? ⟨W.heap.size+1+1,0,none⟩=some (.int .i64 0):=cell_of W9.1 0);(with_reducible refine (dM _ _ _).mono ?_);rintro r w10 ⟨rfl,rfl⟩;have R9:=aa (show wX W _ W.heap.size (W.heap.size+1) (W.heap.size+1+1) (W.heap.size+1+1+1) from ⟨⟨c2s,(G9.1.block _ (ak H2.1.1) (fun e=>by injection e with e;omega)).trans H2.1.1,H2.1.2⟩,⟨p3,(G9.1.block _ (ak H3.1) (fun e=>by injection e with e;omega)).trans H3.1⟩,⟨0,W9.1⟩,R8.1.k2,R8.1.k3,R8.1.k4,R8.1.below.grown G9.1 R8.1.below.size (fun k e=>by injection e with e;subst e;omega),Nat.le_trans R8.1.size G9.1.size⟩);have RD9:=aa (gG.narrow RD.1 (Mv.bG G9.1 H4.1 (by decide)) (by decide));have LB:=aa (Nat.lt_of_lt_of_le (ak (RD.1.dI.choose_spec.choose_spec.1)) G9.1.size);clear R8 RD H2 H3 H4 W9 G9 k9;go_wp2_with fail;obtain ⟨W1,hW1⟩:∃x,x=(w10.alloc (.cells #[.pointer (some ⟨br,0,none⟩), .int .i64 ((n - 3:Nat):Int)] 267)).alloc (.cells (fF (sH kd) (.slice none 0 0) (.slice none 0 0) (.slice none 0 0) (.slice none 0 0) (.slice none 0 0)).toArray 214):=⟨_,rfl⟩;have PP:=aa (wQ (base:=W.heap.size+1+1+1) w10 br (n - 3) (sH kd) ((l.take n).drop 3) RD9.1 R9.1.size BR.1 rfl rfl rfl rfl rfl (fun x hx=>HB.1 x (List.mem_of_mem_take (bh hx))) (by omega));have RR:=aa (R9.1.step ((ah (ah (Below.refl w10.heap.size w10) (.cells #[.pointer (some ⟨br,0,none⟩), .int .i64 ((n - 3:Nat):Int)] 267)) (.cells (fF (sH kd) (.slice none 0 0) (.slice none 0 0) (.slice none 0 0) (.slice none 0 0) (.slice none 0 0)).toArray 214)).mono R9.1.size));simp only [hn3i,fF,sH] at hW1 PP RR ⊢;rw [←hW1] at PP RR ⊢;clear hW1 R9 RD9;have PP2:=aa (show fH W1 (W.heap.size+1+1+1) w10.heap.size br ((n - 3:Nat):Int) (w10.heap.size+1) (sH kd) ((l.take n).drop 3) from PP.1);have NX:=aa (lP.start kd g6.1 g6.2);have FS:=aa (rp kd).1;have FK:=aa (yM kd g6.1 g6.2 W1);have OO:=aa (show Option.map (·.k) ((iH (fieldsOf kd) (sH kd) ((l.take n).drop 3)).bind fun q=>if q.2.length=0 then some q.1 else none)=o by
  rw [←HO.1];unfold ic;rw [if_pos g1,if_pos g2,if_pos g3,if_pos g4,HN.1,HSU.1,HBE2.1,if_pos g5,←HKD.1,if_pos g6])
 have S1:=aa (show ((n - 3:Nat):Int)≤1000000000 by omega);clear PP HC HCW HC2 HB k0 k1 k0' k2 hw4 hw1 hw2 hw3 LB BR HSU HBE2 HKD HL3 HN g1 g2 g3 g4 g5 g1b g2b g3b g4b g5b g6b i0 hn3 hnl hn3i;generalize (l.take n).drop 3=rest at PP2 OO;generalize fieldsOf kd=ts at NX FS FK OO;have KK:=aa (show (sH kd).k=kd from rfl);generalize sH kd=g0 at PP2 OO NX KK;generalize w10.heap.size+1=bm at PP2 ⊢;generalize w10.heap.size=bc at PP2 ⊢;generalize ((n - 3:Nat):Int)=size at PP2 S1 ⊢;generalize W.heap.size+1+1+1=base at PP2 RR;refine FK.1.mono ?_;rintro r w2 ⟨AF_,rfl,hRow,hB⟩;have P2:=aa (PP2.1.below hB);have R2:=aa (RR.1.step (hB.mono PP2.1.b4));have F2:=aa hRow;clear hRow hB PP2 RR FK HO;go_wp2_with fail;go_loopw [12,100] (fun v12 v100 wr=>∃(i:Nat) (gi:Mg) (li:List Int),v100 = .int .i64 (i:Int)∧i≤ts.length∧af (fH wr base bc br size bm gi li)∧af (wX W wr W.heap.size (W.heap.size+1) (W.heap.size+1+1) base)∧af (oS wr AF_ ts)∧af (Option.map (·.k) ((iH (ts.drop i) gi li).bind fun q=>if q.2.length=0 then some q.1 else none)=o)∧af (lP (ts.drop i) gi∨ts.drop i=[])∧af (gi.k=kd)) (fun _ v _=>ts.length - (intOf v).toNat)
 case atStart=>exact ⟨0,g0,rest,rfl,aI _,P2,R2,F2,OO,⟨.inl NX.1⟩,KK⟩
 case round=>
  obtain ⟨i,gi,li,rfl,hi,P,R,F,O,N,K⟩:=hrel;clear P2 R2 F2 OO NX KK;by_cases hlt:i<ts.length
  case neg=>
   have hii:¬(i:Int)<(ts.length:Int):=by omega
   have O1:=O.1;rw [List.drop_eq_nil_of_le (by omega),iH,aj] at O1;have LF:=aa (sy PT br li 0 wr P.1.cu.rd);have AT:=aa (at_ bc br size li 0 wr P.1.cu P.1.s0 P.1.s1);obtain ⟨v4,v5,v14,v15,v16,hb,hr⟩:=P.1.ms.at_;obtain ⟨c2s,hc2,hs2⟩:=R.1.c2;obtain ⟨p3,hp3⟩:=R.1.c3;obtain ⟨e4,he4⟩:=R.1.c4;have MB:=aa hb;have H2:=aa (And.intro hc2 hs2);have H3:=aa hp3;have H4:=aa he4;have ONE:=aa (vV gi v4 v5 v14 v15 v16 (by obtain ⟨_,_,rfl⟩:=Kd.aG hr.r4;rfl) (by obtain ⟨_,_,rfl⟩:=Kd.aG hr.r5;rfl) (by obtain ⟨_,_,rfl⟩:=Kd.aG hr.r14;rfl) (by obtain ⟨_,_,rfl⟩:=Kd.aG hr.r15;rfl) (by obtain ⟨_,_,rfl⟩:=Kd.aG hr.r16;rfl));have hb3:=P.1.b3;have k2:=R.1.k2;have k3:=R.1.k3;have k4:=R.1.k4;have NE:=aa (show bm≠W.heap.size∧bm≠W.heap.size+1∧bm≠W.heap.size+1+1 by omega);have R5:=R;clear hb hr hc2 hs2 hp3 he4 O F N P R hb3 k2 k3 k4;go_wp2_with fail;refine LF.1.mono ?_;rintro r w3 ⟨rfl,rfl⟩;go_wp2_with fail;refine AT.1.mono ?_;rintro r w4 ⟨rfl,m4,rfl⟩;clear LF AT;go_wp2_with fail;by_cases g7:li.length=0
   case neg=>
    have g7b:((li.length:Int) == 0)=false:=by rw [bi];omega
    rw [g7b];rw [if_neg g7] at O1;have O4:=aa (show o=none from O1.symm);clear O1 g7;(with_reducible refine (dU _ _ _ (by decide)).mono ?_);rintro r w7 ⟨⟨at_,why,rfl,hw⟩,rfl⟩;exact qM.no O4.1 hw (R5.1.step (ai (Below.refl _ _) m4)) rfl rfl rfl
   have g7b:((li.length:Int) == 0)=true:=by rw [gw];omega
   rw [g7b];rw [if_pos g7] at O1;have O4:=aa (show o=some gi.k from by rw [←O1,dh]);clear O1 g7;(with_reducible refine (dM _ _ _).mono ?_);rintro r w7 ⟨rfl,rfl⟩;have MB1:=aa (show (w3.drewN m4).heap[bm]? = some (.cells (fF gi v4 v5 v14 v15 v16).toArray 214 (0,0)) from MB.1);have H21:=aa (show (w3.drewN m4).heap[W.heap.size]? = some (.cells c2s 214 (0,0)) from H2.1.1);have H31:=aa (show (w3.drewN m4).heap[W.heap.size+1]? = some (.cells #[.int .i64 p3] 3 (0,0)) from H3.1);have H41:=aa (show (w3.drewN m4).heap[W.heap.size+1+1]? = some (.cells #[.int .i64 e4] 33 (0,0)) from H4.1);have R6:=aa (R5.1.step (ai (Below.refl _ _) m4));generalize w3.drewN m4=w5 at MB1 H21 H31 H41 R6 ⊢;clear MB H3 H4 R5;go_wp2_with (first
    | ((with_reducible refine az (N:=114) rfl ?_);refine fL (t:=214) (p:= .tmp 10) rfl rfl ?haddr MB1.1 Tryz.underlying214 ?hd ?hi ?_;(case haddr=>rfl);(case hd=>rfl);(case hi=>kernel_rfl))
    | ((with_reducible refine gS 2 114 rfl ?_);refine dl (t:=214) (p:= .tmp 2) (x:= .tmp 114) (u:= .agg (fF gi v4 v5 v14 v15 v16).toArray) rfl rfl rfl (fF gi v4 v5 v14 v15 v16) ?addr ?ex H21.1 ?eu ?ht ?hf ?h1 ?_;(case addr=>rfl);(case ex=>rfl);(case eu=>rfl);(case ht=>kernel_rfl);(case hf=>exact H2.1.2.symm);(case h1=>exact ONE.1);intro w8 hW hG;have W8:=aa hW;have G8:=aa hG;have H32:=aa ((hG.block _ (ak H31.1) (fun e=>by injection e with e;omega)).trans H31.1);have H42:=aa ((hG.block _ (ak H41.1) (fun e=>by injection e with e;omega)).trans H41.1);clear hW hG)
    | ((with_reducible refine fq (t:=3) (p:=3) (v:= .const (.int .i64 0)) rfl ?_);refine s1 (.int .i64 0) H32.1 ?_;intro w9 W9 G9;have H43:=aa ((G9.1.block _ (ak H42.1) (fun e=>by injection e with e;omega)).trans H42.1);have W82:=aa ((G9.1.block _ (ak W8.1) (fun e=>by injection e with e;omega)).trans W8.1))
    | ((with_reducible refine fq (t:=33) (p:=4) (v:= .const (.int .i64 0)) rfl ?_);refine s1 (.int .i64 0) H43.1 ?_;intro wA WA GA;have W92:=aa ((GA.1.block _ (ak W9.1) (fun e=>by injection e with e;omega)).trans W9.1);have W83:=aa ((GA.1.block _ (ak W82.1) (fun e=>by injection e with e;omega)).trans W82.1)))
   have BA:=aa (((R6.1.below.grown G8.1 R6.1.below.size (fun k e=>by injection e with e;omega)).grown G9.1 (Nat.le_trans R6.1.below.size G8.1.size) (fun k e=>by injection e with e;omega)).grown GA.1 (Nat.le_trans R6.1.below.size (Nat.le_trans G8.1.size G9.1.size)) (fun k e=>by injection e with e;omega));exact qM.DC O4.1 rfl rfl ONE.1 rfl W83.1 W92.1 WA.1 BA.1 rfl rfl rfl
  obtain ⟨gF,rfl,hF⟩:=F.1.get i hlt;have O1:=O.1;have N1:=N.1;rw [ap hlt] at O1 N1;generalize ht:ts[i]=t at O1 N1 hF;have N2:=aa (N1.resolve_right (by simp));have O2:=aa O1;clear O1 N1 O N ht;go_wp2_with fail;rw [sN t (N2.1.sub t List.mem_cons_self),Oper.upon_enter];refine (N2.1.Cp wr base bc br size bm li P.1).mono ?_;rintro r w3 ⟨hF3,hres⟩;have R3:=aa (R.1.step hF3.below);have F3:=aa (F.1.mv hF3.mv);have K3:=aa (fun g' l' h=>(za t gi li (N2.1.sub t List.mem_cons_self) g' l' h).trans K.1);have O3:=O2.1;rw [iH] at O3;have N3:=aa (N2.1.next P.1.Af (l:=li));clear O2 N2 K R F hF3 hF;generalize gE t gi li=q at hres O3 N3 K3;rcases q with _|⟨g',l'⟩
  ·obtain ⟨at_,why,rfl,hw⟩:=hres;have O4:=aa (show o=none from O3.symm);clear O3 N3 K3;go_wp2_with fail;exact qM.no O4.1 hw R3.1 rfl rfl rfl
  ·obtain ⟨rfl,hP⟩:=hres;have P3:=aa hP;have O4:=aa (show Option.map (·.k) ((iH (ts.drop (i+1)) g' l').bind fun q=>if q.2.length=0 then some q.1 else none)=o from O3);have N4:=aa (N3.1 g' l' rfl);have K4:=aa (K3.1 g' l' rfl);clear O3 N3 K3 hP P;have hw:wrap64 ((i:Int)+1)=(i:Int)+1:=IntWalk.wrap64_in _ (by have:=FS.1;omega);go_wp2_with fail;go_roundw
   case rel=>exact ⟨i+1,g',l',by go_num,by omega,P3,R3,F3,O4,N4,K4⟩
   case measure=>
    rw [hw];show ts.length - ((i:Int)+1).toNat<ts.length - (i:Int).toNat;omega
end Go.Proofs.YtpekmdpbfjdjkaaGreat.fE
namespace Go.Proofs.YtpekmdpbfjdjkaaGreat.dO
open Go.RowKit ag.ax ag.aV ag.aU aD
theorem lV (w:World) (o:Obj):(w.alloc o).heap[w.heap.size]? = some o:=by
 show (w.heap.push o)[w.heap.size]? = _;simp
theorem tH {W w:World} {o p:Obj} (hW:W=(w.alloc o).alloc p):W.heap[w.heap.size]? = some o∧W.heap[w.heap.size+1]? = some p∧Below w.heap.size w W:=by
 subst hW;refine ⟨(cm (w.alloc o) p w.heap.size (by simp)).trans (lV w o),?_,((Below.refl _ _).alloc (Nat.le_refl _) _).alloc (by simp) _⟩;have:=lV (w.alloc o) p;rw [ke] at this;exact this
theorem ju {w:World} {b:Nat} {cs:Array Value} {t:TypeId} {f:Nat × Nat} (h:w.heap[b]? = some (.cells cs t f)) (j:Nat):w.cell? ⟨b,j,none⟩=cs[j]? :=by
 simp only [World.cell?,h];rfl
def fU (h q win:Int):Array Value:=#[.int .u8 h, .int .i64 q, .int .i64 win, .int .u64 0, .int .u64 0, .slice none 0 0, .int .u64 0, .int .u8 h, .int .u64 win, .int .u64 0, .slice none 0 0]
def kz (W:World) (base:Nat) (self q win:Int) (h:Nat) (v:Value):Prop:=
 ((h:Int)=self∧v = .pointer none)∨((h:Int)≠self∧∃b,base≤b∧v = .pointer (some ⟨b,0,none⟩)∧W.heap[b]? = some (.cells (fU h q win) 168 (0,0)))
theorem kz.move {W W':World} {base:Nat} {self q win:Int} {h:Nat} {v:Value} (p:kz W base self q win h v) (hm:∀(b:Nat) (cs:Array Value),W.heap[b]? = some (Obj.cells cs 168 (0,0))→W'.heap[b]? = W.heap[b]?):kz W' base self q win h v:=by
 rcases p with p|⟨hne,b,hb,rfl,hh⟩
 ·exact .inl p
 ·exact .inr ⟨hne,b,hb,rfl,(hm b _ hh).trans hh⟩
def ei (W:World) (base:Nat) (P H:Nat) (self q win:Int) (i:Nat):Prop:=
 ∃vs:List Value,W.ownsRow base 161 1 (.slice (some ⟨P,0,none⟩) H H) H vs∧(∀h v,h<i→vs[h]? = some v→kz W base self q win h v)∧(∀h,i≤h→h<H→vs[h]? = some (.pointer none))
theorem ei.lt {W:World} {base P H:Nat} {self q win:Int} {i:Nat} (h:ei W base P H self q win i) (hH:0<H):P<W.heap.size:=by
 obtain ⟨vs,ho,_⟩:=h;exact nC ho P rfl
theorem ei.old {W:World} {base P H:Nat} {self q win:Int} {i:Nat} (h:ei W base P H self q win i) (hi:i<H):W.cell? ⟨P,i,none⟩=some (.pointer none)∧W.frozen? ⟨P,i,none⟩=false:=by
 obtain ⟨vs,ho,_,hn⟩:=h;exact ⟨(ho.cellAt i (by omega)).trans (hn i (Nat.le_refl _) hi),ho.frozenAt i⟩
theorem ei.skip {W:World} {base P H:Nat} {self q win:Int} {i:Nat} (h:ei W base P H self q win i) (hi:i<H) (he:(i:Int)=self):ei W base P H self q win (i+1):=by
 obtain ⟨vs,ho,hm,hn⟩:=h;refine ⟨vs,ho,fun h v hh hv=>?_,fun h h1 h2=>hn h (by omega) h2⟩;rcases dg h i with h3|h3
 ·exact hm h v h3 hv
 ·obtain rfl:h=i:=by omega
  rw [hn h (Nat.le_refl _) hi] at hv;exact .inl ⟨he,(ar hv).symm⟩
theorem ei.made {W:World} {base P H:Nat} {self q win:Int} {i:Nat} (h:ei W base P H self q win i) (hi:i<H) (hne:(i:Int)≠self) (hb:base≤W.heap.size) :
 ei ((W.setCell ⟨P,i,none⟩ (.pointer (some ⟨W.heap.size,0,none⟩))).alloc (.cells (fU i q win) 168)) base P H self q win (i+1):=by
 have hP:P<W.heap.size:=h.lt (by omega);obtain ⟨vs,ho,hm,hn⟩:=h;obtain ⟨hst0,hg⟩:=ho.stored i (.pointer (some ⟨W.heap.size,0,none⟩));have hst:=hst0.alloc (.cells (fU i q win) 168);have hz:(W.setCell ⟨P,i,none⟩ (.pointer (some ⟨W.heap.size,0,none⟩))).heap.size=W.heap.size:=by simp [World.setCell]
 have hl:vs.length=H:=by have:=ho.1;omega
 refine ⟨_,hst,fun h v hh hv=>?_,fun h h1 h2=>?_⟩
 ·rcases dg h i with h3|h3
  ·rw [List.getElem?_set_ne (by omega)] at hv;refine kz.move (hm h v h3 hv) (fun b cs hb'=>?_);have hbP:b≠P:=by
    rintro rfl;obtain ⟨cells,hc⟩:=gN ho b rfl;rw [hc] at hb';injection hb' with hb';injection hb' with _ hb' _;exact absurd hb' (by decide)
   have hbl:b<W.heap.size:=(Array.getElem?_eq_some_iff.1 hb').1;exact (cm _ _ b (by rw [hz];exact hbl)).trans (ij _ _ _ b hbP)
  ·obtain rfl:h=i:=by omega
   rw [List.getElem?_set_self (by omega)] at hv;obtain rfl:=ar hv;refine .inr ⟨hne,_,hb,rfl,?_⟩;have:=lV (W.setCell ⟨P,h,none⟩ (.pointer (some ⟨W.heap.size,0,none⟩))) (.cells (fU h q win) 168);rw [hz] at this;exact this
 ·rw [List.getElem?_set_ne (by omega)];exact hn h (by omega) h2
def sr (W:World) (base:Nat) (self q win:Int) (H B:Nat):Prop:=
 base≤B∧∃P,W.heap[B]? = some (.cells #[.slice (some ⟨P,0,none⟩) H H] 160 (0,0))∧ei W base P H self q win H
def jf (T:Nat) (W W':World):Prop:=∀(b:Nat) (cs:Array Value) (t:TypeId),W.heap[b]? = some (Obj.cells cs t (0,0))→t≠T→W'.heap[b]? = W.heap[b]?
theorem jf.below {T:Nat} {W W':World} (h:Below W.heap.size W W'):jf T W W':=fun b cs t hb _=>h.block b (Array.getElem?_eq_some_iff.1 hb).1
theorem jf.set {T:Nat} {W:World} {g:Nat} {cells:Array Value} (hg:W.heap[g]? = some (Obj.cells cells T (0,0))) (j:Nat) (u:Value):jf T W (W.setCell ⟨g,j,none⟩ u):=fun b cs t hb ht=>by
 refine ij W ⟨g,j,none⟩ u b (fun (e:b=g)=>?_);subst e;rw [hg] at hb;injection hb with hb';injection hb' with _ hb' _;exact ht hb'.symm
theorem jf.trans {T:Nat} {A B C:World} (h:jf T A B) (k:jf T B C):jf T A C:=fun b cs t hb ht=>(k b cs t ((h b cs t hb ht).trans hb) ht).trans (h b cs t hb ht)
theorem yf {α:Type} {d:Kd α} {e T:Nat} {W W':World} {base:Nat} {ok:Nat→Prop} {v:Value} {xs:List α} (h:d.R e W base ok v xs) (hm:jf T W W') (ht:∀q,q∈e::d.E→q≠T):d.R e W' base ok v xs:=
 Kd.bZ (Kd.lH (Kd.bS h) (fun k hk=>by
  obtain ⟨_,_,_,q,hq,cells,hc⟩:=hk;exact hm k cells q hc (ht q hq))) (fun _ hk=>hk.1)
theorem oD {e T:Nat} {W W':World} {base size n:Nat} {v:Value} {xs:List Value} (h:W.ownsRow base e size v n xs) (hm:jf T W W') (ht:e≠T):W'.ownsRow base e size v n xs:=
 nP h (fun k hk=>by
  obtain ⟨cells,hc⟩:=gN h k hk;exact hm k cells e hc ht)
theorem ei.move {T:Nat} {W W':World} {base P H:Nat} {self q win:Int} {i:Nat} (h:ei W base P H self q win i) (hm:jf T W W') (h1:T≠161) (h2:T≠168):ei W' base P H self q win i:=by
 obtain ⟨vs,ho,hp,hn⟩:=h;exact ⟨vs,oD ho hm (Ne.symm h1),fun h v hh hv=>kz.move (hp h v hh hv) (fun b cs hc=>hm b cs _ hc (Ne.symm h2)),hn⟩
theorem sr.move {T:Nat} {W W':World} {base:Nat} {self q win:Int} {H B:Nat} (h:sr W base self q win H B) (hm:jf T W W') (h1:T≠161) (h2:T≠168) (h3:T≠160):sr W' base self q win H B:=by
 obtain ⟨hb,P,hE,hP⟩:=h;exact ⟨hb,P,(hm B _ _ hE (Ne.symm h3)).trans hE,hP.move hm h1 h2⟩
theorem ww:(Tryz.prog.info? 161).map (fun i=>(i.zero,i.size,i.bytes))=some (some (.pointer none),1,8):=by kernel_rfl
theorem uF (self:Int) (H:Nat) (q win:Int) (w:World) (h1:1≤H) (h2:H≤16) (s0:0≤self) (s1:self<H) (q1:1≤q) (q2:q≤16) (w1:1≤win) (w2:win≤q) :
 Calls Tryz.prog 93 #[.int .u8 self, .int .i64 H, .int .i64 q, .int .i64 win] w fun e w'=>
  ∃B,e = .returned (.tuple #[.pointer (some ⟨B,0,none⟩), .int .i64 0])∧sr w' w.heap.size self q win H B∧Below w.heap.size w w':=by
 obtain ⟨i0,hi,hz0,hz1,hz2⟩:=info_parts ww;have HF:=aa (gJ.calls self H q win true · (by
  unfold gJ.f;have:wrap64 self=self:=by unfold wrap64;omega
  rw [if_pos (by omega),if_pos (by omega),this,if_pos (by omega),if_pos (by omega),if_pos (by omega),if_pos (by omega)];simp only [bP,decide_eq_true_eq];omega))
 go_in;go_wp2_with fail;refine (HF.1 _).mono ?_;rintro e w' ⟨rfl,⟨n1,rfl⟩⟩;go_wp2_with (at_make;refine wpList_make_full _ rfl _ _ 158 rfl w.heap.size 161 i0 (.pointer none) 1 Tryz.underlying158 hi hz0 hz1 _ _ _ _ H rfl rfl rfl rfl ?b2 ?b3 ?b4 ?_;(case b2=>rw [hz2];omega);(case b3=>unfold maxLen;omega);(case b4=>simp);intro wm hown hgrow);have hst:ei (wm.alloc (.cells #[.slice (some ⟨w.heap.size,0,none⟩) H H] 160)) w.heap.size w.heap.size H self q win 0:=
  ⟨_,hown.alloc _,fun h v hh=>absurd hh (by omega),fun h _ hh=>by
   rw [show (Value.pointer none).cells=#[Value.pointer none] from rfl,toList_madeCells_one];simp [hh]⟩
 have hlt:w.heap.size<wm.heap.size:=nC hown w.heap.size rfl;have hbm:Below w.heap.size w (wm.alloc (.cells #[.slice (some ⟨w.heap.size,0,none⟩) H H] 160)):=
  ((Below.refl _ w).grown ⟨hgrow.os,hgrow.tape,hgrow.output,hgrow.size,hgrow.block⟩ (Nat.le_refl _) (fun k e=>by cases e)).alloc (by omega) _
 have hE:=lV wm (.cells #[.slice (some ⟨w.heap.size,0,none⟩) H H] 160);have HST:=aa hst;have HBM:=aa hbm;have HE:=aa hE;clear hst hbm hE hown hgrow hi hz0 hz1 hz2;go_loopw [24] (fun v24 wr=>∃i:Nat,i≤H∧v24 = .int .i64 i∧af (ei wr w.heap.size w.heap.size H self q win i)∧af (wr.heap[wm.heap.size]? = some (.cells #[.slice (some ⟨w.heap.size,0,none⟩) H H] 160 (0,0)))∧af (Below w.heap.size w wr)) (fun v _=>H - (intOf v).toNat)
 case atStart=>exact ⟨0,aI _,rfl,HST,HE,HBM⟩
 case round=>
  clear HST HBM HE;obtain ⟨i,hi,rfl,HP,HE,HB⟩:=hrel;by_cases hlt2:i<H
  ·obtain ⟨hc,hf⟩:=HP.1.old hlt2;have hPlt:=HP.1.lt (by omega);have he0:wr.cell? ⟨wm.heap.size,0,none⟩=some (.slice (some ⟨w.heap.size,0,none⟩) H H):=by rw [ju HE.1 0];rfl
   have hBs:=HB.1.size;by_cases hself:(i:Int)=self
   ·have hs1:((i:Int) != self)=false:=by simp [hself]
    have hs2:((i:Int) == self)=true:=by simp [hself]
    have HS:=aa hself;clear hself;go_wp2;go_roundw
    case rel=>exact ⟨i+1,by omega,by go_num,⟨HP.1.skip hlt2 HS.1⟩,HE,HB⟩
    case measure=>simp [intOf];omega
   ·have hs1:((i:Int) != self)=true:=by simp [hself]
    have hs2:((i:Int) == self)=false:=by simp [hself]
    have HS:=aa hself;clear hself;go_wp2;have hEl:wm.heap.size<wr.heap.size:=(Array.getElem?_eq_some_iff.1 HE.1).1;have HNe:=aa (show wm.heap.size≠w.heap.size by omega);go_roundw
    case rel=>
     refine ⟨i+1,by omega,by go_num,⟨HP.1.made hlt2 HS.1 (by omega)⟩,⟨?_⟩,⟨?_⟩⟩
     ·exact (cm _ _ _ (by simpa [World.setCell] using hEl)).trans ((ij wr ⟨w.heap.size,i,none⟩ _ _ HNe.1).trans HE.1)
     ·exact (HB.1.setCell (p:=⟨w.heap.size,i,none⟩) (Nat.le_refl _) _).alloc (by simpa [World.setCell] using hBs) _
    case measure=>simp [intOf];omega
  ·have hiH:i=H:=by omega
   go_wp2;go_ret2;exact ⟨_,rfl,⟨by omega,_,HE.1,hiH▸HP.1⟩,HB.1⟩
end Go.Proofs.YtpekmdpbfjdjkaaGreat.dO
namespace Go.Proofs.YtpekmdpbfjdjkaaGreat.dO
open Go Go.RowKit ag.ax ag.aV ag.aU aD fr iK
theorem vK (A:Option Addr) (c:Nat) (l:List Int) (w:World) (hl:Kd.C (Kd.int .u8) w A l.length l) (hc:l.length≤c) (hL:l.length≤100000000) :
 Calls Tryz.prog 104 #[.slice A l.length c] w fun e w'=>∃v,e = .returned v∧Kd.R (Kd.int .u8) 5 w' w.heap.size (fun _=>True) v l∧Below w.heap.size w w':=by
 have e1:∀(n c:Nat) (W:World),(Go.binOp .eql 32 (.slice none n c) (.slice none 0 0)).run Tryz.prog W = .ok (.bool true) W:=fun _ _ _=>by kernel_rfl
 have e2:∀(ad:Addr) (n c:Nat) (W:World),(Go.binOp .eql 32 (.slice (some ad) n c) (.slice none 0 0)).run Tryz.prog W = .ok (.bool false) W:=fun _ _ _ _=>by kernel_rfl
 have HC:=aa hl;clear hl;cases A with
 | none=>
  go_in;go_wp2_with fail;go_ret;have hl:l=[]:=by
   cases l with
   | nil=>rfl
   | cons x r=>
    obtain ⟨ad,_,e,_⟩:=Kd.fw HC.1 0 0 (by omega) (by simp);cases e
  subst hl;exact ⟨_,rfl,Kd.cY _ _ _ _ _,Below.refl _ _⟩
 | some ad=>
  go_in;go_wp2_with ((with_reducible refine aM (b:= .append) (xs:=#[.tmp 5, .tmp 6]) rfl ?_);at_builtin;refine Kd.dr (Kd.int .u8) (w0:=w) w.heap.size rfl (.tmp 5) (.tmp 6) 32 5 (.int .u8 0) 1 rfl Tryz.underlying32 ff rfl (by decide) (by omega) (.slice (some ⟨w.heap.size,0,none⟩) 0 0) ([]:List Int) l (some ad) l.length c (fun _=>True) (fun _=>False) rfl rfl ?aO ?aR (fun _ _ h=>h) (fun _ h=>h.elim) ?aF ?aB ?aS ?aL ?_;(case aO=>exact ⟨fun _ _=>trivial,[],World.ownsRow_made w #[] 0 (Nat.le_refl _) (by unfold maxLen;omega) (by simp),dn.none _ _⟩);(case aR=>exact Kd.eU HC.1 _);(case aF=>exact (fun _ _=>trivial));(case aB=>exact ah (Below.refl _ _) _);(case aS=>simp);(case aL=>simp;omega);intro v1 w2 h1 h2 h3 h4;have Z1:=aa h1;have Z2:=aa h2;clear h1 h2 h3 h4);go_ret;exact ⟨v1,rfl,Z1.1,Z2.1⟩
def Bl (l:List (List Int)):Prop:=∀x∈l,x.length≤100000000
theorem xb (A:Option Addr) (c:Nat) (l:List (List Int)) (w:World) (hl:Kd.C (Kd.slice 5 (Kd.int .u8)) w A l.length l) (hc:l.length≤c) (hL:l.length≤100000000) (hB:Bl l) :
 Calls Tryz.prog 111 #[.slice A l.length c] w fun e w'=>∃v,e = .returned v∧Kd.R (Kd.slice 5 (Kd.int .u8)) 32 w' w.heap.size (fun _=>True) v l∧Below w.heap.size w w':=by
 have HC:=aa hl;have HB:=aa hB;have CL:=aa vK;clear hl hB;go_in;go_wp2_with fail;go_loopw [3,8] (fun v3 v8 wr=>∃(i:Nat),i≤l.length∧v8 = .int .i64 i∧af (Kd.R (Kd.slice 5 (Kd.int .u8)) 32 wr w.heap.size (fun _=>True) v3 (l.take i))∧af (Below w.heap.size w wr)) (fun _ v _=>l.length - (intOf v).toNat)
 case atStart=>exact ⟨0,aI _,rfl,⟨by rw [k7];exact Kd.cY _ _ _ _ _⟩,⟨Below.refl _ _⟩⟩
 case round=>
  obtain ⟨i,hi,rfl,HR,HW⟩:=hrel;by_cases hlt:i<l.length
  ·obtain ⟨ad,c1,e1,_,hK,hc0⟩:=Kd.fw (Kd.aN HC.1 HW.1) [] (i:Int) (by omega) (by omega);obtain ⟨A1,cc,rfl,hcc,hC1⟩:=hK;have hx0:=hc0 0 _ rfl;subst e1;simp only [Int.toNat_natCast,show (Kd.slice 5 (Kd.int .u8)).sz=1 from rfl,Nat.mul_one,Nat.add_zero,List.getD_eq_getElem?_getD,List.getElem?_eq_getElem hlt,Option.getD_some] at hx0 hcc hC1;have hmem:l[i]∈l:=List.getElem_mem hlt;have htk:l.take (i+1)=l.take i++[l[i]]:=(bz hlt);have HX:=aa (HB.1 _ hmem);have HT:=aa htk;generalize l[i]=x at hx0 hcc hC1 HX HT;have HC1:=aa hC1;clear hC1 hc0 htk hmem;go_wp2_with fail;refine (CL.1 A1 cc x wr HC1.1 hcc HX.1).mono ?_;rintro r w2 ⟨v2,rfl,hR2,hB2⟩;obtain ⟨Av,cv,rfl⟩:=Kd.aG hR2;have R2:=aa (Kd.bR HR.1 hB2);have B2:=aa (HW.1.trans (hB2.mono HW.1.size));have S2:=aa (Nat.le_trans HW.1.size hB2.size);have M2:=aa (show (Kd.slice 5 (Kd.int .u8)).M w2 w.heap.size (fun k=>wr.heap.size≤k) x [.slice Av x.length cv] from ⟨_,rfl,Kd.cI (Kd.bZ (Kd.bS hR2) (fun k hk=>hk.2.1)) HW.1.size⟩);have O2:=aa (show ∀k,wr.heap.size≤k→True∧some k≠u3.ownBlock from fun k hk=>⟨trivial,fun e=>by have:=((Kd.bS HR.1).1 k e.symm).2.2.1;omega⟩);have L2:=aa (show (l.take i).length≤100000000 by rw [List.length_take];omega);clear HR HW hR2 hB2 HC1;go_wp2_with ((with_reducible refine aM (b:= .append) (xs:=#[.tmp 12, .tmp 15]) rfl ?_);at_builtin;refine Kd.cG (Kd.slice 5 (Kd.int .u8)) (w0:=w) w.heap.size rfl (.tmp 12) (.tmp 15) 46 32 (.slice none 0 0) 24 rfl Tryz.underlying46 sd rfl (by decide) (by omega) u3 (l.take i) x [.slice Av x.length cv] (fun _=>True) (fun k=>wr.heap.size≤k) rfl rfl ?aP ?aK (fun _ _=>trivial) ?aO ?aB ?aS ?aL ?_;(case aP=>exact M2.1);(case aK=>exact O2.1);(case aO=>exact R2.1);(case aB=>exact B2.1);(case aS=>exact S2.1);(case aL=>have:=L2.1;omega);intro v1 w3 h1 h2 h3 h4;have Z1:=aa h1;have Z2:=aa h2;clear h1 h2 h3 h4);go_roundw
   case rel=>exact ⟨i+1,by omega,by go_num,⟨by rw [HT.1];exact Z1.1⟩,Z2⟩
   case measure=>
    show l.length - ((i:Int)+1).toNat<l.length - (i:Int).toNat;omega
  ·have HR2:=aa (show Kd.R (Kd.slice 5 (Kd.int .u8)) 32 wr w.heap.size (fun _=>True) u3 l by rw [←List.take_of_length_le (Nat.le_of_not_lt hlt)];exact HR.1);clear HR;go_wp2_with fail;go_ret;exact ⟨_,rfl,HR2.1,HW.1⟩
end Go.Proofs.YtpekmdpbfjdjkaaGreat.dO
namespace Go.Proofs.YtpekmdpbfjdjkaaGreat.dO
open Go Go.RowKit ag.ax
def Dz:Go.Shelf.Ren:=⟨fun n=>if n=129 then 153 else n,fun n=>if n=53 then 57 else if n=46 then 81 else n,fun n=>n⟩
theorem xX:Go.Proofs.Lays.n129 Tryz.prog Dz where
 mixed:=by kernel_rfl
 f129:=by kernel_rfl
 t3:=by kernel_rfl
 a3:=fun _=>by kernel_rfl
 z3:=fun _=>by kernel_rfl
 v3:=fun _=>by kernel_rfl
 t4:=by kernel_rfl
 a4:=fun _=>by kernel_rfl
 z4:=fun _=>by kernel_rfl
 v4:=fun _=>by kernel_rfl
 t5:=by kernel_rfl
 a5:=fun _=>by kernel_rfl
 z5:=fun _=>by kernel_rfl
 v5:=fun _=>by kernel_rfl
 t9:=by kernel_rfl
 a9:=fun _=>by kernel_rfl
 z9:=fun _=>by kernel_rfl
 v9:=fun _=>by kernel_rfl
 t46:=by kernel_rfl
 a46:=fun _=>by kernel_rfl
 z46:=fun _=>by kernel_rfl
 v46:=fun _=>by kernel_rfl
 t53:=by kernel_rfl
 a53:=fun _=>by kernel_rfl
 z53:=fun _=>by kernel_rfl
 v53:=fun _=>by kernel_rfl
theorem Ci (x:Int) (w:World) (h0:0≤x) (h1:x≤18446744073709551615) :
 Calls Tryz.prog 153 #[.int .u64 x] w fun e w'=>e = .returned (.int .i64 (Lib.bitLen x.toNat))∧w'=w:=Any.bits_Len64 xX x w h0 h1
theorem lz (n:Nat) (h:n<2 ^ 64) (h0:n≠0):Lib.bitLen n=Nat.log2 n+1:=by
 have aux:∀f n:Nat,n<2 ^ f→n≠0→Lib.bitLenAux f n=Nat.log2 n+1:=by
  intro f;induction f with
  | zero=>intro n h h0;omega
  | succ f ih=>
   intro n h h0;rw [Lib.bitLenAux,if_neg h0];by_cases h2:n / 2=0
   ·have:n=1:=by omega
    subst this;cases f<;>simp [Lib.bitLenAux]<;>decide
   ·rw [ih (n / 2) (by rw [eK] at h;omega) h2,Nat.log2_def n,if_pos (by omega)];omega
 exact aux 64 n h h0
end Go.Proofs.YtpekmdpbfjdjkaaGreat.dO
namespace Go.Proofs.YtpekmdpbfjdjkaaGreat.dO
open Go Go.RowKit ag.ax ag.aV ag.aU aD fr iK
def Fl (l:List jE):Prop:=∀x∈l,x.f1.length≤100000000
def zZ (b:Nat) (x:jE) (A1:Option Addr) (c1:Nat) (W:World):Prop:=W.cell? ⟨b,0,none⟩=some (.int .u64 x.f0)∧W.cell? ⟨b,1,none⟩=some (.slice A1 x.f1.length c1)
theorem zZ.of {W:World} {b:Nat} {x:jE} {A1:Option Addr} {c1:Nat} (h:W.heap[b]? = some (.cells #[.int .u64 x.f0, .slice A1 x.f1.length c1] 99 (0,0))):zZ b x A1 c1 W:=⟨cell_of h 0,cell_of h 1⟩
theorem xx (A:Option Addr) (c:Nat) (l:List jE) (w:World) (hl:Kd.C jC w A l.length l) (hc:l.length≤c) (hL:l.length≤100000000) (hB:Fl l) :
 Calls Tryz.prog 112 #[.slice A l.length c] w fun e w'=>∃v,e = .returned v∧Kd.R jC 99 w' w.heap.size (fun _=>True) v l∧Below w.heap.size w w':=by
 have hu99:=Tryz.underlying99;have HC:=aa hl;have HB:=aa hB;have CL:=aa vK;clear hl hB;go_in;go_wp2_with fail;go_loopw [3,8] (fun v3 v8 wr=>∃(i:Nat),i≤l.length∧v8 = .int .i64 i∧af (Kd.R jC 99 wr w.heap.size (fun _=>True) v3 (l.take i))∧af (Below w.heap.size w wr)) (fun _ v _=>l.length - (intOf v).toNat)
 case atStart=>exact ⟨0,aI _,rfl,⟨by rw [k7];exact Kd.cY _ _ _ _ _⟩,⟨Below.refl _ _⟩⟩
 case round=>
  obtain ⟨i,hi,rfl,HR,HW⟩:=hrel;by_cases hlt:i<l.length
  ·obtain ⟨ad,c1,e1,_,hK,hc0⟩:=Kd.fw (Kd.aN HC.1 HW.1) sI (i:Int) (by omega) (by omega);obtain ⟨A1,cc,rfl,hcc,hC1⟩:=gn hK;have hx0:=hc0 0 _ rfl;have hx1:=hc0 1 _ rfl;subst e1;simp only [Int.toNat_natCast,show jC.sz=2 from rfl,Nat.add_zero,List.getD_eq_getElem?_getD,List.getElem?_eq_getElem hlt,Option.getD_some] at hx0 hx1 hcc hC1;rw [dw _ _ 1 (by omega)] at hx1;have hmem:l[i]∈l:=List.getElem_mem hlt;have htk:l.take (i+1)=l.take i++[l[i]]:=(bz hlt);have HX:=aa (HB.1 _ hmem);have HT:=aa htk;generalize l[i]=x at hx0 hx1 hcc hC1 HX HT;have HC1:=aa hC1;clear hC1 hc0 htk hmem hK;go_wp2_with fail;have BN:=aa (aJ wr (.cells #[.int .u64 x.f0, .slice A1 x.f1.length cc] 99));have R1:=aa (Kd.cM HR.1 (.cells #[.int .u64 x.f0, .slice A1 x.f1.length cc] 99));have B1:=aa (ah HW.1 (.cells #[.int .u64 x.f0, .slice A1 x.f1.length cc] 99));have C1:=aa (Kd.eU HC1.1 (.cells #[.int .u64 x.f0, .slice A1 x.f1.length cc] 99));have RU:=aa (show ∀k,u3.ownBlock=some k→k<wr.heap.size from fun k hk=>((Kd.bS HR.1).1 k hk).2.2.1);have SW:=aa HW.1.size;clear HR HW HC1 hx0 hx1;have SW1:=aa (show wr.heap.size≤(wr.alloc (.cells #[.int .u64 x.f0, .slice A1 x.f1.length cc] 99)).heap.size by rw [show (wr.alloc (.cells #[.int .u64 x.f0, .slice A1 x.f1.length cc] 99)).heap.size=wr.heap.size+1 from cW _];omega);generalize wr.alloc _=W1 at BN R1 B1 C1 SW1 ⊢;generalize hb:wr.heap.size=b at BN RU SW SW1 ⊢;refine hY (zZ b x A1 cc) 9 [(0,0),(1,0),(2,1),(3,0),(4,1),(5,2),(6,0),(7,2),(8,2)] (by kernel_rfl) (by kernel_rfl) (fun _ _ _ _ _ h=>h) (zZ.of BN.1) ?_;iterate 2 (refine eF ?_;simp only [cS,Act.put])
   iterate 1 (refine aQ (v:=?_) rfl rfl ?_ ?_;rotate_left 1;(focus (intro w hSw;replace hSw:=hSw.1;go_simp;try (with_reducible rfl)));simp only [cS,Act.put])
   iterate 1 (refine eF ?_;simp only [cS,Act.put])
   iterate 1 (refine aQ (v:=?_) rfl rfl ?_ ?_;rotate_left 1;(focus (intro w hSw;replace hSw:=hSw.2;go_simp;try (with_reducible rfl)));simp only [cS,Act.put])
   refine aT rfl ?_;go_wp2_with fail;refine (CL.1 A1 cc x.f1 W1.drew (Kd.jU C1.1) hcc HX.1).mono ?_;rintro e w2 ⟨v2,rfl,hR2,hB2⟩;obtain ⟨Av,cv,rfl⟩:=Kd.aG hR2;have hb2:Below W1.heap.size W1 w2:=(Below.refl _ _).drew.trans hB2;have R2:=aa (Kd.bR R1.1 hb2);have B2:=aa (B1.1.trans (hb2.mono B1.1.size));have BN2:=aa ((hb2.block b (ak BN.1)).trans BN.1);have S2:=aa (Nat.le_trans B1.1.size hb2.size);have M2:=aa (show jC.M w2 w.heap.size (fun k=>b≤k) x [.int .u64 x.f0, .slice Av x.f1.length cv] from oW _ _ _ x (Kd.cI (Kd.bZ (Kd.bS hR2) (fun k hk=>Nat.le_trans SW1.1 hk.2.1)) B1.1.size));have O2:=aa (show ∀k,b≤k→True∧some k≠u3.ownBlock from fun k hk=>⟨trivial,fun e=>by have:=RU.1 k e.symm;omega⟩);have L2:=aa (show (l.take i).length≤100000000 by rw [List.length_take];omega);clear R1 B1 BN C1 hR2 hB2 hb2;go_wp2_with fail;refine bB.mk (zZ.of BN2.1) (fun hSw=>?_);clear hSw;iterate 1 (refine eF ?_;simp only [cS,Act.put])
   refine aT rfl ?_;go_wp2_with fail;refine bB.mk (zZ.of ((cm _ _ _ (ak BN2.1)).trans BN2.1)) (fun hSw=>?_);clear hSw;refine aT rfl ?_;refine Kd.cG jC (w0:=w) w.heap.size rfl (.tmp 12) (.tmp 19) 66 99 (.agg #[.int .u64 0, .slice none 0 0]) 32 rfl Tryz.underlying66 sa rfl (by decide) (by omega) u3 (l.take i) x [.int .u64 x.f0, .slice Av x.f1.length cv] (fun _=>True) (fun k=>b≤k) rfl rfl M2.1 O2.1 (fun _ _=>trivial) R2.1 B2.1 S2.1 (by have:=L2.1;omega) ?_;intro v1 w3 h1 h2 h3 h4;have Z1:=aa h1;have Z2:=aa h2;have BN3:=aa ((h3.block b (ak BN2.1) (O2.1 b (Nat.le_refl _)).2).trans BN2.1);clear h1 h2 h3 h4;refine wpList_nil ?_;refine bB.mk (zZ.of BN3.1) (fun hSw=>?_);clear hSw;refine bC ?_;simp only [aC,List.drop_zero];go_wp2_with fail;go_roundw
   case rel=>exact ⟨i+1,by omega,by go_num,⟨by rw [HT.1];exact Z1.1⟩,Z2⟩
   case measure=>
    show l.length - ((i:Int)+1).toNat<l.length - (i:Int).toNat;omega
  ·have HR2:=aa (show Kd.R jC 99 wr w.heap.size (fun _=>True) u3 l by rw [←List.take_of_length_le (Nat.le_of_not_lt hlt)];exact HR.1);clear HR;go_wp2_with fail;go_ret;exact ⟨_,rfl,HR2.1,HW.1⟩
end Go.Proofs.YtpekmdpbfjdjkaaGreat.dO