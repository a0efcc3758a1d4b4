/- Part 10 of the proof that reading bytes answers as the document does. No condition. -/
import Derived.Test.YtpekmdpbfjdjkaaGreatY9
set_option maxHeartbeats 16000000
set_option maxRecDepth 100000
set_option linter.all false
namespace Go.Proofs.YtpekmdpbfjdjkaaGreat.fE
open Go.RowKit ag.ax ag.aV ag.aU aD fr plain iK cL
def ifs (ts:List Nat):List Value:=ts.map fun t=> .iface t (.agg #[])
structure oS (W:World) (A:Option Addr) (ts:List Nat):Prop where
 row:(ts=[]∧A=none)∨∃g,A=some ⟨g,0,none⟩∧W.heap[g]? = some (.cells (ifs ts).toArray 271 (0,0))
theorem oS.mv {W W':World} {A:Option Addr} {ts:List Nat} (h:oS W A ts) (hm:Mv PT W W'):oS W' A ts:=by
 rcases h.row with h1|⟨g,h1,h2⟩
 ·exact ⟨.inl h1⟩
 ·exact ⟨.inr ⟨g,h1,hm.at h2 (by decide)⟩⟩
theorem oS.get {W:World} {A:Option Addr} {ts:List Nat} (h:oS W A ts) (i:Nat) (hi:i<ts.length):∃g,A=some ⟨g,0,none⟩∧W.cell? ⟨g,i,none⟩=some (.iface (ts[i]'hi) (.agg #[])):=by
 rcases h.row with h1|⟨g,h1,h2⟩
 ·rw [h1.1] at hi;simp at hi
 ·refine ⟨g,h1,?_⟩;have:=cell_of h2 i;simpa [ifs,hi] using this
def partsOf (g:Mg):List Nat:=if g.of_=1∧g.st=1 then [288] else if g.of_=5 then [351,302] else []
theorem vr (W:World) (o:Obj) (cs:Array Value) (t:Nat):((W.alloc o).alloc (.cells cs t)).heap[W.heap.size+1]? = some (.cells cs t (0,0)):=by
 have e1:(W.alloc o).heap.size=W.heap.size+1:=cW _;have h:=aJ (W.alloc o) (.cells cs t);rw [e1] at h;exact h
theorem Ey (W:World) (base bm:Nat) (g:Mg) (h:kk W base bm g):Calls Tryz.prog 297 #[.agg #[], .pointer (some ⟨bm,0,none⟩)] W fun e w'=>∃A,e = .returned (.slice A (partsOf g).length (partsOf g).length)∧oS w' A (partsOf g)∧Below W.heap.size W w':=by
 obtain ⟨v4,v5,v14,v15,v16,hb,hr⟩:=h.at_;have c7:W.cell? ⟨bm,7,none⟩=some (.int .u8 g.of_):=cell_of hb 7;have c8:W.cell? ⟨bm,8,none⟩=some (.int .u8 g.st):=cell_of hb 8;have d7:=ca c7;have d8:=ca c8;clear h hb hr;unfold partsOf;by_cases h1:g.of_=1
 ·have h1b:(g.of_ == 1)=true:=by simpa using h1
  by_cases h2:g.st=1
  ·have h2b:(g.st == 1)=true:=by simpa using h2
   rw [if_pos ⟨h1,h2⟩];clear h1 h2;go_in;go_wp2_with fail;go_ret;exact ⟨_,rfl,⟨.inr ⟨_,rfl,vr W _ _ _⟩⟩,ah (ah (Below.refl _ _) _) _⟩
  ·have h2b:(g.st == 1)=false:=by simpa using h2
   rw [if_neg (fun h=>h2 h.2),if_neg (by omega)];have h3b:(g.of_ == 5)=false:=by simp [h1]
   clear h2 h1;go_in;go_wp2_with fail;go_ret;exact ⟨_,rfl,⟨.inl ⟨rfl,rfl⟩⟩,ah (Below.refl _ _) _⟩
 ·have h1b:(g.of_ == 1)=false:=by simpa using h1
  rw [if_neg (fun h=>h1 h.1)];by_cases h2:g.of_=5
  ·have h2b:(g.of_ == 5)=true:=by simpa using h2
   rw [if_pos h2];clear h1 h2;go_in;go_wp2_with fail;go_ret;exact ⟨_,rfl,⟨.inr ⟨_,rfl,vr W _ _ _⟩⟩,ah (ah (Below.refl _ _) _) _⟩
  ·have h2b:(g.of_ == 5)=false:=by simpa using h2
   rw [if_neg h2];clear h1 h2;go_in;go_wp2_with fail;go_ret;exact ⟨_,rfl,⟨.inl ⟨rfl,rfl⟩⟩,ah (Below.refl _ _) _⟩
def jt (t:Nat) (g:Mg) (l:List Int):Option (Mg × List Int):=
 if t=286 then (df l).bind fun q=>if 0<q.1 then some ({ g with seq:=q.1 },q.2) else none
 else if t=287 then (dQ 8 l).bind fun q=>some ({ g with key:=q.1 },q.2)
 else if t=288 then (fJ 64 l).bind fun q=>some ({ g with val:=q.1 },q.2)
 else if t=289 then (jH l).bind fun q=>if q.1=true then (fJ 64 q.2).bind fun b=>some ({ g with has:=true,old:=b.1 },b.2) else some ({ g with has:=false },q.2)
 else if t=290 then (df l).bind fun q=>if g.key≤(g.key+q.1) % 18446744073709551616 then some ({ g with hi:=(g.key+q.1) % 18446744073709551616 },q.2) else none
 else if t=291 then (dQ 1 l).bind fun q=>if iv { g with limit:=q.1 }=true then some ({ g with limit:=q.1 },q.2) else none
 else if t=292 then (dQ 1 l).bind fun q=>if od { g with of_:=q.1 }=true then some ({ g with of_:=q.1 },q.2) else none
 else if t=293 then (dQ 1 l).bind fun q=>if dN { g with st:=q.1 }=true then some ({ g with st:=q.1 },q.2) else none
 else if t=295 then (dQ 1 l).bind fun q=>if nX { g with host:=q.1 }=true then some ({ g with host:=q.1 },q.2) else none
 else if t=296 then ((df l).bind (fun q=>if q.1≤65535 then some q else none)).bind fun q=>some ({ g with grant:=q.1 },q.2)
 else if t=297 then ((df l).bind (fun q=>if q.1≤65535 then some q else none)).bind fun q=>some ({ g with bounds:=q.1 },q.2)
 else if t=298 then (dQ 1 l).bind fun q=>if iI { g with st:=q.1 }=true then some ({ g with st:=q.1 },q.2) else none
 else if t=299 then (fJ 3072 l).bind fun q=>if oA { g with pay:=q.1 }=true then some ({ g with pay:=q.1 },q.2) else none
 else if t=300 then (df l).bind fun q=>some ({ g with seq:=q.1 },q.2)
 else if t=301 then (dQ 8 l).bind fun q=>some ({ g with mask:=q.1 },q.2)
 else if t=351 then (dQ 8 l).bind fun q=>some ({ g with hi:=q.1 },q.2)
 else if t=302 then (df l).bind fun q=>if q.1≤(if g.k=6 then 16 else 32) then eR q.1.toNat true g.key g q.2 else none
 else if t=303 then (df l).bind fun q=>if q.1≤16 then kg q.1.toNat g q.2 else none
 else none
def rI (t:Nat):Nat:=
 if t=286 then 241
 else if t=287 then 247
 else if t=288 then 253
 else if t=289 then 260
 else if t=290 then 266
 else if t=291 then 272
 else if t=292 then 280
 else if t=293 then 287
 else if t=295 then 302
 else if t=296 then 310
 else if t=297 then 317
 else if t=298 then 323
 else if t=299 then 330
 else if t=300 then 335
 else if t=301 then 340
 else if t=351 then 362
 else if t=302 then 347
 else if t=303 then 355
 else 295
def FT:List Nat:=[286,287,288,289,290,291,292,293,295,296,297,298,299,300,301,351,302,303]
def Co (t:Nat) (g:Mg):Prop:=(t=303→g.ses=[])∧(t=302→g.pairs=[])∧0≤g.key∧g.key<18446744073709551616
theorem yX (t:Nat) (ht:t∈FT) (W:World) (base bc br:Nat) (size:Int) (bm:Nat) (g:Mg) (rest:List Int) (h:fH W base bc br size bm g rest) (k:Co t g) :
 Calls Tryz.prog (rI t) #[.agg #[], .pointer (some ⟨bc,0,none⟩), .pointer (some ⟨bm,0,none⟩)] W (eG W base bc br size bm (jt t g rest)):=by
 simp only [FT,List.mem_cons,ga,Ad] at ht;rcases ht with rfl|rfl|rfl|rfl|rfl|rfl|rfl|rfl|rfl|rfl|rfl|rfl|rfl|rfl|rfl|rfl|rfl|rfl
 ·exact yd W base bc br size bm g rest h
 ·exact xD W base bc br size bm g rest h
 ·exact tM W base bc br size bm g rest h
 ·exact xC W base bc br size bm g rest h
 ·exact Gi W base bc br size bm g rest h k.2.2.1
 ·exact tY W base bc br size bm g rest h
 ·exact AK W base bc br size bm g rest h
 ·exact tJ W base bc br size bm g rest h
 ·exact uA W base bc br size bm g rest h
 ·exact tu W base bc br size bm g rest h
 ·exact rm W base bc br size bm g rest h
 ·exact vR W base bc br size bm g rest h
 ·exact xL W base bc br size bm g rest h
 ·exact xe W base bc br size bm g rest h
 ·exact wT W base bc br size bm g rest h
 ·exact uG W base bc br size bm g rest h
 ·exact uh W base bc br size bm g rest h k.2.2.1 k.2.2.2 (by rw [k.2.1 rfl];simp)
 ·exact xE W base bc br size bm g rest h (k.1 rfl)
def iu:List Nat→Mg→List Int→Option (Mg × List Int)
 | [],g,l=>some (g,l)
 | t::ts,g,l=>(jt t g l).bind fun q=>iu ts q.1 q.2
def jZ (ts:List Nat) (g:Mg):Prop:=(303∈ts→g.ses=[])∧(302∈ts→g.pairs=[])∧0≤g.key∧g.key<18446744073709551616∧ts.Nodup
theorem iN (n:Nat):∀(b:Bool) (k:Int) (g:Mg) (l:List Int) (g':Mg) (l':List Int),eR n b k g l=some (g',l')→g'.ses=g.ses∧g'.key=g.key:=by
 induction n with
 | zero=>
  intro b k g l g' l' h;rw [eR] at h;injection h with h;injection h with h;subst h;exact ⟨rfl,rfl⟩
 | succ n ih=>
  intro b k g l g' l' h;rw [eR] at h;cases hv:df l with
  | none=>rw [hv] at h;cases h
  | some q=>
   rw [hv,aj] at h;split at h
   ·cases hb:fJ 64 q.2 with
    | none=>rw [hb] at h;cases h
    | some b=>
     rw [hb,aj] at h;have r:=ih _ _ _ _ _ _ h;exact r
   ·cases h
theorem lJ (n:Nat):∀(g:Mg) (l:List Int) (g':Mg) (l':List Int),kg n g l=some (g',l')→g'.pairs=g.pairs∧g'.key=g.key:=by
 induction n with
 | zero=>
  intro g l g' l' h;rw [kg] at h;injection h with h;injection h with h;subst h;exact ⟨rfl,rfl⟩
 | succ n ih=>
  intro g l g' l' h;rw [kg] at h;cases hv:dQ 1 l with
  | none=>rw [hv] at h;cases h
  | some q=>
   rw [hv,aj] at h;split at h
   ·cases hb:df q.2 with
    | none=>rw [hb] at h;cases h
    | some b=>
     rw [hb,aj] at h;split at h
     ·cases hc:dQ 1 b.2 with
      | none=>rw [hc] at h;cases h
      | some c=>
       rw [hc,aj] at h;split at h
       ·have r:=ih _ _ _ _ h;exact r
       ·cases h
     ·cases h
   ·cases h
theorem keeps (t:Nat) (g:Mg) (l:List Int) (hl:aq l) (ht:t∈FT) (g':Mg) (l':List Int) (e:jt t g l=some (g',l')) :
 (t≠303→g'.ses=g.ses)∧(t≠302→g'.pairs=g.pairs)∧(0≤g.key→g.key<18446744073709551616→0≤g'.key)∧(0≤g.key→g.key<18446744073709551616→g'.key<18446744073709551616):=by
 simp only [FT,List.mem_cons,ga,Ad] at ht;have hv:∀q,df l=some q→0≤q.1∧q.1<18446744073709551616:=by
  intro q hq;unfold df pR at hq;have:=Au (l,0) hl;split at hq
  ·injection hq with hq;subst hq;exact ⟨this.1,this.2.1⟩
  ·cases hq
 have hn:∀q,dQ 8 l=some q→0≤q.1∧q.1<18446744073709551616:=by
  intro q hq;unfold dQ pR at hq;have:=gC (n:=8) (s:=(l,0)) hl;split at hq
  ·injection hq with hq;subst hq;exact ⟨this.1,by simpa using this.2⟩
  ·cases hq
 have ob:∀{α:Type} (o:Option α) (f:α→Option (Mg × List Int)),o.bind f=some (g',l')→∃a,o=some a∧f a=some (g',l'):=by
  intro α o f h;cases o with
  | none=>cases h
  | some a=>exact ⟨a,rfl,h⟩
 have oi:∀{c:Prop} [Decidable c] (x:Option (Mg × List Int)),(if c then x else none)=some (g',l')→x=some (g',l'):=by
  intro c _ x h;split at h
  ·exact h
  ·cases h
 have os:∀{m:Mg} {r:List Int},some (m,r)=some (g',l')→m=g':=by
  intro m r h;injection h with h;injection h
 rcases ht with rfl|rfl|rfl|rfl|rfl|rfl|rfl|rfl|rfl|rfl|rfl|rfl|rfl|rfl|rfl|rfl|rfl|rfl
 ·obtain ⟨q,hq,e⟩:=ob _ _ e;obtain rfl:=os (oi _ e);exact ⟨fun _=>rfl,fun _=>rfl,fun h _=>h,fun _ h=>h⟩
 ·obtain ⟨q,hq,e⟩:=ob _ _ e;obtain rfl:=os e;exact ⟨fun _=>rfl,fun _=>rfl,fun _ _=>(hn q hq).1,fun _ _=>(hn q hq).2⟩
 ·obtain ⟨q,hq,e⟩:=ob _ _ e;obtain rfl:=os e;exact ⟨fun _=>rfl,fun _=>rfl,fun h _=>h,fun _ h=>h⟩
 ·obtain ⟨q,hq,e⟩:=ob _ _ e;split at e
  ·obtain ⟨b,hb,e⟩:=ob _ _ e;obtain rfl:=os e;exact ⟨fun _=>rfl,fun _=>rfl,fun h _=>h,fun _ h=>h⟩
  ·obtain rfl:=os e;exact ⟨fun _=>rfl,fun _=>rfl,fun h _=>h,fun _ h=>h⟩
 ·obtain ⟨q,hq,e⟩:=ob _ _ e;obtain rfl:=os (oi _ e);exact ⟨fun _=>rfl,fun _=>rfl,fun h _=>h,fun _ h=>h⟩
 ·obtain ⟨q,hq,e⟩:=ob _ _ e;obtain rfl:=os (oi _ e);exact ⟨fun _=>rfl,fun _=>rfl,fun h _=>h,fun _ h=>h⟩
 ·obtain ⟨q,hq,e⟩:=ob _ _ e;obtain rfl:=os (oi _ e);exact ⟨fun _=>rfl,fun _=>rfl,fun h _=>h,fun _ h=>h⟩
 ·obtain ⟨q,hq,e⟩:=ob _ _ e;obtain rfl:=os (oi _ e);exact ⟨fun _=>rfl,fun _=>rfl,fun h _=>h,fun _ h=>h⟩
 ·obtain ⟨q,hq,e⟩:=ob _ _ e;obtain rfl:=os (oi _ e);exact ⟨fun _=>rfl,fun _=>rfl,fun h _=>h,fun _ h=>h⟩
 ·obtain ⟨q,hq,e⟩:=ob _ _ e;obtain rfl:=os e;exact ⟨fun _=>rfl,fun _=>rfl,fun h _=>h,fun _ h=>h⟩
 ·obtain ⟨q,hq,e⟩:=ob _ _ e;obtain rfl:=os e;exact ⟨fun _=>rfl,fun _=>rfl,fun h _=>h,fun _ h=>h⟩
 ·obtain ⟨q,hq,e⟩:=ob _ _ e;obtain rfl:=os (oi _ e);exact ⟨fun _=>rfl,fun _=>rfl,fun h _=>h,fun _ h=>h⟩
 ·obtain ⟨q,hq,e⟩:=ob _ _ e;obtain rfl:=os (oi _ e);exact ⟨fun _=>rfl,fun _=>rfl,fun h _=>h,fun _ h=>h⟩
 ·obtain ⟨q,hq,e⟩:=ob _ _ e;obtain rfl:=os e;exact ⟨fun _=>rfl,fun _=>rfl,fun h _=>h,fun _ h=>h⟩
 ·obtain ⟨q,hq,e⟩:=ob _ _ e;obtain rfl:=os e;exact ⟨fun _=>rfl,fun _=>rfl,fun h _=>h,fun _ h=>h⟩
 ·obtain ⟨q,hq,e⟩:=ob _ _ e;obtain rfl:=os e;exact ⟨fun _=>rfl,fun _=>rfl,fun h _=>h,fun _ h=>h⟩
 ·obtain ⟨q,hq,e⟩:=ob _ _ e;refine ⟨fun _=>?_,fun h=>absurd rfl h,fun h _=>?_,fun _ h=>?_⟩
  ·rw [(iN _ _ _ _ _ _ _ (oi _ e)).1]
  ·rw [(iN _ _ _ _ _ _ _ (oi _ e)).2];exact h
  ·rw [(iN _ _ _ _ _ _ _ (oi _ e)).2];exact h
 ·obtain ⟨q,hq,e⟩:=ob _ _ e;refine ⟨fun h=>absurd rfl h,fun _=>?_,fun h _=>?_,fun _ h=>?_⟩
  ·rw [(lJ _ _ _ _ _ (oi _ e)).1]
  ·rw [(lJ _ _ _ _ _ (oi _ e)).2];exact h
  ·rw [(lJ _ _ _ _ _ (oi _ e)).2];exact h
theorem jZ.head {t:Nat} {ts:List Nat} {g:Mg} (h:jZ (t::ts) g):Co t g:=⟨fun e=>h.1 (by rw [e];exact List.mem_cons_self),fun e=>h.2.1 (by rw [e];exact List.mem_cons_self),h.2.2.1,h.2.2.2.1⟩
theorem jZ.next {t:Nat} {ts:List Nat} {g:Mg} {l:List Int} (h:jZ (t::ts) g) (ht:t∈FT) (hl:aq l):∀g' l',jt t g l=some (g',l')→jZ ts g':=by
 intro g' l' e;obtain ⟨k1,k2,k3,k4⟩:=keeps t g l hl ht g' l' e;have hn:=(List.nodup_cons.1 h.2.2.2.2);refine ⟨fun hm=>?_,fun hm=>?_,k3 h.2.2.1 h.2.2.2.1,k4 h.2.2.1 h.2.2.2.1,hn.2⟩
 ·rw [k1 (fun e=>hn.1 (e▸hm))];exact h.1 (List.mem_cons_of_mem _ hm)
 ·rw [k2 (fun e=>hn.1 (e▸hm))];exact h.2.1 (List.mem_cons_of_mem _ hm)
theorem oK (g:Mg):(∀t∈partsOf g,t∈FT)∧(g.pairs=[]∧0≤g.key∧g.key<18446744073709551616→jZ (partsOf g) g):=by
 unfold partsOf;by_cases h1:g.of_=1∧g.st=1
 ·rw [if_pos h1];exact ⟨by decide,fun k=>⟨fun h=>absurd h (by decide),fun h=>absurd h (by decide),k.2.1,k.2.2,by decide⟩⟩
 rw [if_neg h1];by_cases h2:g.of_=5
 ·rw [if_pos h2];exact ⟨by decide,fun k=>⟨fun h=>absurd h (by decide),fun _=>k.1,k.2.1,k.2.2,by decide⟩⟩
 rw [if_neg h2];exact ⟨fun _ h=>absurd h (by simp),fun k=>⟨fun h=>absurd h (by simp),fun h=>absurd h (by simp),k.2.1,k.2.2,by simp⟩⟩
theorem sN (t:Nat) (ht:t∈294::FT) (x y:Value) (W:World):(((method 464 t (.agg #[]) "shard/wire.take").run Tryz.prog W).andThen fun a w'=>(callFunc a.1 #[a.2,x,y]).run Tryz.prog w') = .ok (.enter (rI t) #[.agg #[],x,y]) W:=by
 simp only [FT,List.mem_cons,ga,Ad] at ht;rcases ht with rfl|rfl|rfl|rfl|rfl|rfl|rfl|rfl|rfl|rfl|rfl|rfl|rfl|rfl|rfl|rfl|rfl|rfl|rfl<;>kernel_rfl
theorem rM (W:World) (base bc br:Nat) (size:Int) (bm:Nat) (g:Mg) (rest:List Int) (h:fH W base bc br size bm g rest) (k:g.pairs=[]∧0≤g.key∧g.key<18446744073709551616) :
 Calls Tryz.prog 295 #[.agg #[], .pointer (some ⟨bc,0,none⟩), .pointer (some ⟨bm,0,none⟩)] W (eG W base bc br size bm (iu (partsOf g) g rest)):=by
 have HH:=aa h;have HK:=aa k;have NP:=aa (fun (W1:World) (h1:kk W1 base bm g)=>Ey W1 base bm g h1);have TS:=aa (oK g);have hL2:(partsOf g).length≤2:=by unfold partsOf;split;simp;split;simp;simp
 clear h k;generalize hts:partsOf g=ts at NP TS hL2 ⊢;have HL2:=aa hL2;clear hL2;generalize hO:iu ts g rest=o;have HO:=aa hO;clear hO hts;go_in;go_wp2_with fail;have B0:=aa (aJ W (.cells #[] 294));have P0:=aa (HH.1.below (ah (Below.refl _ _) (.cells #[] 294)));have F0:=aa ((fZ.refl W base).grow (ah (Below.refl _ _) (.cells #[] 294)) HH.1.b4);generalize W.alloc (.cells #[] 294)=W1 at B0 P0 F0 ⊢;generalize W.heap.size=b0 at B0 ⊢;refine (NP.1 W1 P0.1.ms).mono ?_;rintro r w2 ⟨A,rfl,hRow,hB⟩;have P2:=aa (P0.1.below hB);have F2:=aa (F0.1.grow hB P0.1.b4);have R2:=aa hRow;clear hB hRow P0 F0 B0 NP;go_wp2_with fail;go_loopw [7,12] (fun v7 v12 wr=>∃(i:Nat) (gi:Mg) (li:List Int),v12 = .int .i64 (i:Int)∧i≤ts.length∧af (fH wr base bc br size bm gi li)∧af (fZ W wr base)∧af (oS wr A ts)∧af (iu (ts.drop i) gi li=o)∧af (jZ (ts.drop i) gi)) (fun _ v _=>ts.length - (intOf v).toNat)
 case atStart=>exact ⟨0,g,rest,rfl,aI _,P2,F2,R2,HO,⟨TS.1.2 HK.1⟩⟩
 case round=>
  obtain ⟨i,gi,li,rfl,hi,P,F,R,O,N⟩:=hrel;clear P2 F2 R2 HO HK;by_cases hlt:i<ts.length
  case neg=>
   have hii:¬(i:Int)<(ts.length:Int):=by omega
   go_wp2_with fail;go_end0;exact eG.ok F.1 (by rw [←O.1,List.drop_eq_nil_of_le (by omega)];rfl) P.1
  obtain ⟨gF,rfl,hF⟩:=R.1.get i hlt;have O1:=O.1;have N1:=N.1;rw [ap hlt] at O1 N1;have hlen:=TS.1.1;generalize ht:ts[i]=t at O1 N1 hF;have M1:=aa (show t∈FT from by rw [←ht];exact hlen _ (List.getElem_mem hlt));clear ht hlen;have N2:=aa N1;have O2:=aa O1;clear O1 N1 O N;go_wp2_with fail;rw [sN t (List.mem_cons_of_mem _ M1.1),Oper.upon_enter];refine (yX t M1.1 _ base bc br size bm gi li P.1 N2.1.head).mono ?_;rintro r w3 ⟨hF3,hres⟩;have F3:=aa (F.1.trans hF3);have R3:=aa (R.1.mv hF3.mv);have O3:=O2.1;rw [iu] at O3;have N3:=aa (N2.1.next M1.1 P.1.Af (l:=li));generalize jt t gi li=q at hres O3 N3;rcases q with _|⟨g',l'⟩
  ·obtain ⟨at_,why,rfl,hw⟩:=hres;have O4:=aa (show o=none from O3.symm);clear O3 hF3 N3;go_wp2_with fail;exact ⟨rfl,eG.no F3.1 O4.1 (cV.mk' hw)⟩
  ·obtain ⟨rfl,hP⟩:=hres;have P3:=aa hP;have O4:=aa (show iu (ts.drop (i+1)) g' l'=o from O3);have N4:=aa (N3.1 g' l' rfl);clear O3 hF3 N3 hP F P R O2 N2;have hw:wrap64 ((i:Int)+1)=(i:Int)+1:=by have:=HL2.1;unfold wrap64;omega
   go_wp2_with fail;go_roundw
   case rel=>exact ⟨i+1,g',l',by go_num,by omega,P3,F3,R3,O4,N4⟩
   case measure=>
    rw [hw];show ts.length - ((i:Int)+1).toNat<ts.length - (i:Int).toNat;omega
def fieldsOf (k:Int):List Nat:=
 if k=1 then [286,287]
 else if k=2 then [286,287,288]
 else if k=3 then [286,287]
 else if k=4 then [286,287,289,288]
 else if k=5 then [286,287,290,291]
 else if k=6 then [286,292,293,294]
 else if k=7 then [286,287,290,295]
 else if k=8 then [286,287,290,295,296,297]
 else if k=9 then [286,298]
 else if k=10 then [286,299]
 else if k=11 then [300,301]
 else if k=12 then [287,290,296,297,302,303]
 else []
theorem xK (k:Int) (W:World):Calls Tryz.prog 168 #[.int .u8 k] W fun e w'=>e = .returned (.bool (decide (1≤k∧k≤12)))∧w'=W:=by
 by_cases h1:1≤k
 ·by_cases h2:k≤12
  ·rw [show decide (1≤k∧k≤12)=true by simpa using ⟨h1,h2⟩];go_in;go_wp2_with fail;go_ret;exact ⟨rfl,rfl⟩
  ·have h2b:decide (k≤12)=false:=by simpa using h2
   rw [show decide (1≤k∧k≤12)=false by simp;omega];go_in;go_wp2_with fail;go_ret;exact ⟨rfl,rfl⟩
 ·have h1b:decide (1≤k)=false:=by simpa using h1
  rw [show decide (1≤k∧k≤12)=false by simp;omega];go_in;go_wp2_with fail;go_ret;exact ⟨rfl,rfl⟩
theorem yM (k:Int) (h1:1≤k) (h2:k≤12) (W:World):Calls Tryz.prog 169 #[.int .u8 k] W fun e w'=>∃A,e = .returned (.slice A (fieldsOf k).length (fieldsOf k).length)∧oS w' A (fieldsOf k)∧Below W.heap.size W w':=by
 obtain rfl|rfl|rfl|rfl|rfl|rfl|rfl|rfl|rfl|rfl|rfl|rfl:k=1∨k=2∨k=3∨k=4∨k=5∨k=6∨k=7∨k=8∨k=9∨k=10∨k=11∨k=12:=by omega
 ·rw [show fieldsOf 1=[286,287] from rfl];clear h1 h2;go_in;go_wp2_with fail;go_ret;exact ⟨_,rfl,⟨.inr ⟨_,rfl,aJ W _⟩⟩,ah (Below.refl _ _) _⟩
 ·rw [show fieldsOf 2=[286,287,288] from rfl];clear h1 h2;go_in;go_wp2_with fail;go_ret;exact ⟨_,rfl,⟨.inr ⟨_,rfl,aJ W _⟩⟩,ah (Below.refl _ _) _⟩
 ·rw [show fieldsOf 3=[286,287] from rfl];clear h1 h2;go_in;go_wp2_with fail;go_ret;exact ⟨_,rfl,⟨.inr ⟨_,rfl,aJ W _⟩⟩,ah (Below.refl _ _) _⟩
 ·rw [show fieldsOf 4=[286,287,289,288] from rfl];clear h1 h2;go_in;go_wp2_with fail;go_ret;exact ⟨_,rfl,⟨.inr ⟨_,rfl,aJ W _⟩⟩,ah (Below.refl _ _) _⟩
 ·rw [show fieldsOf 5=[286,287,290,291] from rfl];clear h1 h2;go_in;go_wp2_with fail;go_ret;exact ⟨_,rfl,⟨.inr ⟨_,rfl,aJ W _⟩⟩,ah (Below.refl _ _) _⟩
 ·rw [show fieldsOf 6=[286,292,293,294] from rfl];clear h1 h2;go_in;go_wp2_with fail;go_ret;exact ⟨_,rfl,⟨.inr ⟨_,rfl,aJ W _⟩⟩,ah (Below.refl _ _) _⟩
 ·rw [show fieldsOf 7=[286,287,290,295] from rfl];clear h1 h2;go_in;go_wp2_with fail;go_ret;exact ⟨_,rfl,⟨.inr ⟨_,rfl,aJ W _⟩⟩,ah (Below.refl _ _) _⟩
 ·rw [show fieldsOf 8=[286,287,290,295,296,297] from rfl];clear h1 h2;go_in;go_wp2_with fail;go_ret;exact ⟨_,rfl,⟨.inr ⟨_,rfl,aJ W _⟩⟩,ah (Below.refl _ _) _⟩
 ·rw [show fieldsOf 9=[286,298] from rfl];clear h1 h2;go_in;go_wp2_with fail;go_ret;exact ⟨_,rfl,⟨.inr ⟨_,rfl,aJ W _⟩⟩,ah (Below.refl _ _) _⟩
 ·rw [show fieldsOf 10=[286,299] from rfl];clear h1 h2;go_in;go_wp2_with fail;go_ret;exact ⟨_,rfl,⟨.inr ⟨_,rfl,aJ W _⟩⟩,ah (Below.refl _ _) _⟩
 ·rw [show fieldsOf 11=[300,301] from rfl];clear h1 h2;go_in;go_wp2_with fail;go_ret;exact ⟨_,rfl,⟨.inr ⟨_,rfl,aJ W _⟩⟩,ah (Below.refl _ _) _⟩
 ·rw [show fieldsOf 12=[287,290,296,297,302,303] from rfl];clear h1 h2;go_in;go_wp2_with fail;go_ret;exact ⟨_,rfl,⟨.inr ⟨_,rfl,aJ W _⟩⟩,ah (Below.refl _ _) _⟩
theorem sg (k:Int) (hk:k≠6):∀t∈fieldsOf k,t∈FT:=by
 intro t ht;unfold fieldsOf at ht;by_cases h1:k=1
 ·rw [if_pos h1] at ht;revert t;decide
 rw [if_neg h1] at ht;by_cases h2:k=2
 ·rw [if_pos h2] at ht;revert t;decide
 rw [if_neg h2] at ht;by_cases h3:k=3
 ·rw [if_pos h3] at ht;revert t;decide
 rw [if_neg h3] at ht;by_cases h4:k=4
 ·rw [if_pos h4] at ht;revert t;decide
 rw [if_neg h4] at ht;by_cases h5:k=5
 ·rw [if_pos h5] at ht;revert t;decide
 rw [if_neg h5] at ht;by_cases h6:k=6
 ·rw [if_pos h6] at ht;exact absurd h6 hk
 rw [if_neg h6] at ht;by_cases h7:k=7
 ·rw [if_pos h7] at ht;revert t;decide
 rw [if_neg h7] at ht;by_cases h8:k=8
 ·rw [if_pos h8] at ht;revert t;decide
 rw [if_neg h8] at ht;by_cases h9:k=9
 ·rw [if_pos h9] at ht;revert t;decide
 rw [if_neg h9] at ht;by_cases h10:k=10
 ·rw [if_pos h10] at ht;revert t;decide
 rw [if_neg h10] at ht;by_cases h11:k=11
 ·rw [if_pos h11] at ht;revert t;decide
 rw [if_neg h11] at ht;by_cases h12:k=12
 ·rw [if_pos h12] at ht;revert t;decide
 rw [if_neg h12] at ht;exact absurd ht (by simp)
theorem rp (k:Int):(fieldsOf k).length≤6∧(fieldsOf k).Nodup:=by
 unfold fieldsOf;by_cases h1:k=1
 ·rw [if_pos h1];decide
 rw [if_neg h1];by_cases h2:k=2
 ·rw [if_pos h2];decide
 rw [if_neg h2];by_cases h3:k=3
 ·rw [if_pos h3];decide
 rw [if_neg h3];by_cases h4:k=4
 ·rw [if_pos h4];decide
 rw [if_neg h4];by_cases h5:k=5
 ·rw [if_pos h5];decide
 rw [if_neg h5];by_cases h6:k=6
 ·rw [if_pos h6];decide
 rw [if_neg h6];by_cases h7:k=7
 ·rw [if_pos h7];decide
 rw [if_neg h7];by_cases h8:k=8
 ·rw [if_pos h8];decide
 rw [if_neg h8];by_cases h9:k=9
 ·rw [if_pos h9];decide
 rw [if_neg h9];by_cases h10:k=10
 ·rw [if_pos h10];decide
 rw [if_neg h10];by_cases h11:k=11
 ·rw [if_pos h11];decide
 rw [if_neg h11];by_cases h12:k=12
 ·rw [if_pos h12];decide
 rw [if_neg h12];decide
end Go.Proofs.YtpekmdpbfjdjkaaGreat.fE
namespace Go.Proofs.YtpekmdpbfjdjkaaGreat.fE
open Go Go.RowKit ag.ax ag.aV ag.aU aD fr plain iK cL
def vY:List Value:=[.int .u8 0, .int .u64 0, .int .u64 0, .int .u64 0, .slice none 0 0, .slice none 0 0, .bool false, .int .u8 0, .int .u8 0, .int .u8 0, .int .u32 0, .int .u32 0, .int .u64 0, .int .u8 0, .slice none 0 0, .slice none 0 0, .slice none 0 0]
theorem tS (b2 b3 b4:Nat) (W:World) :
 CallsD Tryz.prog 166 #[.pointer (some ⟨b2,0,none⟩), .pointer (some ⟨b3,0,none⟩), .pointer (some ⟨b4,0,none⟩)] .returning W fun e u' w'=>e = .returned (.tuple #[])∧u' = .returning∧w'=W:=by
 refine callsD_of_wpS Tryz.func166 rfl fun c₀ cs hu=>?_;apply wpS_seq;apply wpS_region;simp [wpOpsS,go_sem,recoverD,hu,Tryz.ntmps166,Exit.thenS];apply wpS_seq;apply wpS_region;simp [wpOpsS,go_sem,Exit.thenS];refine wpS_cond (t:=false) (by simp [Act.eval]) ?_;simp only [Bool.false_eq_true,if_false];refine wpS_of_wp (wp_skip ?_);refine ⟨rfl, .returning,?_,_,results_none rfl _ _ _,rfl,rfl,rfl⟩;rw [←hu]
theorem EH (b2 b3 b4 base:Nat) (at_ why p0 e0:Int) (cs2:Array Value) (W:World) (h2:W.heap[b2]? = some (.cells cs2 214 (0,0))) (hs:cs2.size=17) (h3:W.heap[b3]? = some (.cells #[.int .i64 p0] 3 (0,0))) (h4:W.heap[b4]? = some (.cells #[.int .i64 e0] 33 (0,0))) (k2:base≤b2) (k3:base≤b3) (k4:base≤b4) :
 CallsD Tryz.prog 166 #[.pointer (some ⟨b2,0,none⟩), .pointer (some ⟨b3,0,none⟩), .pointer (some ⟨b4,0,none⟩)] (.panicking [{ v:= .iface 261 (.agg #[.int .i64 at_, .int .i64 why]),recovered:=false }]) W fun e u' w'=>e = .returned (.tuple #[])∧u' = .panicking [{ v:= .iface 261 (.agg #[.int .i64 at_, .int .i64 why]),recovered:=true }]∧
  w'.heap[b2]? = some (.cells vY.toArray 214 (0,0))∧w'.heap[b3]? = some (.cells #[.int .i64 at_] 3 (0,0))∧w'.heap[b4]? = some (.cells #[.int .i64 why] 33 (0,0))∧Below base W w':=by
 refine callsD_of_wpS Tryz.func166 rfl fun c₀ cs hu=>?_;apply wpS_seq;apply wpS_region;simp [wpOpsS,go_sem,recoverD,hu,Tryz.ntmps166,Exit.thenS];apply wpS_seq;apply wpS_region;simp [wpOpsS,go_sem,Exit.thenS];refine wpS_cond (t:=true) (by simp [Act.eval]) ?_;simp only [if_true];apply wpS_of_wp;have H2:=aa h2;have H3:=aa h3;have H4:=aa h4;have HS:=aa hs;have HU:=aa hu;have K:=aa (And.intro k2 (And.intro k3 k4));clear h2 h3 h4 hs k2 k3 k4 hu;have hta:∀w:World,(Instr.typeAssert (.iface 261 (.agg #[.int .i64 at_, .int .i64 why])) 20 261 true).run Tryz.prog w = .ok (.tuple #[.agg #[.int .i64 at_, .int .i64 why], .bool true]) w:=fun _=>rfl;simp only [List.size_toArray,List.length_cons,List.length_nil,Nat.reduceAdd,Nat.reduceSub,Array.replicate_succ,Array.replicate_zero,List.push_toArray,List.append_toArray,List.nil_append,List.cons_append,List.setIfInBounds_toArray,List.set_cons_zero,List.set_cons_succ];go_wp2_with fail;have B0:=aJ W (.cells #[.int .i64 at_, .int .i64 why] 261);have k0:(W.alloc (.cells #[.int .i64 at_, .int .i64 why] 261)).cell? ⟨W.heap.size,0,none⟩=some (.int .i64 at_):=cell_of B0 0;have k1:(W.alloc (.cells #[.int .i64 at_, .int .i64 why] 261)).cell? ⟨W.heap.size,1,none⟩=some (.int .i64 why):=cell_of B0 1;have BB:=ah (Below.refl W.heap.size W) (.cells #[.int .i64 at_, .int .i64 why] 261);have L2:=ak H2.1;have L3:=ak H3.1;have L4:=ak H4.1;have J2:=aa ((BB.block b2 L2).trans H2.1);have J3:=aa ((BB.block b3 L3).trans H3.1);have J4:=aa ((BB.block b4 L4).trans H4.1);have N0:=aa (show b2≠W.heap.size∧b3≠W.heap.size∧b4≠W.heap.size from ⟨by omega,by omega,by omega⟩);have N1:=aa (show b2≠b3∧b2≠b4∧b3≠b4 from ⟨fun e=>by have h:=H2.1;rw [e,H3.1] at h;injection h with h;injection h with _ h;exact absurd h (by decide),fun e=>by have h:=H2.1;rw [e,H4.1] at h;injection h with h;injection h with _ h;exact absurd h (by decide),fun e=>by have h:=H3.1;rw [e,H4.1] at h;injection h with h;injection h with _ h;exact absurd h (by decide)⟩);have HB:=aa (And.intro BB (show base≤W.heap.size by have:=K.1.1;omega));have LE:=aa (And.intro L2 (And.intro L3 L4));generalize W.alloc (.cells #[.int .i64 at_, .int .i64 why] 261)=W1 at B0 k0 k1 J2 J3 J4 HB ⊢;generalize W.heap.size=b0 at B0 k0 k1 N0 LE HB ⊢;have BC:=aa B0;clear BB L2 L3 L4 B0 hta;refine hY (fun w'=>w'.cell? ⟨b0,0,none⟩=some (.int .i64 at_)∧w'.cell? ⟨b0,1,none⟩=some (.int .i64 why)) 7 [(0,0),(1,0),(2,1),(3,0),(4,1),(5,2),(6,2)] (by kernel_rfl) (by kernel_rfl) (fun _ _ _ _ _ h=>h) ⟨k0,k1⟩ ?_;clear k0 k1;iterate 2 (refine eF ?_;simp only [cS,Act.put])
 iterate 1 (refine aQ (v:=?_) rfl rfl ?_ ?_;rotate_left 1;(focus (intro w hSw;go_simp;try (with_reducible rfl)));simp only [cS,Act.put])
 iterate 1 (refine eF ?_;simp only [cS,Act.put])
 iterate 1 (refine aQ (v:=?_) rfl rfl ?_ ?_;rotate_left 1;(focus (intro w hSw;go_simp;try (with_reducible rfl)));simp only [cS,Act.put])
 refine aT rfl ?_;refine dl (u:= .agg vY.toArray) rfl rfl rfl vY ?addr ?ex (show W1.drew.heap[b2]? = _ from J2.1) ?eu ?ht ?hf ?h1 ?_
 case addr=>rfl
 case ex=>rfl
 case eu=>rfl
 case ht=>kernel_rfl
 case hf=>rw [HS.1];rfl
 case h1=>decide
 intro w5 hW5 hG5;have BC5:=aa ((hG5.block b0 (ak (show W1.drew.heap[b0]? = _ from BC.1)) (fun e=>N0.1.1 (by injection e with e;exact e.symm))).trans (show W1.drew.heap[b0]? = _ from BC.1));have J35:=aa ((hG5.block b3 (ak (show W1.drew.heap[b3]? = _ from J3.1)) (fun e=>N1.1.1 (by injection e with e;exact e.symm))).trans (show W1.drew.heap[b3]? = _ from J3.1));have J45:=aa ((hG5.block b4 (ak (show W1.drew.heap[b4]? = _ from J4.1)) (fun e=>N1.1.2.1 (by injection e with e;exact e.symm))).trans (show W1.drew.heap[b4]? = _ from J4.1));have hB5:=aa (show Below base W w5 from (show Below base W W1.drew from ai (HB.1.1.mono HB.1.2) 1).grown hG5 (show base≤W1.heap.size from Nat.le_trans HB.1.2 (eJ (ak BC.1))) (fun k e=>by injection e with e;subst e;exact K.1.1));clear J2 J3 J4 hG5 BC;refine bB.mk ⟨cell_of BC5.1 0,cell_of BC5.1 1⟩ (fun hSw=>?_);clear hSw;refine aT rfl ?_;refine dl (u:= .int .i64 at_) rfl rfl rfl [.int .i64 at_] ?addr ?ex J35.1 ?eu ?ht ?hf ?h1 ?_
 case addr=>rfl
 case ex=>rfl
 case eu=>rfl
 case ht=>kernel_rfl
 case hf=>rfl
 case h1=>intro q hq;rw [List.mem_singleton] at hq;subst hq;rfl
 intro w6 hW6 hG6;have BC6:=aa ((hG6.block b0 (ak BC5.1) (fun e=>N0.1.2.1 (by injection e with e;exact e.symm))).trans BC5.1);have J26:=aa ((hG6.block b2 (ak hW5) (fun e=>N1.1.1 (by injection e with e))).trans hW5);have J46:=aa ((hG6.block b4 (ak J45.1) (fun e=>N1.1.2.2 (by injection e with e;exact e.symm))).trans J45.1);have hB6:=aa (hB5.1.grown hG6 (Nat.le_trans HB.1.2 (eJ (ak BC5.1))) (fun k e=>by injection e with e;subst e;exact K.1.2.1));refine bB.mk ⟨cell_of BC6.1 0,cell_of BC6.1 1⟩ (fun hSw=>?_);clear hSw;refine bC ?_;simp only [aC,List.drop_zero];refine dl (u:= .int .i64 why) rfl rfl rfl [.int .i64 why] ?addr ?ex J46.1 ?eu ?ht ?hf ?h1 ?_
 case addr=>rfl
 case ex=>rfl
 case eu=>rfl
 case ht=>kernel_rfl
 case hf=>rfl
 case h1=>intro q hq;rw [List.mem_singleton] at hq;subst hq;rfl
 intro w7 hW7 hG7;have J27:=(hG7.block b2 (ak J26.1) (fun e=>N1.1.2.1 (by injection e with e))).trans J26.1;have J37:=(hG7.block b3 (ak hW6) (fun e=>N1.1.2.2 (by injection e with e))).trans hW6;have hB7:=hB6.1.grown hG7 (Nat.le_trans HB.1.2 (eJ (ak BC6.1))) (fun k e=>by injection e with e;subst e;exact K.1.2.2);exact ⟨rfl,_,rfl,_,results_none rfl _ _ _,rfl,rfl,J27,J37,hW7,hB7⟩
end Go.Proofs.YtpekmdpbfjdjkaaGreat.fE
namespace Go.Proofs.YtpekmdpbfjdjkaaGreat.crc
def rs (x:BitVec 32):BitVec 32:=if x.getLsbD 0 then (x >>> 1) ^^^ 0x82F63B78#32 else x >>> 1
def lR (b:Bool):BitVec 32:=if b then 0x80000000#32 else 0#32
def pV (b:Bool):BitVec 32:=if b then 1#32 else 0#32
theorem nM (x y:BitVec 32):rs (x ^^^ y)=rs x ^^^ rs y:=by
 unfold rs;rw [BitVec.getLsbD_xor,BitVec.ushiftRight_xor_distrib];cases x.getLsbD 0<;>cases y.getLsbD 0<;>simp only [Bool.xor_false,Bool.xor_true,Bool.not_true,Bool.not_false,if_true,if_false,Bool.false_eq_true]
 ·rw [BitVec.xor_assoc]
 ·rw [BitVec.xor_assoc,BitVec.xor_assoc,BitVec.xor_comm (y >>> 1)]
 ·rw [show (x >>> 1 ^^^ 0x82F63B78#32) ^^^ (y >>> 1 ^^^ 0x82F63B78#32)=(x >>> 1 ^^^ y >>> 1) ^^^ (0x82F63B78#32 ^^^ 0x82F63B78#32) by ac_rfl,BitVec.xor_self,BitVec.xor_zero]
def ls (x:BitVec 32) (b:Bool):BitVec 32:=rs x ^^^ lR b
def D:BitVec 32→List Bool→BitVec 32
 | r,[]=>r
 | r,b::m=>D (rs (r ^^^ pV b)) m
def BF (f:Nat→Bool):(n:Nat)→BitVec n
 | 0=>0#0
 | n+1=>BitVec.cons (f n) (BF f n)
theorem jQ (f:Nat→Bool) (n i:Nat) (h:i<n):(BF f n).getLsbD i=f i:=by
 induction n with
 | zero=>omega
 | succ n ih=>
  rw [BF,BitVec.getLsbD_cons];by_cases e:i=n
  ·rw [if_pos e,e]
  ·rw [if_neg e,ih (by omega)]
def word (l:List Bool):BitVec 32:=BF (fun i=>l.getD i false) 32
theorem eI (l:List Bool) (i:Nat) (h:i<32):(word l).getLsbD i=l.getD i false:=by
 exact jQ _ 32 i h
theorem ou (n:Nat):word (List.replicate n false)=0#32:=by
 apply BitVec.eq_of_getLsbD_eq;intro i hi;rw [eI _ _ hi];rw [List.getD_eq_getElem?_getD,List.getElem?_replicate];split<;>simp
theorem tQ (b:Bool) (s:List Bool):rs (word (b::s)) ^^^ lR (s.getD 31 false)=rs (pV b) ^^^ word s:=by
 have e:word (b::s)=pV b ^^^ (word (false::s)):=by
  apply BitVec.eq_of_getLsbD_eq;intro i hi;rw [BitVec.getLsbD_xor,eI _ _ hi,eI _ _ hi];cases b<;>cases i<;>simp [pV]
 rw [e,nM,BitVec.xor_assoc];congr 1;unfold rs;rw [if_neg (by rw [eI _ _ (by omega)];simp)];apply BitVec.eq_of_getLsbD_eq;intro i hi;rw [BitVec.getLsbD_xor,BitVec.getLsbD_ushiftRight,eI _ _ hi];by_cases h:i=31
 ·subst h;cases s.getD 31 false<;>simp [lR]
 ·rw [eI _ _ (by omega)];have:(lR (s.getD 31 false)).getLsbD i=false:=by
   cases s.getD 31 false
   ·simp [lR]
   ·have hd:∀j:Fin 32,j.val≠31→(lR true).getLsbD j.val=false:=by decide
    exact hd ⟨i,hi⟩ h
  rw [this,Bool.xor_false,ik 1 i,List.getD_cons_succ]
theorem div_eq (m:List Bool):∀r:BitVec 32,((m++List.replicate 32 false).drop 32).foldl ls (r ^^^ word (m++List.replicate 32 false))=D r m:=by
 induction m with
 | nil=>
  intro r;rw [List.nil_append,List.drop_of_length_le (by simp),ou,BitVec.xor_zero];rfl
 | cons b m ih=>
  intro r;have hl:31<(m++List.replicate 32 false).length:=by rw [List.length_append,ey];omega
  rw [List.cons_append,aC,ap hl,dD];have e:ls (r ^^^ word (b::(m++List.replicate 32 false))) ((m++List.replicate 32 false)[31])=rs (r ^^^ pV b) ^^^ word (m++List.replicate 32 false):=by
   unfold ls;rw [nM,BitVec.xor_assoc];have hg:(m++List.replicate 32 false)[31]=(m++List.replicate 32 false).getD 31 false:=by rw [List.getD_eq_getElem?_getD,List.getElem?_eq_getElem hl];rfl
   rw [hg,tQ,nM,BitVec.xor_assoc]
  rw [e,ih];rfl
theorem uQ (l:List Bool) (hl:32≤l.length):∀j,j≤32→(l.take j).foldl ls 0#32=BF (fun i=>if 32≤i+j then l.getD (i+j - 32) false else false) 32:=by
 intro j;induction j with
 | zero=>
  intro _;apply BitVec.eq_of_getLsbD_eq;intro i hi;rw [jQ _ _ _ hi,if_neg (by omega)];simp
 | succ j ih=>
  intro hj;have hlj:j<l.length:=by omega
  rw [bz hlj,List.foldl_append,ih (by omega),dD,oh];unfold ls rs;rw [if_neg (by rw [jQ _ _ _ (by omega),if_neg (by omega)];simp)];apply BitVec.eq_of_getLsbD_eq;intro i hi;rw [BitVec.getLsbD_xor,BitVec.getLsbD_ushiftRight,jQ _ _ _ hi];by_cases h:i=31
  ·subst h;have e:l[j]=l.getD j false:=by rw [List.getD_eq_getElem?_getD,List.getElem?_eq_getElem hlj];rfl
   rw [e];have e2:31+(j+1) - 32=j:=by omega
   rw [if_pos (by omega),e2,eP _ _ (by omega),Bool.false_xor];cases l.getD j false<;>simp [lR]
  ·have ht:(lR (l[j])).getLsbD i=false:=by
    cases l[j]
    ·simp [lR]
    ·have hd:∀j:Fin 32,j.val≠31→(lR true).getLsbD j.val=false:=by decide
     exact hd ⟨i,hi⟩ h
   rw [ht,Bool.xor_false];rw [jQ _ _ _ (by omega),show 1+i+j=i+(j+1) by omega]
theorem qT (l:List Bool) (hl:32≤l.length):(l.take 32).foldl ls 0#32=word l:=by
 rw [uQ l hl 32 (Nat.le_refl _)];apply BitVec.eq_of_getLsbD_eq;intro i hi;rw [eI _ _ hi,jQ _ _ _ hi,if_pos (by omega),Nat.add_sub_cancel]
def rL:Nat→BitVec 32→BitVec 32
 | 0,x=>x
 | n+1,x=>rL n (rs x)
theorem yU (n:Nat):∀x y,rL n (x ^^^ y)=rL n x ^^^ rL n y:=by
 induction n with
 | zero=>intro x y;rfl
 | succ n ih=>intro x y;rw [rL,nM,ih];rfl
theorem vH (n:Nat):∀x:BitVec 32,(∀i,i<n→x.getLsbD i=false)→rL n x=x >>> n:=by
 induction n with
 | zero=>intro x _;rw [rL,BitVec.ushiftRight_zero]
 | succ n ih=>
  intro x h;have e:rs x=x >>> 1:=by unfold rs;rw [if_neg (by rw [h 0 (by omega)];simp)]
  rw [rL,e,ih _ (fun i hi=>by rw [BitVec.getLsbD_ushiftRight];exact h _ (by omega)),←BitVec.shiftRight_add,ik]
theorem uf (b:Bool) (l:List Bool):word (b::l)=pV b ^^^ word (false::l):=by
 apply BitVec.eq_of_getLsbD_eq;intro i hi;rw [BitVec.getLsbD_xor,eI _ _ hi,eI _ _ hi];cases b<;>cases i<;>simp [pV]
theorem tx (l:List Bool) (hl:l.length≤31):rs (word (false::l))=word l:=by
 unfold rs;rw [if_neg (by rw [eI _ _ (by omega)];simp)];apply BitVec.eq_of_getLsbD_eq;intro i hi;rw [BitVec.getLsbD_ushiftRight,eI _ _ hi];by_cases h:i=31
 ·subst h;rw [eP _ _ (by omega),List.getD_eq_getElem?_getD,dX (by omega)];rfl
 ·rw [eI _ _ (by omega),ik 1 i,List.getD_cons_succ]
theorem zW (l:List Bool):∀r,l.length≤32→D r l=rL l.length (r ^^^ word l):=by
 induction l with
 | nil=>intro r _;rw [show word []=0#32 from ou 0,BitVec.xor_zero];rfl
 | cons b l ih=>
  intro r hl;have hl':l.length≤31:=by simpa using hl
  rw [D,ih _ (by omega),List.length_cons,rL,uf,←BitVec.xor_assoc,nM (r ^^^ pV b),tx l hl']
theorem vD (l m:List Bool):∀r,D r (l++m)=D (D r l) m:=by
 induction l with
 | nil=>intro r;rfl
 | cons b l ih=>intro r;rw [List.cons_append,D,ih];rfl
theorem FE (r c:BitVec 32):rL 8 (r ^^^ c)=(r >>> 8) ^^^ rL 8 ((r&&&255#32) ^^^ c):=by
 have e:r ^^^ c=(r&&&0xFFFFFF00#32) ^^^ ((r&&&255#32) ^^^ c):=by
  rw [←BitVec.xor_assoc];congr 1;apply BitVec.eq_of_getLsbD_eq;intro i hi;rw [BitVec.getLsbD_xor,kY,kY];have hd:∀j:Fin 32,(0xFFFFFF00#32).getLsbD j.val = !(255#32).getLsbD j.val:=by decide
  rw [hd ⟨i,hi⟩];cases r.getLsbD i<;>cases (255#32).getLsbD i<;>rfl
 rw [e,yU];congr 1;rw [vH 8 _ (fun i hi=>by
  rw [kY];have hd:∀j:Fin 8,(0xFFFFFF00#32).getLsbD j.val=false:=by decide
  rw [hd ⟨i,hi⟩,DW])]
 apply BitVec.eq_of_getLsbD_eq;intro i hi;rw [BitVec.getLsbD_ushiftRight,BitVec.getLsbD_ushiftRight,kY];by_cases h:8+i<32
 ·have hd:∀j:Fin 32,8+j.val<32→(0xFFFFFF00#32).getLsbD (8+j.val)=true:=by decide
  rw [hd ⟨i,hi⟩ h,Bool.and_true]
 ·rw [eP r _ (by omega),ol]
def rev (x:BitVec 32):BitVec 32:=BF (fun i=>x.getLsbD (31 - i)) 32
theorem kN (x:BitVec 32) (i:Nat) (h:i<32):(rev x).getLsbD i=x.getLsbD (31 - i):=jQ _ 32 i h
theorem rev_rev (x:BitVec 32):rev (rev x)=x:=by
 apply BitVec.eq_of_getLsbD_eq;intro i hi;rw [kN _ _ hi,kN _ _ (by omega),show 31 - (31 - i)=i by omega]
def kw (r:Nat) (b:Bool):Nat:=if 4294967296≤2*r+b.toNat then (2*r+b.toNat) ^^^ 0x11EDC6F41 else 2*r+b.toNat
theorem pA (n:Nat) (b:Bool) (i:Nat):(2*n+b.toNat).testBit (i+1)=n.testBit i:=by
 rw [Nat.testBit_succ];congr 1;cases b<;>simp<;>omega
theorem so (n:Nat) (b:Bool):(2*n+b.toNat).testBit 0=b:=by
 rw [Nat.testBit_zero];cases b<;>simp<;>omega
theorem zD (x:BitVec 32) (i:Nat) (hi:i<32):(rs x).getLsbD i=(x.getLsbD (i+1) ^^ (x.getLsbD 0&&(0x82F63B78#32).getLsbD i)):=by
 unfold rs;cases h:x.getLsbD 0
 ·simp [BitVec.getLsbD_ushiftRight,ik]
 ·simp only [if_true,BitVec.getLsbD_xor,BitVec.getLsbD_ushiftRight,iJ,ik]
theorem Ar (x:BitVec 32) (b:Bool) (i:Nat) (hi:i<32):(ls x b).getLsbD i=((if i=31 then b else x.getLsbD (i+1)) ^^ (x.getLsbD 0&&(0x82F63B78#32).getLsbD i)):=by
 unfold ls;rw [BitVec.getLsbD_xor,zD _ _ hi];by_cases h:i=31
 ·subst h;rw [if_pos rfl,eP x 32 (by omega)];cases b<;>cases x.getLsbD 0<;>simp [lR]
 ·rw [if_neg h];have:(lR b).getLsbD i=false:=by
   cases b
   ·simp [lR]
   ·have hd:∀j:Fin 32,j.val≠31→(lR true).getLsbD j.val=false:=by decide
    exact hd ⟨i,hi⟩ h
  rw [this,Bool.xor_false]
theorem wF (x:BitVec 32) (b:Bool):kw (rev x).toNat b=(rev (ls x b)).toNat:=by
 have hlt:2*(rev x).toNat+b.toNat<2 ^ 33:=by have:=(rev x).isLt;cases b<;>simp<;>omega
 have h32:(2*(rev x).toNat+b.toNat).testBit 32=x.getLsbD 0:=by
  rw [pA,←BitVec.getLsbD,kN _ _ (by omega)]
 have hge:4294967296≤2*(rev x).toNat+b.toNat↔x.getLsbD 0=true:=by
  rw [←h32];constructor
  ·intro h;rw [Nat.testBit_eq_decide_div_mod_eq];simp;omega
  ·intro h;exact Nat.ge_two_pow_of_testBit h
 have hb:∀i,i<32→(2*(rev x).toNat+b.toNat).testBit i=if i=0 then b else x.getLsbD (32 - i):=by
  intro i hi;cases i with
  | zero=>rw [so,if_pos rfl]
  | succ i=>rw [pA,←BitVec.getLsbD,kN _ _ (by omega),if_neg (by omega)];congr 1;omega
 have hp:∀j:Fin 32,(0x11EDC6F41).testBit j.val=(0x82F63B78#32).getLsbD (31 - j.val):=by decide
 apply Nat.eq_of_testBit_eq;intro i;rw [show (rev (ls x b)).toNat.testBit i=(rev (ls x b)).getLsbD i from rfl];by_cases hi:i<32
 ·rw [kN _ _ hi,Ar _ _ _ (by omega)];have hc:(if 31 - i=31 then b else x.getLsbD (31 - i+1))=(if i=0 then b else x.getLsbD (32 - i)):=by
   by_cases h0:i=0
   ·subst h0;simp
   ·rw [if_neg (by omega),if_neg h0];congr 1;omega
  rw [hc,←hb i hi];unfold kw;cases h:x.getLsbD 0
  ·rw [if_neg (by rw [hge,h];simp),ol,Bool.xor_false]
  ·rw [if_pos (hge.2 h),Nat.testBit_xor,hp ⟨i,hi⟩,iJ]
 ·rw [eP _ _ (by omega)];unfold kw;cases h:x.getLsbD 0
  ·rw [if_neg (by rw [hge,h];simp)];apply gx;have hn:¬4294967296≤2*(rev x).toNat+b.toNat:=by rw [hge,h];simp
   exact Nat.lt_of_lt_of_le (by omega:2*(rev x).toNat+b.toNat<2 ^ 32) (cK (by omega) (by omega))
  ·rw [if_pos (hge.2 h),Nat.testBit_xor];by_cases h2:i=32
   ·subst h2;rw [h32,h];decide
   ·rw [gx (Nat.lt_of_lt_of_le hlt (cK (by omega) (by omega))),gx (Nat.lt_of_lt_of_le (by decide:0x11EDC6F41<2 ^ 33) (cK (by omega) (by omega)))];rfl
theorem ow (x:BitVec 32) (b:Bool):kw x.toNat b=(rev (ls (rev x) b)).toNat:=by rw [←wF,rev_rev]
theorem vv (s:List Bool):∀x:BitVec 32,s.foldl kw x.toNat=(rev (s.foldl ls (rev x))).toNat:=by
 induction s with
 | nil=>intro x;rw [oh,oh,rev_rev]
 | cons b s ih=>intro x;rw [dD,dD,ow,ih,rev_rev]
def mixed (r:BitVec 32) (s:List Bool):List Bool:=s.mapIdx (fun i b=>b ^^ r.getLsbD i)
theorem ru (r:BitVec 32) (s:List Bool):(mixed r s).drop 32=s.drop 32:=by
 apply jq;intro i;rw [List.getElem?_drop,List.getElem?_drop,mixed,List.getElem?_mapIdx];cases s[32+i]? with
 | none=>rfl
 | some b=>rw [dh,eP _ _ (by omega),Bool.xor_false]
theorem qX (r:BitVec 32) (s:List Bool) (hs:32≤s.length):word (mixed r s)=r ^^^ word s:=by
 apply BitVec.eq_of_getLsbD_eq;intro i hi;rw [BitVec.getLsbD_xor,eI _ _ hi,eI _ _ hi,List.getD_eq_getElem?_getD,List.getD_eq_getElem?_getD,mixed,List.getElem?_mapIdx,List.getElem?_eq_getElem (by omega),dh,Option.getD_some,Option.getD_some,Bool.xor_comm]
theorem xN (r:BitVec 32) (m:List Bool):(mixed r (m++List.replicate 32 false)).foldl kw 0=(rev (D r m)).toNat:=by
 have hs:32≤(m++List.replicate 32 false).length:=by rw [List.length_append,ey];omega
 have hm:32≤(mixed r (m++List.replicate 32 false)).length:=by rw [mixed,List.length_mapIdx];exact hs
 have h0:=vv (mixed r (m++List.replicate 32 false)) 0#32;have hz:rev 0#32=0#32:=by decide
 rw [hz,show (0#32).toNat=0 from rfl] at h0;rw [h0];congr 2;rw [←Eb 32 (mixed r (m++List.replicate 32 false)),List.foldl_append,qT _ hm,ru,qX _ _ hs];exact div_eq m r
def kx (c:Nat):List Bool:=(List.range 8).map c.testBit
theorem fR (c:Nat):(kx c).length=8:=by simp [kx]
theorem rZ (c:Nat) (h:c<256):word (kx c)=BitVec.ofNat 32 c:=by
 apply BitVec.eq_of_getLsbD_eq;intro i hi;rw [eI _ _ hi,BitVec.getLsbD_ofNat,List.getD_eq_getElem?_getD,kx,lM];by_cases h8:i<8
 ·rw [List.getElem?_range h8];simp [hi]
 ·rw [dX (by simp;omega),gx (Nat.lt_of_lt_of_le h (show 2 ^ 8≤2 ^ i from cK (by omega) (by omega)))];simp
theorem Bc (r:BitVec 32) (c:Nat) (h:c<256):D r (kx c)=(r >>> 8) ^^^ rL 8 ((r&&&255#32) ^^^ BitVec.ofNat 32 c):=by
 rw [zW _ _ (by rw [fR];omega),fR,rZ c h,FE]
def A7 (x:Nat):Nat:=if x % 2=1 then (x / 2) ^^^ 0x82F63B78 else x / 2
def oa:Nat→Nat→Nat
 | 0,x=>x
 | n+1,x=>oa n (A7 x)
theorem Ai (x:BitVec 32):(rs x).toNat=A7 x.toNat:=by
 unfold rs A7;have e:x.getLsbD 0=true↔x.toNat % 2=1:=by
  rw [BitVec.getLsbD,Nat.testBit_zero];simp
 have s:(x >>> 1).toNat=x.toNat / 2:=by rw [BitVec.toNat_ushiftRight,Nat.shiftRight_eq_div_pow]
 by_cases h:x.toNat % 2=1
 ·rw [if_pos (e.2 h),if_pos h,mG,s];rfl
 ·rw [if_neg (fun k=>h (e.1 k)),if_neg h,s]
theorem xH (n:Nat):∀x:BitVec 32,(rL n x).toNat=oa n x.toNat:=by
 induction n with
 | zero=>intro x;rfl
 | succ n ih=>intro x;rw [rL,ih,Ai];rfl
def iz (r c:Nat):Nat:=(r / 256) ^^^ oa 8 ((r % 256) ^^^ c)
theorem qH (r:BitVec 32) (c:Nat) (h:c<256):(D r (kx c)).toNat=iz r.toNat c:=by
 have a:(r&&&255#32).toNat=r.toNat % 256:=by
  rw [BitVec.toNat_and,show (255#32).toNat=2 ^ 8 - 1 from rfl,Nat.and_two_pow_sub_one_eq_mod]
 rw [Bc r c h,mG,xH,mG,a,kZ,jM (Nat.lt_of_lt_of_le h (by decide)),BitVec.toNat_ushiftRight,Nat.shiftRight_eq_div_pow];rfl
theorem tR (l:List Nat):∀r:BitVec 32,(∀c∈l,c<256)→(D r (l.flatMap kx)).toNat=l.foldl iz r.toNat:=by
 induction l with
 | nil=>intro r _;rfl
 | cons c l ih=>
  intro r h;rw [bY,vD,ih _ (fun d hd=>h d (List.mem_cons_of_mem _ hd)),dD,qH r c (h c List.mem_cons_self)]
theorem mJ (r c:Nat) (hr:r<4294967296) (hc:c<256):iz r c<4294967296:=by
 have h:=qH (BitVec.ofNat 32 r) c hc;rw [kZ,jM (by omega)] at h;rw [←h];exact (D (BitVec.ofNat 32 r) (kx c)).isLt
end Go.Proofs.YtpekmdpbfjdjkaaGreat.crc