/- Part 20 of the proof that reading bytes answers as the document does. No condition. -/
import Derived.Test.YtpekmdpbfjdjkaaGreatY17
import Derived.Test.YtpekmdpbfjdjkaaGreatY19
set_option maxHeartbeats 16000000
set_option maxRecDepth 100000
set_option linter.all false
namespace Go.Proofs.YtpekmdpbfjdjkaaGreat.ref
open Go Go.RowKit ag.ax ag.aV ag.aU aD fr iK cL plain fE
theorem wY {P:Program} {fn:Func} {p q r:Tmp} {ty:TypeId} (h:fn.results=#[.cell p ty, .tmp q, .tmp r]) (tmps:Array Value) (w:World) (g:Nat) (t:TypeId) (cs:Array Value) (fr:Nat × Nat) (d:TypeDesc)
 (hp:tmps.getD p undef = .pointer (some ⟨g,0,none⟩)) (hg:w.heap[g]? = some (.cells cs t fr)) (hu:P.underlying ty=some d) (hd:(match d with | .struct _ | .array _ _=>true|_=>false)=true) (hi:(P.info? ty).map (·.size)=some cs.size) {v u:Value} (hv:tmps.getD q undef=v) (hv2:tmps.getD r undef=u) :
 (results fn tmps).run P w = .ok (.tuple #[.agg cs,v,u]) w:=by
 have hp':tmps[p]?.getD undef = .pointer (some ⟨g,0,none⟩):=by simpa using hp
 have hv':tmps[q]?.getD undef=v:=by simpa using hv
 have hu':tmps[r]?.getD undef=u:=by simpa using hv2
 simp [results,h,hp',hv',hu',asAddr,jm w g t ty cs fr d hg hu hd hi]
theorem uT {most:Nat} {r:List Int} (h:(gq 0 0 r).2.2≠0):fJ most r=none:=by
 have e:bX most (r,0)=([],(r,(gq 0 0 r).2.2)):=by rw [bX];simp only [ne_eq,not_true,if_false];rw [if_pos h]
 rw [fJ,e,pR,if_neg h]
theorem xd {most y:Nat} {r rest:List Int} (h:gq 0 0 r=((y:Int),((bu y).length:Int),0)) (hr:r=bu y++rest):fJ most r=if (most:Int)<(y:Int) then none else if (r.length:Int) - (bu y).length<(y:Int) then none else some (rest.take y,rest.drop y):=by
 have e2:r.drop (bu y).length=rest:=by rw [hr,fX]
 have e3:r.length=(bu y).length+rest.length:=by rw [hr,List.length_append]
 have e:bX most (r,0)=if (most:Int)<(y:Int) then ([],(r,25)) else if (r.length:Int) - (bu y).length<(y:Int) then ([],(r,21)) else tF y (rest,0):=by
  rw [bX];simp only [ne_eq,not_true,if_false,h,Int.toNat_natCast,e2]
 rw [fJ,e];by_cases q1:(most:Int)<(y:Int)
 ·rw [if_pos q1,if_pos q1];rfl
 rw [if_neg q1,if_neg q1];by_cases q2:(r.length:Int) - (bu y).length<(y:Int)
 ·rw [if_pos q2,if_pos q2];rfl
 rw [if_neg q2,if_neg q2,tF,eg];simp only [ne_eq,not_true,if_false];rw [if_neg (by omega)];rfl
theorem wi {a:Int} (h0:0≤a) (h:a≤4000000):IntKind.i64.wrap a=a∧wrap64 a=a∧IntKind.u64.wrap a=a:=⟨aA _ (by omega),IntWalk.wrap64_in _ (by omega),IntWalk.u64_in _ (by omega)⟩
theorem DE {L p n y:Nat} (h1:p+n≤L) (h2:¬((L:Int) - p - n<(y:Int))):p+n+y≤L:=by omega
theorem DH {p n y L c:Nat} (h:p+n+y≤L) (hL:L≤1000000) (hc:L≤c) :
 IntKind.i64.wrap ((p:Int)+n)=((p+n:Nat):Int)∧wrap64 ((p:Int)+n)=((p+n:Nat):Int)∧IntKind.i64.wrap (((p+n:Nat):Int)+y)=((p+n+y:Nat):Int)∧wrap64 (((p+n:Nat):Int)+y)=((p+n+y:Nat):Int)∧IntKind.i64.wrap ((n:Int)+y)=((n+y:Nat):Int)∧wrap64 ((n:Int)+y)=((n+y:Nat):Int)∧IntKind.i64.wrap (y:Int)=(y:Int)∧wrap64 (y:Int)=(y:Int)∧IntKind.i64.wrap ((p+n:Nat):Int)=((p+n:Nat):Int)∧IntKind.i64.wrap ((p+n+y:Nat):Int)=((p+n+y:Nat):Int)∧((p+n:Nat):Int)≤((p+n+y:Nat):Int)∧((p+n+y:Nat):Int)≤(c:Int):=by
 have e1:((p:Int)+n)=((p+n:Nat):Int):=by omega
 have e2:(((p+n:Nat):Int)+y)=((p+n+y:Nat):Int):=by omega
 have e3:((n:Int)+y)=((n+y:Nat):Int):=by omega
 have w:=fun (a:Nat) (ha:a≤4000000)=>wi (a:=(a:Int)) (by omega) (by omega);rw [e1,e2,e3];exact ⟨(w _ (by omega)).1,(w _ (by omega)).2.1,(w _ (by omega)).1,(w _ (by omega)).2.1,(w _ (by omega)).1,(w _ (by omega)).2.1,(w _ (by omega)).1,(w _ (by omega)).2.1,(w _ (by omega)).1,(w _ (by omega)).1,by omega,by omega⟩
theorem DP {P1 P2 y p n P3:Nat} {l rest:List Int} (hP1:p+n=P1) (hP2:P1+y=P2) (hP3:n+y=P3) (h:P2≤l.length) (DR:rest=l.drop P1):(l.take P2).drop P1=rest.take y∧P1≤P2∧rest.drop y=l.drop (p+P3)∧p+P3≤l.length:=by
 subst hP1 hP2 hP3 DR;exact ⟨by rw [List.drop_take,show p+n+y - (p+n)=y by omega],by omega,by rw [gZ];congr 1;omega,by omega⟩
theorem xa (A:Option Addr) (c:Nat) (l:List Int) (P1 P2:Nat) (w:World) (hw:Kd.C (Kd.int .u8) w A l.length l) (hc:l.length≤c) (hL:l.length≤1000000) (h1:P1≤P2) (h2:P2≤l.length) :
 Calls Tryz.prog 185 #[.slice none 0 0, .slice (if c=P1 then A else A.map (fun x=>x.add P1)) (P2 - P1) (c - P1)] w (zE w ((l.take P2).drop P1)):=by
 have hln:((l.take P2).drop P1).length=P2 - P1:=by rw [List.length_drop,List.length_take];omega
 have h:=Kd.CV hw (lo:=P1) (hi:=P2) h1 h2 hc;simp only [show (Kd.int IntKind.u8).sz=1 from rfl,Nat.mul_one] at h;have h3:=zf none 0 [] _ (c - P1) _ w (Kd.sW _ _) (aI _) h (by rw [hln];omega) (by decide) (by rw [hln];omega);rw [hln] at h3;exact h3
def bF (k n i:Int) (f:Bool) (v:Value):Array Value:=#[.int .i64 k, .int .u64 n, .int .i64 i, .bool f,v]
def dx:Array Value:=#[.int .i64 0, .int .u64 0, .int .i64 0, .bool false, .slice none 0 0]
def wJ (v:Value) (at_ er:Int):Array Value:=#[.bool true,v, .int .i64 at_, .int .i64 er]
structure Th where
 k:Int
 n:Int
 f:Bool
 b:List Int
def mh (W:World) (l:List Int) (p:Nat) (o:Option (Th × List Int)) (e:Ending) (w':World):Prop:=Below W.heap.size W w'∧
 match o with
 | none=>∃er,e = .returned (.tuple #[.agg dx, .int .i64 0, .int .i64 er])∧er≠0
 | some (t,r)=>∃(v:Value) (j:Nat),e = .returned (.tuple #[.agg (bF t.k t.n 0 t.f v), .int .i64 j, .int .i64 0])∧p+j≤l.length∧r=l.drop (p+j)∧Kd.R (Kd.int .u8) 5 w' W.heap.size (fun _=>True) v t.b
theorem mh.no {W w':World} {l:List Int} {p:Nat} {o:Option (Th × List Int)} {er:Int} (ho:none=o) (hb:Below W.heap.size W w') (he:er≠0):mh W l p o (.returned (.tuple #[.agg dx, .int .i64 0, .int .i64 er])) w':=by
 subst ho;exact ⟨hb,er,rfl,he⟩
theorem mh.ok {W w':World} {l:List Int} {p j:Nat} {o:Option (Th × List Int)} {t:Th} {r:List Int} {v:Value} (ho:some (t,r)=o) (hb:Below W.heap.size W w') (h1:p+j≤l.length) (h2:r=l.drop (p+j)) (h3:Kd.R (Kd.int .u8) 5 w' W.heap.size (fun _=>True) v t.b):mh W l p o (.returned (.tuple #[.agg (bF t.k t.n 0 t.f v), .int .i64 j, .int .i64 0])) w':=by
 subst ho;exact ⟨hb,v,j,rfl,h1,h2,h3⟩
theorem AI (A:Option Addr) (c:Nat) (l:List Int) (p most:Nat) (W:World) (hl:Kd.C (Kd.int .u8) W A l.length l) (hc:l.length≤c) (hL:l.length≤1000000) (hb:aq l) (hp:p≤l.length) (hm:most≤1000000) :
 Calls Tryz.prog 203 #[.slice A l.length c, .int .i64 p, .int .i64 most] W (mh W l p ((fJ most (l.drop p)).map fun q=>(⟨9,0,false,q.1⟩,q.2))):=by
 have hu308:=Tryz.underlying308;have HC:=aa hl;have HY:=aa hb;obtain ⟨ge,hge,hg0⟩:=nL l p (by omega) hb hp;generalize hO:(fJ most (l.drop p)).map _=o;have HO:=aa hO;have HG:=aa (fun w1 h1=>au.calls 60 A c l p _ _ _ w1 h1 hc hge);clear hl hO hge;have hmi:(0:Int)≤most:=by omega
 go_in;go_wp2_with fail;have RB0:=aa (aJ W (.cells dx 308));have B0:=aa (ah (Below.refl _ W) (.cells dx 308));have C0:=aa (Kd.eU HC.1 (.cells dx 308));simp only [dx] at RB0 B0 C0;generalize World.alloc W _=w1 at RB0 B0 C0 ⊢;generalize hrb:W.heap.size=rb at RB0 ⊢;have RBS:=aa (show W.heap.size≤rb from kJ hrb);refine (HG.1 w1 C0.1).mono ?_;rintro e w2 ⟨rfl,hB2⟩;have RB2:=aa ((hB2.block rb (ak RB0.1)).trans RB0.1);have B2:=aa (B0.1.trans (hB2.mono B0.1.size));have C2:=aa (Kd.aN C0.1 hB2);clear hB2 RB0 B0 C0 HG;have BYr:=aa (show aq (l.drop p) from fun x hx=>HY.1 x (bh hx));by_cases g0:ge=0
 case neg=>
  have g0b:(ge != 0)=true:=by rw [mq];exact g0
  have HO2:=aa (show none=o by rw [←HO.1,uT (fun h=>g0 (hg0.2 h))];rfl);clear HO;generalize (gq 0 0 (l.drop p)).1=y;generalize (gq 0 0 (l.drop p)).2.1=n;go_wp2_with ((with_reducible refine gS 6 25 rfl ?_);refine sB dx RB2.1 ?_;intro wz hW hG;have WZ:=aa (show wz.heap[rb]? = some (.cells dx 308 (0,0)) from hW.1);have BZ:=aa (B2.1.grown hG.1 B2.1.size (fun k e=>by injection e with e;have:=RBS.1;omega)));refine gK WZ.1 hu308 ?_;exact mh.no HO2.1 BZ.1 g0
 have g0b:(ge != 0)=false:=by rw [ci];exact g0
 obtain ⟨y,rest,hy1,hy2,hy3⟩:=ny BYr.1 (hg0.1 g0);have HO1:=aa (show ((if (most:Int)<(y:Int) then none else if (l.length:Int) - p - (bu y).length<y then none else some (rest.take y,rest.drop y)):Option (List Int × List Int)).map (fun q=>((⟨9,0,false,q.1⟩:Th),q.2))=o by
  rw [←HO.1,xd hy1 hy2,show ((l.drop p).length:Int) - ((bu y).length:Int)=(l.length:Int) - p - (bu y).length by rw [List.length_drop];omega])
 have hpn:p+(bu y).length≤l.length:=by have:=congrArg List.length hy2;rw [List.length_drop,List.length_append] at this;omega
 have DR:=aa (show rest=l.drop (p+(bu y).length) by rw [←gZ,hy2,fX]);rw [hy1];clear HO hy2 hy1 hg0;generalize (bu y).length=n at HO1 hpn DR ⊢;subst g0;have hmw:IntKind.u64.wrap (most:Int)=(most:Int):=IntWalk.u64_in _ (by omega);by_cases g1:(most:Int)<(y:Int)
 ·have g1b:decide ((most:Int)<(y:Int))=true:=decide_eq_true g1;have HO2:=aa (show none=o by rw [←HO1.1,if_pos g1];rfl);clear HO1;go_wp2_with ((with_reducible refine gS 6 31 rfl ?_);refine sB dx RB2.1 ?_;intro wz hW hG;have WZ:=aa (show wz.heap[rb]? = some (.cells dx 308 (0,0)) from hW.1);have BZ:=aa (B2.1.grown hG.1 B2.1.size (fun k e=>by injection e with e;have:=RBS.1;omega)));refine gK WZ.1 hu308 ?_;exact mh.no HO2.1 BZ.1 (by decide)
 have g1b:decide ((most:Int)<(y:Int))=false:=decide_eq_false g1;have w1_:wrap64 ((l.length:Int) - p)=(l.length:Int) - p:=IntWalk.wrap64_in _ (by omega);have w2_:wrap64 ((l.length:Int) - p - n)=(l.length:Int) - p - n:=IntWalk.wrap64_in _ (by omega);have w1i:IntKind.i64.wrap ((l.length:Int) - p)=(l.length:Int) - p:=aA _ (by omega);have w2i:IntKind.i64.wrap ((l.length:Int) - p - n)=(l.length:Int) - p - n:=aA _ (by omega);have w3_:IntKind.u64.wrap ((l.length:Int) - p - n)=(l.length:Int) - p - n:=IntWalk.u64_in _ (by omega);by_cases g2:(l.length:Int) - p - n<(y:Int)
 ·have g2b:decide ((l.length:Int) - p - n<(y:Int))=true:=decide_eq_true g2;have HO2:=aa (show none=o by rw [←HO1.1,if_neg g1,if_pos g2];rfl);clear HO1;go_wp2_with ((with_reducible refine gS 6 41 rfl ?_);refine sB dx RB2.1 ?_;intro wz hW hG;have WZ:=aa (show wz.heap[rb]? = some (.cells dx 308 (0,0)) from hW.1);have BZ:=aa (B2.1.grown hG.1 B2.1.size (fun k e=>by injection e with e;have:=RBS.1;omega)));refine gK WZ.1 hu308 ?_;exact mh.no HO2.1 BZ.1 (by decide)
 have g2b:decide ((l.length:Int) - p - n<(y:Int))=false:=decide_eq_false g2;have HO2:=aa (show some ((⟨9,0,false,rest.take y⟩:Th),rest.drop y)=o by rw [←HO1.1,if_neg g1,if_neg g2];rfl);clear HO1;have HPY0:p+n+y≤l.length:=DE hpn g2;obtain ⟨v1,v1w,v2,v2w,v3,v3w,v4,v4w,v5,v6,b1,b2⟩:=DH HPY0 hL hc;have HPY:=aa HPY0;have HPN:=aa hpn;have g1n:¬most<y:=fun h=>g1 (Int.ofNat_lt.2 h);clear HPY0 hpn g1 hmi;generalize hP1:p+n=P1 at v1 v1w v2 v2w v5 v6 b1 b2 DR HPY ⊢;generalize hP2:P1+y=P2 at v2 v2w v6 b1 b2 HPY ⊢;generalize hP3:n+y=P3 at v3 v3w;clear hy3 hb hp hm BYr hrb;obtain ⟨hrw,hP12,hP4⟩:=DP hP1 hP2 hP3 HPY.1 DR.1;have HJ:=aa (fun (w:World) (hw:Kd.C (Kd.int .u8) w A l.length l)=>(show Calls _ _ _ w (zE w (rest.take y)) from hrw▸xa A c l P1 P2 w hw hc hL hP12 HPY.1));have HP4:=aa hP4;clear hrw hP12 hP4 hP1 hP2 hP3 DR;go_wp2_with fail
 case inr=>
  simp only [if_neg h] at HJ;refine (HJ.1 _ C2.1).mono ?_;rintro e w3 ⟨v,rfl,hR3,hB3⟩;obtain ⟨Av,cv,hv⟩:=Kd.aG hR3;generalize (rest.take y).length=nv at hv;subst hv;have R3:=aa hR3;have B3:=aa (B2.1.trans (hB3.mono B2.1.size));have RB3:=aa ((hB3.block rb (ak RB2.1)).trans RB2.1);have LT:=aa (ak RB2.1);have B2s:=aa B2.1.size;clear hR3 hB3 RB2 B2 HJ C2;go_wp2_with ((with_reducible refine gS 6 55 rfl ?_);refine sB (bF 9 0 0 false (.slice Av nv cv)) RB3.1 ?_;intro wz hW hG;have WZ:=aa (show wz.heap[rb]? = some (.cells (bF 9 0 0 false (.slice Av nv cv)) 308 (0,0)) from hW.1);have BZ:=aa (B3.1.grown hG.1 B3.1.size (fun k e=>by injection e with e;have:=RBS.1;omega));have RZ:=aa (Kd.cI (dO.iO R3.1 hG.1 LT.1) B2s.1));refine gK WZ.1 hu308 ?_;exact mh.ok (j:=P3) HO2.1 BZ.1 HP4.1.2 HP4.1.1 RZ.1
 case inl=>
  simp only [if_pos h,Nat.sub_eq_zero_of_le (kJ h)] at HJ;refine (HJ.1 _ C2.1).mono ?_;rintro e w3 ⟨v,rfl,hR3,hB3⟩;obtain ⟨Av,cv,hv⟩:=Kd.aG hR3;generalize (rest.take y).length=nv at hv;subst hv;have R3:=aa hR3;have B3:=aa (B2.1.trans (hB3.mono B2.1.size));have RB3:=aa ((hB3.block rb (ak RB2.1)).trans RB2.1);have LT:=aa (ak RB2.1);have B2s:=aa B2.1.size;clear hR3 hB3 RB2 B2 HJ C2;go_wp2_with ((with_reducible refine gS 6 55 rfl ?_);refine sB (bF 9 0 0 false (.slice Av nv cv)) RB3.1 ?_;intro wz hW hG;have WZ:=aa (show wz.heap[rb]? = some (.cells (bF 9 0 0 false (.slice Av nv cv)) 308 (0,0)) from hW.1);have BZ:=aa (B3.1.grown hG.1 B3.1.size (fun k e=>by injection e with e;have:=RBS.1;omega));have RZ:=aa (Kd.cI (dO.iO R3.1 hG.1 LT.1) B2s.1));refine gK WZ.1 hu308 ?_;exact mh.ok (j:=P3) HO2.1 BZ.1 HP4.1.2 HP4.1.1 RZ.1
structure Bk (base:Nat) (ts:List Nat) (W w:World) (bs:List (Nat × Nat × Array Value)):Prop where
 mv:Mv ts W w
 bel:Below base W w
 hB:base≤W.heap.size
 at_:∀x∈bs,w.heap[x.1]? = some (.cells x.2.2 x.2.1 (0,0))
 lo:∀x∈bs,W.heap.size≤x.1
 nd:bs.Pairwise (fun x y=>x.1≠y.1)
variable {base:Nat} {ts:List Nat} {W w w':World} {bs:List (Nat × Nat × Array Value)}
theorem Bk.new (h:base≤W.heap.size):Bk base ts W W []:=⟨Mv.refl _ _,Below.refl _ _,h,(fun _ h=>by cases h),(fun _ h=>by cases h),List.Pairwise.nil⟩
theorem Bk.size (h:Bk base ts W w bs):W.heap.size≤w.heap.size:=h.mv.size
theorem Bk.hb (h:Bk base ts W w bs):base≤w.heap.size:=Nat.le_trans h.hB h.size
theorem Bk.grow (h:Bk base ts W w bs) (hb:Below w.heap.size w w'):Bk base ts W w' bs:=
 ⟨h.mv.trans (Mv.cH hb),h.bel.trans (hb.mono h.hb),h.hB,fun x hx=>(hb.block x.1 (ak (h.at_ x hx))).trans (h.at_ x hx),h.lo,h.nd⟩
theorem Bk.push (h:Bk base ts W w bs) (t:Nat) (cs:Array Value):Bk base ts W (w.alloc (.cells cs t)) ((w.heap.size,t,cs)::bs):=by
 have g:=h.grow (ah (Below.refl _ w) (.cells cs t));refine ⟨g.mv,g.bel,g.hB,fun x hx=>?_,fun x hx=>?_,List.Pairwise.cons (fun y hy e=>?_) g.nd⟩
 ·rcases List.mem_cons.1 hx with rfl|hx
  ·exact aJ w _
  ·exact g.at_ x hx
 ·rcases List.mem_cons.1 hx with rfl|hx
  ·exact h.size
  ·exact g.lo x hx
 ·have:=ak (h.at_ y hy);simp only at e;omega
theorem Bk.move {ts':List Nat} (h:Bk base ts W w bs) (hm:Mv ts' w w') (hts:∀t∈ts',t∈ts) (hb:Below base w w') (hn:∀x∈bs,x.2.1∉ts'):Bk base ts W w' bs:=
 ⟨h.mv.trans (hm.mono hts),h.bel.trans hb,h.hB,fun x hx=>hm.at (h.at_ x hx) (hn x hx),h.lo,h.nd⟩
theorem qF (h:Mv ts W w) {r:Option Nat} (hg:w.grownBy w' r) (hr:∀k,r=some k→W.heap.size≤k):Mv ts W w':=
 ⟨hg.os.trans h.os,hg.tape.trans h.tape,hg.output.trans h.output,Nat.le_trans h.size hg.size,fun k cs t f hk ht=>by
  have h1:=h.block k cs t f hk ht;exact (hg.block k (ak h1) (fun e=>by have:=hr k e.symm;have:=ak hk;omega)).trans h1⟩
theorem Bk.set {l1 l2:List (Nat × Nat × Array Value)} {g t:Nat} {cs cs':Array Value} (h:Bk base ts W w (l1++(g,t,cs)::l2)) (hg:w.grownBy w' (some g)) (hb:w'.heap[g]? = some (.cells cs' t (0,0))):Bk base ts W w' (l1++(g,t,cs')::l2):=by
 have hlo:W.heap.size≤g:=h.lo (g,t,cs) (by simp);have hp:=List.pairwise_append.1 h.nd;have hq:=List.pairwise_cons.1 hp.2.1;refine ⟨qF h.mv hg (fun k e=>by injection e with e;omega),h.bel.grown hg h.hb (fun k e=>by injection e with e;have:=h.hB;omega),h.hB,fun x hx=>?_,fun x hx=>?_,List.pairwise_append.2 ⟨hp.1,List.pairwise_cons.2 ⟨hq.1,hq.2⟩,fun a ha b hb=>?_⟩⟩
 ·have nh:∀y,y∈l1++(g,t,cs)::l2→y.1≠g→w'.heap[y.1]? = some (.cells y.2.2 y.2.1 (0,0)):=fun y hy hne=>(hg.block y.1 (ak (h.at_ y hy)) (fun e=>hne (by injection e))).trans (h.at_ y hy);rcases List.mem_append.1 hx with hx|hx
  ·exact nh x (j7 _ hx) (hp.2.2 x hx (g,t,cs) (by simp))
  ·rcases List.mem_cons.1 hx with rfl|hx
   ·exact hb
   ·exact nh x (by simp [hx]) (fun e=>hq.1 x hx e.symm)
 ·rcases List.mem_append.1 hx with hx|hx
  ·exact h.lo x (by simp [hx])
  ·rcases List.mem_cons.1 hx with rfl|hx
   ·exact hlo
   ·exact h.lo x (by simp [hx])
 ·rcases List.mem_cons.1 hb with rfl|hb
  ·exact hp.2.2 a ha (g,t,cs) (by simp)
  ·exact hp.2.2 a ha b (by simp [hb])
theorem Bk.row {α:Type} {d:Kd α} {e lo:Nat} {ok:Nat→Prop} {v:Value} {xs:List α} (h:Bk base ts W w bs) (hg:w.grownBy w' v.ownBlock) (hr:d.R e w lo ok v xs) (hlo:W.heap.size≤lo) (hne:∀x∈bs,x.2.1≠e):Bk base ts W w' bs:=by
 have hk:∀k,v.ownBlock=some k→W.heap.size≤k:=fun k e=>Nat.le_trans hlo ((Kd.bS hr).1 k e).2.1;exact ⟨qF h.mv hg hk,h.bel.grown hg h.hb (fun k e=>Nat.le_trans h.hB (hk k e)),h.hB,fun x hx=>(Mv.fB hg hr (List.mem_singleton.2 rfl)).at (h.at_ x hx) (by simpa using hne x hx),h.lo,h.nd⟩
theorem Bk.tail {x:Nat × Nat × Array Value} (h:Bk base ts W w (x::bs)):Bk base ts W w bs:=⟨h.mv,h.bel,h.hB,fun y hy=>h.at_ y (List.mem_cons_of_mem _ hy),fun y hy=>h.lo y (List.mem_cons_of_mem _ hy),(List.pairwise_cons.1 h.nd).2⟩
theorem Bk.cE {g t:Nat} {cs:Array Value} (h:Bk base ts W w ((g,t,cs)::bs)):w.heap[g]? = some (.cells cs t (0,0)):=h.at_ (g,t,cs) (by simp)
theorem Bk.fu {x:Nat × Nat × Array Value} {g t:Nat} {cs:Array Value} (h:Bk base ts W w (x::(g,t,cs)::bs)):w.heap[g]? = some (.cells cs t (0,0)):=h.tail.cE
theorem Bk.eS {x y:Nat × Nat × Array Value} {g t:Nat} {cs:Array Value} (h:Bk base ts W w (x::y::(g,t,cs)::bs)):w.heap[g]? = some (.cells cs t (0,0)):=h.tail.tail.cE
theorem Bk.jJ {x y z:Nat × Nat × Array Value} {g t:Nat} {cs:Array Value} (h:Bk base ts W w (x::y::z::(g,t,cs)::bs)):w.heap[g]? = some (.cells cs t (0,0)):=h.tail.tail.tail.cE
theorem Bk.wZ {x y z u:Nat × Nat × Array Value} {g t:Nat} {cs:Array Value} (h:Bk base ts W w (x::y::z::u::(g,t,cs)::bs)):w.heap[g]? = some (.cells cs t (0,0)):=h.tail.tail.tail.tail.cE
theorem Bk.Dm {x y z u v:Nat × Nat × Array Value} {g t:Nat} {cs:Array Value} (h:Bk base ts W w (x::y::z::u::v::(g,t,cs)::bs)):w.heap[g]? = some (.cells cs t (0,0)):=h.tail.tail.tail.tail.tail.cE
theorem Bk.DF {g t:Nat} {cs:Array Value} (h:Bk base ts W w ((g,t,cs)::bs)):W.heap.size≤g:=h.lo (g,t,cs) (by simp)
structure Rg (w:World) (base br:Nat) (l:List Int) (p:Nat) (e:Int):Prop where
 dI:∃v,w.heap[br]? = some (.cells (wJ v p e) 275 (0,0))∧Kd.R (Kd.int .u8) 5 w base (fun _=>True) v l
 lo:base≤br
 hp:p≤l.length
 hL:l.length≤1000000
 Af:aq l
def TG:List Nat:=[275]
theorem Rg.move {ts':List Nat} {br p:Nat} {l:List Int} {e:Int} (h:Rg w base br l p e) (hm:Mv ts' w w') (h1:275∉ts') (h2:5∉ts'):Rg w' base br l p e:=by
 obtain ⟨v,h3,h4⟩:=h.dI;exact ⟨⟨v,hm.at h3 h1,eV h4 hm (fun q hq=>by
  rcases List.mem_cons.1 hq with rfl|hq
  ·exact h2
  ·cases hq)⟩,h.lo,h.hp,h.hL,h.Af⟩
theorem Rg.grow {br p:Nat} {l:List Int} {e:Int} (h:Rg w base br l p e) (hb:Below w.heap.size w w'):Rg w' base br l p e:=h.move (ts':=[]) (Mv.cH hb) (by simp) (by simp)
structure Rk (base:Nat) (W w:World) (bs:List (Nat × Nat × Array Value)) (br:Nat) (l:List Int) (p:Nat) (e:Int):Prop where
 bk:Bk base TG W w bs
 rg:Rg w base br l p e
 nt:∀x∈bs,x.2.1≠275∧x.2.1≠5
variable {br p:Nat} {l:List Int} {e:Int}
theorem Rk.new (h:Rg W base br l p e) (hB:base≤W.heap.size):Rk base W W [] br l p e:=⟨Bk.new hB,h,fun _ h=>by cases h⟩
theorem Rk.grow (h:Rk base W w bs br l p e) (hb:Below w.heap.size w w'):Rk base W w' bs br l p e:=⟨h.bk.grow hb,h.rg.grow hb,h.nt⟩
theorem Rk.push (h:Rk base W w bs br l p e) (t:Nat) (cs:Array Value) (h1:t≠275) (h2:t≠5):Rk base W (w.alloc (.cells cs t)) ((w.heap.size,t,cs)::bs) br l p e:=
 ⟨h.bk.push t cs,h.rg.grow (ah (Below.refl _ _) _),fun x hx=>by
  rcases List.mem_cons.1 hx with rfl|hx
  ·exact ⟨h1,h2⟩
  ·exact h.nt x hx⟩
theorem Rk.set {l1 l2:List (Nat × Nat × Array Value)} {g t:Nat} {cs cs':Array Value} (h:Rk base W w (l1++(g,t,cs)::l2) br l p e) (hg:w.grownBy w' (some g)) (hb:w'.heap[g]? = some (.cells cs' t (0,0))):Rk base W w' (l1++(g,t,cs')::l2) br l p e:=by
 have hn:=h.nt (g,t,cs) (by simp);refine ⟨h.bk.set hg hb,h.rg.move (Mv.bG hg (h.bk.at_ (g,t,cs) (by simp)) (List.mem_singleton.2 rfl)) (by simpa using fun e=>hn.1 e.symm) (by simpa using fun e=>hn.2 e.symm),fun x hx=>?_⟩;rcases List.mem_append.1 hx with hx|hx
 ·exact h.nt x (by simp [hx])
 ·rcases List.mem_cons.1 hx with rfl|hx
  ·exact hn
  ·exact h.nt x (by simp [hx])
theorem Rk.row {α:Type} {d:Kd α} {t lo:Nat} {ok:Nat→Prop} {v:Value} {xs:List α} (h:Rk base W w bs br l p e) (hg:w.grownBy w' v.ownBlock) (hr:d.R t w lo ok v xs) (hlo:W.heap.size≤lo) (hne:∀x∈bs,x.2.1≠t) (h1:t≠275) (h2:t≠5):Rk base W w' bs br l p e:=
 ⟨h.bk.row hg hr hlo hne,h.rg.move (Mv.fB hg hr (List.mem_singleton.2 rfl)) (by simpa using fun e=>h1 e.symm) (by simpa using fun e=>h2 e.symm),h.nt⟩
theorem Rk.row' {α:Type} {d:Kd α} {t lo:Nat} {ok:Nat→Prop} {v:Value} {xs:List α} (h:Rk base W w bs br l p e) (hg:w.grownBy w' v.ownBlock) (hr:d.R t w lo ok v xs) (hlo:W.heap.size≤lo) (hne:(bs.map fun x=>x.2.1).all (fun q=>q != t)=true) (h1:t≠275) (h2:t≠5):Rk base W w' bs br l p e:=
 h.row hg hr hlo (fun x hx e=>by have:=List.all_eq_true.1 hne x.2.1 (List.mem_map_of_mem hx);simp [e] at this) h1 h2
theorem Rk.read {p':Nat} {e':Int} (h:Rk base W w bs br l p e) (hr:Rg w' base br l p' e') (hm:Mv TG w w') (hb:Below base w w'):Rk base W w' bs br l p' e':=
 ⟨h.bk.move hm (fun _ ht=>ht) hb (fun x hx=>by simpa [TG] using (h.nt x hx).1),hr,h.nt⟩
theorem Rk.tail {x:Nat × Nat × Array Value} (h:Rk base W w (x::bs) br l p e):Rk base W w bs br l p e:=⟨h.bk.tail,h.rg,fun y hy=>h.nt y (List.mem_cons_of_mem _ hy)⟩
theorem aX (w:World) (o:Obj):(w.alloc o).heap.size=w.heap.size+1:=cW _
theorem Bk.cr {base n:Nat} {ts:List Nat} {W w:World} {bs:List (Nat × Nat × Array Value)} (h:Bk base ts W w bs) (hs:w.heap.size=n) (t:Nat) (cs:Array Value):Bk base ts W (w.alloc (.cells cs t)) ((n,t,cs)::bs):=hs▸h.push t cs
theorem kQ (n:Nat) (r:List Int):dQ n r=if r.length<n then none else some (val (r.take n),r.drop n):=by
 rw [dQ,pR,aZ,eg];simp only [ne_eq,not_true,if_false];by_cases h:r.length<n
 ·rw [if_pos h,if_pos h];rfl
 ·rw [if_neg h,if_neg h];rfl
theorem sE (r:List Int):df r=if (gq 0 0 r).2.2≠0 then none else some ((gq 0 0 r).1,r.drop (gq 0 0 r).2.1.toNat):=by
 rw [df,pR,fQ];simp only [ne_eq,not_true,if_false];by_cases h:(gq 0 0 r).2.2=0
 ·simp only [h,not_true,if_false,if_true]
 ·simp only [h,not_false_iff,if_true,if_false]
theorem qG (r:List Int):jH r=match r with
 | []=>none
 | x::t=>if 1<x then none else some (x == 1,t):=by
 cases r with
 | nil=>rfl
 | cons x t=>
  simp only [jH,pR,lQ,ne_eq,not_true,if_false,List.length_cons,List.headD_cons,Nat.zero_lt_succ,true_and];by_cases h:1<x
  ·simp only [h,if_true];rfl
  ·simp only [h,if_false,aZ,eg,ne_eq,not_true,List.length_cons,show ¬(t.length+1<1) by omega,List.take_succ_cons,k7,aC,List.drop_zero,Option.getD_some,if_true];simp [val]
def dm (k n:Nat) (r:List Int):Option (Th × List Int):=
 if k=1 then (dQ 1 r).map fun q=>(⟨1,q.1,false,[]⟩,q.2)
 else if k=4 then (dQ 8 r).map fun q=>(⟨4,q.1,false,[]⟩,q.2)
 else if k=5 then (df r).map fun q=>(⟨5,q.1,false,[]⟩,q.2)
 else if k=7 then (jH r).map fun q=>(⟨7,0,q.1,[]⟩,q.2)
 else (fJ n r).map fun q=>(⟨9,0,false,q.1⟩,q.2)
theorem qq (A:Option Addr) (c:Nat) (l:List Int) (W:World) (hl:Kd.C (Kd.int .u8) W A l.length l) (hc:l.length≤c) (hL:l.length≤1000000) :
 Calls Tryz.prog 173 #[.slice A l.length c] W fun e w'=>∃v,e = .returned (.tuple #[.agg (wJ v 0 0), .int .i64 0])∧Kd.R (Kd.int .u8) 5 w' W.heap.size (fun _=>True) v l∧Below W.heap.size W w':=by
 have hu:=Tryz.underlying275;have HC:=aa hl;go_in;go_wp2_with fail;have K0:=aa ((Bk.new (base:=W.heap.size) (ts:=[]) (Nat.le_refl W.heap.size)).push 275 (#[.bool false, .slice none 0 0, .int .i64 0, .int .i64 0]:Array Value));generalize World.alloc W _=w1 at K0 ⊢;refine (zf none 0 [] A c l w1 (Kd.sW _ _) (aI _) (Kd.aN HC.1 K0.1.bel) hc (by decide) (by omega)).mono ?_;rintro e w2 ⟨v,rfl,hR,hB⟩;obtain ⟨A2,c2,rfl⟩:=Kd.aG hR;have R2:=aa (show Kd.R (Kd.int .u8) 5 w2 w1.heap.size (fun _=>True) (.slice A2 l.length c2) l from hR);have K2:=aa (K0.1.grow hB);have LT:=aa (ak K0.1.cE);have SZ:=aa K0.1.size;clear hR hB K0;go_wp2_with ((with_reducible refine gS 2 10 rfl ?_);refine sB (wJ (.slice A2 l.length c2) 0 0) K2.1.cE ?_;intro wz hW hG;have K3:=aa (K2.1.set (l1:=[]) hG.1 hW.1);have R3:=aa (Kd.cI (dO.iO R2.1 hG.1 LT.1) SZ.1));refine l9 K3.1.cE hu ?_;exact ⟨_,rfl,R3.1,K3.1.bel⟩
theorem As (A:Option Addr) (c:Nat) (l:List Int) (p:Nat) (W:World) (hl:Kd.C (Kd.int .u8) W A l.length l) (hc:l.length≤c) (hL:l.length≤1000000) (hb:aq l) (hp:p≤l.length) :
 Calls Tryz.prog 195 #[.slice A l.length c, .int .i64 p, .int .i64 1, .int .i64 0] W (mh W l p (dm 1 0 (l.drop p))):=by
 have hu:=Tryz.underlying308;have HC:=aa hl;have HY:=aa hb;have HL:=aa hL;have hwl:wrap64 ((l.length:Int) - p)=((l.length - p:Nat):Int):=by rw [IntWalk.wrap64_in _ (by omega)];omega
 have hwi:IntKind.i64.wrap ((l.length:Int) - p)=((l.length - p:Nat):Int):=by rw [aA _ (by omega)];omega
 go_in;have K0:=aa (((Bk.new (base:=W.heap.size) (ts:=[]) (Nat.le_refl W.heap.size)).cr rfl 308 dx).cr (aX W (.cells dx 308)) 308 dx);go_wp2_with ((with_reducible refine gS 11 18 rfl ?_);refine sB (bF 1 0 0 false (.slice none 0 0)) K0.1.cE ?_;intro wz hW hG;have K1:=aa (show Bk W.heap.size [] W wz [(W.heap.size+1,308,(bF 1 0 0 false (.slice none 0 0))),(W.heap.size,308,dx)] from K0.1.set (l1:=[]) hG.1 hW.1));refine (gD.calls 1 1 wz rfl).mono ?_;rintro e w2 ⟨rfl,hd⟩;have K2:=aa (K1.1.grow hd.below);have MP:=aa (show (l.drop p).length=l.length - p from List.length_drop);have HP:=aa hp;generalize l.length - p=m at hwl hwi MP;clear hd K1 K0 hb hp hl;by_cases g:(m:Int)<1
 ·have gb:decide ((m:Int)<1)=true:=decide_eq_true g;have HO:=aa (show none=dm 1 0 (l.drop p) by rw [show dm 1 0 (l.drop p)=(dQ 1 (l.drop p)).map _ from rfl,kQ,if_pos (by rw [MP.1];omega)];rfl);go_wp2_with ((with_reducible refine gS 8 34 rfl ?_);refine sB dx K2.1.fu ?_;intro wz hW hG;have KZ:=aa (K2.1.set (l1:=[_]) hG.1 hW.1));refine gK KZ.1.fu hu ?_;exact mh.no HO.1 KZ.1.bel (by decide)
 have gb:decide ((m:Int)<1)=false:=decide_eq_false g;have HO:=aa (show some ((⟨1,val ((l.drop p).take 1),false,[]⟩:Th),(l.drop p).drop 1)=dm 1 0 (l.drop p) by rw [show dm 1 0 (l.drop p)=(dQ 1 (l.drop p)).map _ from rfl,kQ,if_neg (by rw [MP.1];omega)];rfl);have PW:=aa (show p+1≤l.length by have h:=MP.1;rw [List.length_drop] at h;omega);have FR:=aa (show bQ.f 20 l (p:Int) 1=some (val ((l.drop p).take 1)) from ES l p 1 (Nat.le_trans HL.1 (by decide)) HY.1 PW.1 (by decide));go_wp2_with fail;refine (bQ.calls 20 A c l p 1 _ w2 (Kd.aN HC.1 K2.1.bel) hc FR.1).mono ?_;rintro e w3 ⟨rfl,hd⟩;have K3:=aa (K2.1.grow hd.below);generalize val ((l.drop p).take 1)=x at HO;clear hd K2 FR;go_wp2_with (first|((with_reducible refine gS 39 38 rfl ?_);refine sC 1 (.int .u64 x) (bF 1 x 0 false (.slice none 0 0)) K3.1.cE ?_;intro wz hW hG;have KA:=aa (show Bk W.heap.size [] W wz [(W.heap.size+1,308,(bF 1 x 0 false (.slice none 0 0))),(W.heap.size,308,dx)] from K3.1.set (l1:=[]) hG.1 hW.1))|((with_reducible refine az (N:=40) rfl ?_);refine lB KA.1.cE Tryz.underlying308 ?_)|((with_reducible refine gS 8 40 rfl ?_);refine sB (bF 1 x 0 false (.slice none 0 0)) KA.1.fu ?_;intro wz hW hG;have KZ:=aa (show Bk W.heap.size [] W wz [(W.heap.size+1,308,(bF 1 x 0 false (.slice none 0 0))),(W.heap.size,308,(bF 1 x 0 false (.slice none 0 0)))] from KA.1.set (l1:=[_]) hG.1 hW.1)));refine gK KZ.1.fu hu ?_;exact mh.ok (t:=⟨1,x,false,[]⟩) (j:=1) HO.1 KZ.1.bel PW.1 (by rw [gZ]) (Kd.cY _ _ _ _ _)
theorem zF (A:Option Addr) (c:Nat) (l:List Int) (p:Nat) (W:World) (hl:Kd.C (Kd.int .u8) W A l.length l) (hc:l.length≤c) (hL:l.length≤1000000) (hb:aq l) (hp:p≤l.length) :
 Calls Tryz.prog 195 #[.slice A l.length c, .int .i64 p, .int .i64 4, .int .i64 0] W (mh W l p (dm 4 0 (l.drop p))):=by
 have hu:=Tryz.underlying308;have HC:=aa hl;have HY:=aa hb;have HL:=aa hL;have hwl:wrap64 ((l.length:Int) - p)=((l.length - p:Nat):Int):=by rw [IntWalk.wrap64_in _ (by omega)];omega
 have hwi:IntKind.i64.wrap ((l.length:Int) - p)=((l.length - p:Nat):Int):=by rw [aA _ (by omega)];omega
 go_in;have K0:=aa (((Bk.new (base:=W.heap.size) (ts:=[]) (Nat.le_refl W.heap.size)).cr rfl 308 dx).cr (aX W (.cells dx 308)) 308 dx);go_wp2_with ((with_reducible refine gS 11 18 rfl ?_);refine sB (bF 4 0 0 false (.slice none 0 0)) K0.1.cE ?_;intro wz hW hG;have K1:=aa (show Bk W.heap.size [] W wz [(W.heap.size+1,308,(bF 4 0 0 false (.slice none 0 0))),(W.heap.size,308,dx)] from K0.1.set (l1:=[]) hG.1 hW.1));refine (gD.calls 4 8 wz rfl).mono ?_;rintro e w2 ⟨rfl,hd⟩;have K2:=aa (K1.1.grow hd.below);have MP:=aa (show (l.drop p).length=l.length - p from List.length_drop);have HP:=aa hp;generalize l.length - p=m at hwl hwi MP;clear hd K1 K0 hb hp hl;by_cases g:(m:Int)<8
 ·have gb:decide ((m:Int)<8)=true:=decide_eq_true g;have HO:=aa (show none=dm 4 0 (l.drop p) by rw [show dm 4 0 (l.drop p)=(dQ 8 (l.drop p)).map _ from rfl,kQ,if_pos (by rw [MP.1];omega)];rfl);go_wp2_with ((with_reducible refine gS 8 34 rfl ?_);refine sB dx K2.1.fu ?_;intro wz hW hG;have KZ:=aa (K2.1.set (l1:=[_]) hG.1 hW.1));refine gK KZ.1.fu hu ?_;exact mh.no HO.1 KZ.1.bel (by decide)
 have gb:decide ((m:Int)<8)=false:=decide_eq_false g;have HO:=aa (show some ((⟨4,val ((l.drop p).take 8),false,[]⟩:Th),(l.drop p).drop 8)=dm 4 0 (l.drop p) by rw [show dm 4 0 (l.drop p)=(dQ 8 (l.drop p)).map _ from rfl,kQ,if_neg (by rw [MP.1];omega)];rfl);have PW:=aa (show p+8≤l.length by have h:=MP.1;rw [List.length_drop] at h;omega);have FR:=aa (show bQ.f 20 l (p:Int) 8=some (val ((l.drop p).take 8)) from ES l p 8 (Nat.le_trans HL.1 (by decide)) HY.1 PW.1 (by decide));go_wp2_with fail;refine (bQ.calls 20 A c l p 8 _ w2 (Kd.aN HC.1 K2.1.bel) hc FR.1).mono ?_;rintro e w3 ⟨rfl,hd⟩;have K3:=aa (K2.1.grow hd.below);generalize val ((l.drop p).take 8)=x at HO;clear hd K2 FR;go_wp2_with (first|((with_reducible refine gS 39 38 rfl ?_);refine sC 1 (.int .u64 x) (bF 4 x 0 false (.slice none 0 0)) K3.1.cE ?_;intro wz hW hG;have KA:=aa (show Bk W.heap.size [] W wz [(W.heap.size+1,308,(bF 4 x 0 false (.slice none 0 0))),(W.heap.size,308,dx)] from K3.1.set (l1:=[]) hG.1 hW.1))|((with_reducible refine az (N:=40) rfl ?_);refine lB KA.1.cE Tryz.underlying308 ?_)|((with_reducible refine gS 8 40 rfl ?_);refine sB (bF 4 x 0 false (.slice none 0 0)) KA.1.fu ?_;intro wz hW hG;have KZ:=aa (show Bk W.heap.size [] W wz [(W.heap.size+1,308,(bF 4 x 0 false (.slice none 0 0))),(W.heap.size,308,(bF 4 x 0 false (.slice none 0 0)))] from KA.1.set (l1:=[_]) hG.1 hW.1)));refine gK KZ.1.fu hu ?_;exact mh.ok (t:=⟨4,x,false,[]⟩) (j:=8) HO.1 KZ.1.bel PW.1 (by rw [gZ]) (Kd.cY _ _ _ _ _)
theorem AR (A:Option Addr) (c:Nat) (l:List Int) (p:Nat) (W:World) (hl:Kd.C (Kd.int .u8) W A l.length l) (hc:l.length≤c) (hL:l.length≤1000000) (hb:aq l) (hp:p≤l.length) :
 Calls Tryz.prog 195 #[.slice A l.length c, .int .i64 p, .int .i64 5, .int .i64 0] W (mh W l p (dm 5 0 (l.drop p))):=by
 have hu:=Tryz.underlying308;have HC:=aa hl;have HY:=aa hb;have HL:=aa hL;have hwl:wrap64 ((l.length:Int) - p)=((l.length - p:Nat):Int):=by rw [IntWalk.wrap64_in _ (by omega)];omega
 have hwi:IntKind.i64.wrap ((l.length:Int) - p)=((l.length - p:Nat):Int):=by rw [aA _ (by omega)];omega
 go_in;have K0:=aa (((Bk.new (base:=W.heap.size) (ts:=[]) (Nat.le_refl W.heap.size)).cr rfl 308 dx).cr (aX W (.cells dx 308)) 308 dx);go_wp2_with ((with_reducible refine gS 11 18 rfl ?_);refine sB (bF 5 0 0 false (.slice none 0 0)) K0.1.cE ?_;intro wz hW hG;have K1:=aa (show Bk W.heap.size [] W wz [(W.heap.size+1,308,(bF 5 0 0 false (.slice none 0 0))),(W.heap.size,308,dx)] from K0.1.set (l1:=[]) hG.1 hW.1));obtain ⟨ge,hge,hg0⟩:=nL l p (by omega) hb hp;refine (au.calls 60 A c l p _ _ _ wz (Kd.aN HC.1 K1.1.bel) hc hge).mono ?_;rintro e w2 ⟨rfl,hd⟩;have K2:=aa (K1.1.grow hd);have BYr:=aa (show aq (l.drop p) from fun x hx=>HY.1 x (bh hx));have HP:=aa hp;clear hd K1 K0 hb hp hl hge;by_cases g:ge=0
 case neg=>
  have gb:(ge != 0)=true:=by rw [mq];exact g
  have HO:=aa (show none=dm 5 0 (l.drop p) by rw [show dm 5 0 (l.drop p)=(df (l.drop p)).map _ from rfl,sE,if_pos (fun h=>g (hg0.2 h))];rfl);generalize (gq 0 0 (l.drop p)).1=y;generalize (gq 0 0 (l.drop p)).2.1=n;go_wp2_with ((with_reducible refine gS 8 54 rfl ?_);refine sB dx K2.1.fu ?_;intro wz hW hG;have KZ:=aa (K2.1.set (l1:=[_]) hG.1 hW.1));refine gK KZ.1.fu hu ?_;exact mh.no HO.1 KZ.1.bel g
 obtain ⟨y,rest,hy1,hy2,hy3⟩:=ny BYr.1 (hg0.1 g);subst g;have HO:=aa (show some ((⟨5,(y:Int),false,[]⟩:Th),rest)=dm 5 0 (l.drop p) by rw [show dm 5 0 (l.drop p)=(df (l.drop p)).map _ from rfl,sE,hy1,if_neg (by simp)];simp only [dh,Int.toNat_natCast];rw [hy2,fX]);have PW:=aa (show p+(bu y).length≤l.length by have h:=congrArg List.length hy2;have:=HP.1;rw [List.length_drop,List.length_append] at h;omega);have DR:=aa (show rest=l.drop (p+(bu y).length) by rw [←gZ,hy2,fX]);rw [hy1];clear hy1 hy2 hy3 hg0 BYr HP;generalize (bu y).length=n at PW DR ⊢;go_wp2_with (first|((with_reducible refine gS 59 58 rfl ?_);refine sC 1 (.int .u64 (y:Int)) (bF 5 (y:Int) 0 false (.slice none 0 0)) K2.1.cE ?_;intro wz hW hG;have KA:=aa (show Bk W.heap.size [] W wz [(W.heap.size+1,308,(bF 5 (y:Int) 0 false (.slice none 0 0))),(W.heap.size,308,dx)] from K2.1.set (l1:=[]) hG.1 hW.1))|((with_reducible refine az (N:=63) rfl ?_);refine lB KA.1.cE Tryz.underlying308 ?_)|((with_reducible refine gS 8 63 rfl ?_);refine sB (bF 5 (y:Int) 0 false (.slice none 0 0)) KA.1.fu ?_;intro wz hW hG;have KZ:=aa (show Bk W.heap.size [] W wz [(W.heap.size+1,308,(bF 5 (y:Int) 0 false (.slice none 0 0))),(W.heap.size,308,(bF 5 (y:Int) 0 false (.slice none 0 0)))] from KA.1.set (l1:=[_]) hG.1 hW.1)));refine gK KZ.1.fu hu ?_;exact mh.ok (t:=⟨5,(y:Int),false,[]⟩) (j:=n) HO.1 KZ.1.bel PW.1 DR.1 (Kd.cY _ _ _ _ _)
theorem Al (A:Option Addr) (c:Nat) (l:List Int) (p:Nat) (W:World) (hl:Kd.C (Kd.int .u8) W A l.length l) (hc:l.length≤c) (hL:l.length≤1000000) (hb:aq l) (hp:p≤l.length) :
 Calls Tryz.prog 195 #[.slice A l.length c, .int .i64 p, .int .i64 7, .int .i64 0] W (mh W l p (dm 7 0 (l.drop p))):=by
 have hu:=Tryz.underlying308;have HC:=aa hl;have HY:=aa hb;have HL:=aa hL;have hwl:wrap64 ((l.length:Int) - p)=((l.length - p:Nat):Int):=by rw [IntWalk.wrap64_in _ (by omega)];omega
 have hwi:IntKind.i64.wrap ((l.length:Int) - p)=((l.length - p:Nat):Int):=by rw [aA _ (by omega)];omega
 go_in;have K0:=aa (((Bk.new (base:=W.heap.size) (ts:=[]) (Nat.le_refl W.heap.size)).cr rfl 308 dx).cr (aX W (.cells dx 308)) 308 dx);have MP:=aa (show (l.drop p).length=l.length - p from List.length_drop);have HP:=aa hp;generalize l.length - p=m at hwl hwi MP;clear hb hp;cases hr:l.drop p with
 | nil=>
  have hm:m=0:=by have h:=MP.1;rw [hr] at h;exact h.symm
  have HO:=aa (show none=dm 7 0 [] from rfl);subst hm;go_wp2_with (first|((with_reducible refine gS 11 18 rfl ?_);refine sB (bF 7 0 0 false (.slice none 0 0)) K0.1.cE ?_;intro wz hW hG;have K1:=aa (show Bk W.heap.size [] W wz [(W.heap.size+1,308,(bF 7 0 0 false (.slice none 0 0))),(W.heap.size,308,dx)] from K0.1.set (l1:=[]) hG.1 hW.1))|((with_reducible refine gS 8 69 rfl ?_);refine sB dx K1.1.fu ?_;intro wz hW hG;have KZ:=aa (show Bk W.heap.size [] W wz [(W.heap.size+1,308,(bF 7 0 0 false (.slice none 0 0))),(W.heap.size,308,dx)] from K1.1.set (l1:=[_]) hG.1 hW.1)));refine gK KZ.1.fu hu ?_;exact mh.no HO.1 KZ.1.bel (by decide)
 | cons x r=>
  have hlt:p<l.length:=by have h:=MP.1;rw [hr,List.length_cons] at h;have:=congrArg List.length hr;rw [List.length_drop,List.length_cons] at this;omega
  have hx:rd l p=x:=by rw [rd,Int.toNat_natCast,List.getD_eq_getElem?_getD,←List.head?_drop,hr];rfl
  have hr2:r=l.drop (p+1):=by rw [←gZ,hr];rfl
  have DR:=aa hr2;have PW:=aa (show p+1≤l.length from hlt);obtain ⟨ad,rfl,hcell⟩:=mU hl p hlt;have CX:=aa (fun (w':World) (hB:Below W.heap.size W w')=>(show w'.cell? (ad.add p)=some (.int .u8 x) from by
   obtain ⟨ad',e,h⟩:=mU (Kd.aN HC.1 hB) p hlt;injection e with e;subst e;rw [hx] at h;exact h))
  have hm:¬(m:Int)<1:=by have h:=MP.1;rw [hr,List.length_cons] at h;omega
  have hpi:(p:Int)<(l.length:Int):=by omega
  have HM:=aa hm;have ht:wrap64 (p:Int)=(p:Int):=IntWalk.wrap64_in _ (by omega);clear hcell hr2 hx MP hr;by_cases g:1<x
  ·have gb:decide (1<x)=true:=decide_eq_true g;have HO:=aa (show none=dm 7 0 (x::r) by rw [show dm 7 0 (x::r)=(jH (x::r)).map _ from rfl,qG];simp only [if_pos g];rfl);go_wp2_with (first|((with_reducible refine gS 11 18 rfl ?_);refine sB (bF 7 0 0 false (.slice none 0 0)) K0.1.cE ?_;intro wz hW hG;have K1:=aa (show Bk W.heap.size [] W wz [(W.heap.size+1,308,(bF 7 0 0 false (.slice none 0 0))),(W.heap.size,308,dx)] from K0.1.set (l1:=[]) hG.1 hW.1);have hcx:=CX.1 wz K1.1.bel)|((with_reducible refine gS 8 75 rfl ?_);refine sB dx K1.1.fu ?_;intro wz hW hG;have KZ:=aa (show Bk W.heap.size [] W wz [(W.heap.size+1,308,(bF 7 0 0 false (.slice none 0 0))),(W.heap.size,308,dx)] from K1.1.set (l1:=[_]) hG.1 hW.1)));refine gK KZ.1.fu hu ?_;exact mh.no HO.1 KZ.1.bel (by decide)
  have gb:decide (1<x)=false:=decide_eq_false g;have HO:=aa (show some ((⟨7,0,x == 1,[]⟩:Th),r)=dm 7 0 (x::r) by rw [show dm 7 0 (x::r)=(jH (x::r)).map _ from rfl,qG];simp only [if_neg g];rfl);go_wp2_with (first|((with_reducible refine gS 11 18 rfl ?_);refine sB (bF 7 0 0 false (.slice none 0 0)) K0.1.cE ?_;intro wz hW hG;have K1:=aa (show Bk W.heap.size [] W wz [(W.heap.size+1,308,(bF 7 0 0 false (.slice none 0 0))),(W.heap.size,308,dx)] from K0.1.set (l1:=[]) hG.1 hW.1);have hcx:=CX.1 wz K1.1.bel)|((with_reducible refine gS 81 80 rfl ?_);refine sC 3 (.bool (x == 1)) (bF 7 0 0 (x == 1) (.slice none 0 0)) K1.1.cE ?_;intro wz hW hG;have KA:=aa (show Bk W.heap.size [] W wz [(W.heap.size+1,308,(bF 7 0 0 (x == 1) (.slice none 0 0))),(W.heap.size,308,dx)] from K1.1.set (l1:=[]) hG.1 hW.1))|((with_reducible refine az (N:=82) rfl ?_);refine lB KA.1.cE Tryz.underlying308 ?_)|((with_reducible refine gS 8 82 rfl ?_);refine sB (bF 7 0 0 (x == 1) (.slice none 0 0)) KA.1.fu ?_;intro wz hW hG;have KZ:=aa (show Bk W.heap.size [] W wz [(W.heap.size+1,308,(bF 7 0 0 (x == 1) (.slice none 0 0))),(W.heap.size,308,(bF 7 0 0 (x == 1) (.slice none 0 0)))] from KA.1.set (l1:=[_]) hG.1 hW.1)));refine gK KZ.1.fu hu ?_;exact mh.ok (t:=⟨7,0,x == 1,[]⟩) (j:=1) HO.1 KZ.1.bel PW.1 DR.1 (Kd.cY _ _ _ _ _)
theorem AD (A:Option Addr) (c:Nat) (l:List Int) (p n:Nat) (W:World) (hl:Kd.C (Kd.int .u8) W A l.length l) (hc:l.length≤c) (hL:l.length≤1000000) (hb:aq l) (hp:p≤l.length) (hm:n≤1000000) :
 Calls Tryz.prog 195 #[.slice A l.length c, .int .i64 p, .int .i64 9, .int .i64 n] W (mh W l p (dm 9 n (l.drop p))):=by
 generalize hO:dm 9 n (l.drop p)=o;have HO:=aa (show ((fJ n (l.drop p)).map fun q=>((⟨9,0,false,q.1⟩:Th),q.2))=o from hO);clear hO;have hu:=Tryz.underlying308;have HC:=aa hl;have HY:=aa hb;have HL:=aa hL;have hwl:wrap64 ((l.length:Int) - p)=((l.length - p:Nat):Int):=by rw [IntWalk.wrap64_in _ (by omega)];omega
 have hwi:IntKind.i64.wrap ((l.length:Int) - p)=((l.length - p:Nat):Int):=by rw [aA _ (by omega)];omega
 go_in;have K0:=aa (((Bk.new (base:=W.heap.size) (ts:=[]) (Nat.le_refl W.heap.size)).cr rfl 308 dx).cr (aX W (.cells dx 308)) 308 dx);go_wp2_with ((with_reducible refine gS 11 18 rfl ?_);refine sB (bF 9 0 0 false (.slice none 0 0)) K0.1.cE ?_;intro wz hW hG;have K1:=aa (show Bk W.heap.size [] W wz [(W.heap.size+1,308,(bF 9 0 0 false (.slice none 0 0))),(W.heap.size,308,dx)] from K0.1.set (l1:=[]) hG.1 hW.1));have B:=aa (AI A c l p n wz (Kd.aN HC.1 K1.1.bel) hc hL hb hp hm);have K1b:=aa K1.1.bel;have S1:=aa K1.1.size;have LT1:=aa (ak K1.1.fu);clear K0 hb hp hl hwl hwi;rw [HO.1] at B;clear HO;go_wp2_with fail;refine B.1.mono ?_;rintro e w2 ⟨hB2,h⟩;have K2:=aa (K1.1.grow hB2);clear hB2 K1 B;cases o with
 | none=>
  obtain ⟨er,rfl,her⟩:=h;go_wp2_with ((with_reducible refine gS 8 106 rfl ?_);refine sB dx K2.1.fu ?_;intro wz hW hG;have KZ:=aa (K2.1.set (l1:=[_]) hG.1 hW.1));refine gK KZ.1.fu hu ?_;exact mh.no (aa rfl).1 KZ.1.bel her
 | some q=>
  obtain ⟨⟨tk,tn,tf,tb⟩,r⟩:=q;obtain ⟨v,j,rfl,h1,h2,h3⟩:=h;obtain ⟨Av,cv,hv⟩:=Kd.aG h3;simp only at hv h3;generalize tb.length=nv at hv;subst hv;have R3:=aa h3;have LT:=aa LT1.1;have H1:=aa h1;have H2:=aa h2;clear h1 h2 h3;go_wp2_with ((with_reducible refine gS 8 106 rfl ?_);refine sB (bF tk tn 0 tf (.slice Av nv cv)) K2.1.fu ?_;intro wz hW hG;have KZ:=aa (show Bk W.heap.size [] W wz [(W.heap.size+1,308,(bF 9 0 0 false (.slice none 0 0))),(W.heap.size,308,(bF tk tn 0 tf (.slice Av nv cv)))] from K2.1.set (l1:=[_]) hG.1 hW.1);have RZ:=aa (Kd.cI (dO.iO R3.1 hG.1 LT.1) S1.1));refine gK KZ.1.fu hu ?_;have hr:=R3.1;exact ⟨KZ.1.bel, .slice Av nv cv,j,rfl,H1.1,H2.1,RZ.1⟩
end Go.Proofs.YtpekmdpbfjdjkaaGreat.ref
namespace Go.Proofs.YtpekmdpbfjdjkaaGreat.iK
open Go
section
variable {P:Program} {ops:Array Oper} {Q:Exit→Act→World→Prop} {md:Region.Mode} {S:World→Prop} {n:Nat}
def oM (md:Region.Mode) (ops:Array Oper) (n:Nat) (E:Array Bool→Bool):List (Nat × Nat)→Array Bool→Bool
 | [],listed=>E listed
 | (i,c)::r,listed=>decide (i<n)&&(match c with
  | 0=>(Region.ready md ops listed).contains i&&Region.free md ops listed i
  | 1=>(Region.ready md ops listed).contains i&&Region.free md ops listed i&&(List.range ops.size).all (fun j=>decide (j<n)||waits md ops i j)
  | _=>decide (Region.ready md ops listed=[i]))&&oM md ops n E r (listed.setIfInBounds i true)
theorem gz (hsel:Region.noSelect ops=true) (hQ:∀c a d v w,Q (.panic c) (Act.put a (some d) v) w→Q (.panic c) a w) {E:Array Bool→Bool} {T:Act→World→Prop} {m:Nat}
 (hend:∀listed a w,E listed=true→S w→T a w→kC P md ops Q S n m listed a w) :
 ∀(hd:List (Nat × Nat)) (listed:Array Bool) (a:Act) (w:World),oM md ops n E hd listed=true→S w→ep P ops Q S T hd a w→kC P md ops Q S n (hd.length+m) listed a w
 | [],listed,a,w,hB,hS,h=>by rw [List.length_nil,fg];exact hend listed a w hB hS h
 | (i,0)::r,listed,a,w,hB,hS,h=>by
  obtain ⟨o,v,ho,hy,h⟩:=h;simp only [oM,Bool.and_eq_true,decide_eq_true_eq] at hB;obtain ⟨⟨hin,hr,hf⟩,hB⟩:=hB;rw [List.length_cons,kK];exact iT ho (ko hsel) (fun c a w=>kM hQ c a _ _ w) (fun _ _ _ _ _ _ _ _=>trivial) _ listed a w (nu ho hf) (by simpa using hr) hy trivial
   (gz hsel hQ hend r _ _ w hB hS h)
 | (i,1)::r,listed,a,w,hB,hS,h=>by
  obtain ⟨o,v,ho,hy,h⟩:=h;simp only [oM,Bool.and_eq_true,decide_eq_true_eq] at hB;obtain ⟨⟨hin,⟨hr,hf⟩,hw⟩,hB⟩:=hB;rw [List.length_cons,kK];refine iT (Sx:=S) ho (ko hsel) (fun c a w=>kM hQ c a _ _ w) (fun j oj w w' hj hno hk hSw=>?_) _ listed a w (nu ho hf) (by simpa using hr) hy hS
   (gz hsel hQ hend r _ _ w hB hS h)
  have hjs:j<ops.size:=(Array.getElem?_eq_some_iff.1 hj).1;rcases dg j n with hjn|hjn
  ·exact hk hjn hSw
  ·have:=List.all_eq_true.1 hw j (List.mem_range.2 hjs);rw [Bool.or_eq_true,decide_eq_true_eq] at this;rcases this with h'|h'
   ·omega
   ·exact (nW h' hj hno).elim
 | (i,c+2)::r,listed,a,w,hB,hS,h=>by
  obtain ⟨o,ho,h⟩:=h;simp only [oM,Bool.and_eq_true,decide_eq_true_eq] at hB;obtain ⟨⟨hin,hr⟩,hB⟩:=hB;rw [List.length_cons,kK];refine ⟨fun h0=>(by rw [hr] at h0;cases h0),fun j hj=>?_⟩;rw [hr] at hj;obtain rfl:j=i:=by simpa using hj
  exact nr (fun a' w' h'=>⟨fun _ _=>h'.1,gz hsel hQ hend r _ _ w' hB h'.1 h'.2⟩) (iU ho h)
def Dl (P:Program) (ops:Array Oper) (Q:Exit→Act→World→Prop) (S:World→Prop) (T:Act→World→Prop) (i j:Nat) (hA hB:List (Nat × Nat)) (a:Act) (w:World):Prop:=
 ep P ops Q S T ((i,2)::hA) a w∧ep P ops Q S T ((j,2)::hB) a w
def uy (md:Region.Mode) (ops:Array Oper) (n i j:Nat) (hA hB:List (Nat × Nat)) (listed:Array Bool):Bool:=
 decide (Region.ready md ops listed=[i,j])&&mM md ops n hA (listed.setIfInBounds i true)&&mM md ops n hB (listed.setIfInBounds j true)
def zb (md:Region.Mode) (ops:Array Oper) (n:Nat) (hd:List (Nat × Nat)) (i j:Nat) (hA hB:List (Nat × Nat)):Bool:=
 Region.noSelect ops&&decide (n≤ops.size)&&decide (hd.length+(hA.length+1)=n)&&decide (hB.length=hA.length)&&oM md ops n (uy md ops n i j hA hB) hd (Array.replicate ops.size false)
theorem kv {id:Nat} {a:Act} {w:World} {l:List Oper} (S:World→Prop) (n:Nat) (hd:List (Nat × Nat)) (i j:Nat) (hA hB:List (Nat × Nat)) (hm:P.follows .mixedOrders=true) (hC:zb .any l.toArray n hd i j hA hB=true) (hQ:∀c a d v w,Q (.panic c) (Act.put a (some d) v) w→Q (.panic c) a w)
 (hS:S w.drew) (h:ep P l.toArray Q S (Dl P l.toArray Q S (wpList P l.toArray Q (l.drop n)) i j hA hB) hd a w.drew):(Code.region id l.toArray true).wp P Q a w:=by
 simp only [zb,Bool.and_eq_true,decide_eq_true_eq] at hC;obtain ⟨⟨⟨⟨hsel,hn⟩,hlen⟩,hlB⟩,hC⟩:=hC;have H:=gz (md:= .any) (n:=n) (m:=(hA.length+(l.toArray.size - n))+1) hsel hQ (E:=uy .any l.toArray n i j hA hB) (fun listed a w hE hSw hT=>by
  simp only [uy,Bool.and_eq_true,decide_eq_true_eq] at hE;obtain ⟨⟨hr,h1⟩,h2⟩:=hE;obtain ⟨⟨o1,ho1,g1⟩,⟨o2,ho2,g2⟩⟩:=hT;refine ⟨fun h0=>(by rw [hr] at h0;cases h0),fun k hk=>?_⟩;rw [hr] at hk;rcases List.mem_cons.1 hk with rfl|hk
  ·exact nr (fun a' w' h'=>⟨fun _ _=>h'.1,fj hsel hQ hn rfl hA _ _ w' h1 h'.1 h'.2⟩) (iU ho1 g1)
  ·obtain rfl:k=j:=by simpa using hk
   exact nr (fun a' w' h'=>⟨fun _ _=>h'.1,by rw [←hlB];exact fj hsel hQ hn rfl hB _ _ w' h2 h'.1 h'.2⟩) (iU ho2 g2)) hd _ a w.drew hC hS h
 rw [show hd.length+((hA.length+(l.toArray.size - n))+1)=l.toArray.size by omega] at H;exact wp_region_any hm (lD _ _ _ _ H)
end
end Go.Proofs.YtpekmdpbfjdjkaaGreat.iK