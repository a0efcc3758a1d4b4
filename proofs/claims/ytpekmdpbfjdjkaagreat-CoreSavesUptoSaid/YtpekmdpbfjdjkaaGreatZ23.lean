/- Part 23 of the proof that a state's bytes are the document's. No condition. -/
import Derived.Test.YtpekmdpbfjdjkaaGreatZ22
set_option maxHeartbeats 16000000
set_option maxRecDepth 100000
set_option linter.all false
namespace Go.Proofs.YtpekmdpbfjdjkaaGreat.ref
open Go Go.RowKit ag.ax ag.aV ag.aU aD fr iK cL plain fE
def uc (base br:Nat) (W:World) (l:List Int) (o:Option (Th × List Int)) (e:Ending) (w':World):Prop:=Mv TG W w'∧Below base W w'∧
 match o with
 | none=>∃p' er,e = .returned (.agg dx)∧Rg w' base br l p' er∧er≠0
 | some (t,r)=>∃v p',e = .returned (.agg (bF t.k t.n 0 t.f v))∧Rg w' base br l p' 0∧r=l.drop p'∧Kd.R (Kd.int .u8) 5 w' W.heap.size (fun _=>True) v t.b
structure Rv (base:Nat) (W w:World) (bs:List (Nat × Nat × Array Value)) (br:Nat) (v:Value) (l:List Int) (p e:Int):Prop where
 bk:Bk base TG W w bs
 dI:w.heap[br]? = some (.cells (wJ v p e) 275 (0,0))
 row:Kd.R (Kd.int .u8) 5 w base (fun _=>True) v l
 lo:base≤br
 nt:∀x∈bs,x.2.1≠275∧x.2.1≠5
section
variable {base br:Nat} {W w w':World} {bs:List (Nat × Nat × Array Value)} {v:Value} {l:List Int} {p e:Int}
theorem uu {ts:List Nat} (h:Kd.R (Kd.int .u8) 5 w base (fun _=>True) v l) (hm:Mv ts w w') (ht:5∉ts):Kd.R (Kd.int .u8) 5 w' base (fun _=>True) v l:=eV h hm (fun q hq=>by
 rcases List.mem_cons.1 hq with rfl|hq
 ·exact ht
 ·cases hq)
theorem Rv.grow (h:Rv base W w bs br v l p e) (hb:Below w.heap.size w w'):Rv base W w' bs br v l p e:=⟨h.bk.grow hb,(hb.block br (ak h.dI)).trans h.dI,Kd.bR h.row hb,h.lo,h.nt⟩
theorem Rv.push (h:Rv base W w bs br v l p e) (t:Nat) (cs:Array Value) (h1:t≠275) (h2:t≠5):Rv base W (w.alloc (.cells cs t)) ((w.heap.size,t,cs)::bs) br v l p e:=
 have g:=h.grow (ah (Below.refl _ w) (.cells cs t))
 ⟨h.bk.push t cs,g.dI,g.row,h.lo,fun x hx=>by
  rcases List.mem_cons.1 hx with rfl|hx
  ·exact ⟨h1,h2⟩
  ·exact h.nt x hx⟩
theorem Rv.set {l1 l2:List (Nat × Nat × Array Value)} {g t:Nat} {cs cs':Array Value} (h:Rv base W w (l1++(g,t,cs)::l2) br v l p e) (hg:w.grownBy w' (some g)) (hb:w'.heap[g]? = some (.cells cs' t (0,0))):Rv base W w' (l1++(g,t,cs')::l2) br v l p e:=by
 have hn:=h.nt (g,t,cs) (by simp);have hm:=Mv.bG (ts:=[t]) hg (h.bk.at_ (g,t,cs) (by simp)) (List.mem_singleton.2 rfl);refine ⟨h.bk.set hg hb,hm.at h.dI (by simpa using fun e=>hn.1 e.symm),uu h.row hm (by simpa using fun e=>hn.2 e.symm),h.lo,fun x hx=>?_⟩;rcases List.mem_append.1 hx with hx|hx
 ·exact h.nt x (by simp [hx])
 ·rcases List.mem_cons.1 hx with rfl|hx
  ·exact hn
  ·exact h.nt x (by simp [hx])
theorem Rv.yA {p' e':Int} (h:Rv base W w bs br v l p e) (hg:w.grownBy w' (some br)) (hb:w'.heap[br]? = some (.cells (wJ v p' e') 275 (0,0))):Rv base W w' bs br v l p' e':=by
 have hm:=Mv.bG (ts:=TG) hg h.dI (List.mem_singleton.2 rfl);exact ⟨h.bk.move hm (fun _ ht=>ht) ((Below.refl base w).grown hg h.bk.hb (fun k e=>by injection e with e;exact e▸h.lo)) (fun x hx=>by simpa [TG] using (h.nt x hx).1),hb,uu h.row hm (by decide),h.lo,h.nt⟩
theorem Rv.rg {q:Nat} (h:Rv base W w bs br v l (q:Int) e) (hp:q≤l.length) (hL:l.length≤1000000) (hy:aq l):Rg w base br l q e:=⟨⟨v,h.dI,h.row⟩,h.lo,hp,hL,hy⟩
end
theorem BJ {P:Program} {fn:Func} {p:Tmp} {ty:TypeId} (h:fn.results=#[.cell p ty]) (tmps:Array Value) (w:World) (g:Nat) (t:TypeId) (cs:Array Value) (fr:Nat × Nat) (d:TypeDesc)
 (hp:tmps.getD p undef = .pointer (some ⟨g,0,none⟩)) (hg:w.heap[g]? = some (.cells cs t fr)) (hu:P.underlying ty=some d) (hd:(match d with | .struct _ | .array _ _=>true|_=>false)=true) (hi:(P.info? ty).map (·.size)=some cs.size) :
 (results fn tmps).run P w = .ok (.agg cs) w:=by
 have hp':tmps[p]?.getD undef = .pointer (some ⟨g,0,none⟩):=by simpa using hp
 simp [results,h,hp',asAddr,jm w g t ty cs fr d hg hu hd hi]
def zO (W w':World) (l:List Int) (p:Nat) (o:Option (Th × List Int)) (a b:Int) (f:Bool) (v:Value) (j:Nat) (er:Int):Prop:=
 match o with
 | none=>er≠0∧bF a b 0 f v=dx∧j=0
 | some (t,r)=>er=0∧a=t.k∧b=t.n∧f=t.f∧p+j≤l.length∧r=l.drop (p+j)∧Kd.R (Kd.int .u8) 5 w' W.heap.size (fun _=>True) v t.b
theorem mh.flat {W w':World} {l:List Int} {p:Nat} {o:Option (Th × List Int)} {e:Ending} (h:mh W l p o e w'):Below W.heap.size W w'∧∃a b f Av nv cv j er,e = .returned (.tuple #[.agg (bF a b 0 f (.slice Av nv cv)), .int .i64 (j:Nat), .int .i64 er])∧zO W w' l p o a b f (.slice Av nv cv) j er:=by
 obtain ⟨hb,h⟩:=h;refine ⟨hb,?_⟩;cases o with
 | none=>obtain ⟨er,rfl,her⟩:=h;exact ⟨0,0,false,none,0,0,0,er,rfl,her,rfl,rfl⟩
 | some q=>
  obtain ⟨t,r⟩:=q;obtain ⟨v,j,rfl,h1,h2,h3⟩:=h;obtain ⟨Av,cv,rfl⟩:=Kd.aG h3;exact ⟨_,_,_,_,_,_,_,_,rfl,rfl,rfl,rfl,rfl,h1,h2,h3⟩
theorem zO.mv {ts:List Nat} {W w w':World} {l:List Int} {p:Nat} {o:Option (Th × List Int)} {a b:Int} {f:Bool} {v:Value} {j:Nat} {er:Int} (h:zO W w l p o a b f v j er) (hm:Mv ts w w') (ht:5∉ts):zO W w' l p o a b f v j er:=by
 cases o with
 | none=>exact h
 | some q=>exact ⟨h.1,h.2.1,h.2.2.1,h.2.2.2.1,h.2.2.2.2.1,h.2.2.2.2.2.1,uu h.2.2.2.2.2.2 hm ht⟩
theorem zO.le {W w:World} {l:List Int} {p:Nat} {o:Option (Th × List Int)} {a b:Int} {f:Bool} {v:Value} {j:Nat} {er:Int} (h:zO W w l p o a b f v j er) (hp:p≤l.length):p+j≤l.length:=by
 cases o with
 | none=>rw [h.2.2];exact hp
 | some q=>exact h.2.2.2.2.1
theorem uc.fin {base br:Nat} {W w1 w:World} {bs:List (Nat × Nat × Array Value)} {v0 v:Value} {l:List Int} {p j:Nat} {er a b:Int} {f:Bool} {o:Option (Th × List Int)} (K:Rv base W w bs br v0 l ((p+j:Nat):Int) er) (hF:zO w1 w l p o a b f v j er) (hp:p≤l.length) (hL:l.length≤1000000) (hy:aq l) (hs:W.heap.size≤w1.heap.size) :
 uc base br W l o (.returned (.agg (bF a b 0 f v))) w:=by
 have hle:=hF.le hp;refine ⟨K.bk.mv,K.bk.bel,?_⟩;cases o with
 | none=>obtain ⟨h1,h2,rfl⟩:=hF;exact ⟨p+0,er,by rw [h2],K.rg hle hL hy,h1⟩
 | some q=>
  obtain ⟨rfl,rfl,rfl,rfl,h1,h2,h3⟩:=hF;exact ⟨v,p+j,rfl,K.rg hle hL hy,h2,Kd.cI h3 hs⟩
theorem y7 {p j L:Nat} (h:p+j≤L) (hL:L≤1000000):wrap64 ((p:Int)+j)=((p+j:Nat):Int)∧IntKind.i64.wrap ((p:Int)+j)=((p+j:Nat):Int):=by
 rw [show ((p:Int)+j)=((p+j:Nat):Int) by omega];exact ⟨(wi (by omega) (by omega)).2.1,(wi (by omega) (by omega)).1⟩
theorem nw (k n:Int) (base br p:Nat) (l:List Int) (o:Option (Th × List Int)) (W:World) (h:Rg W base br l p 0) (hB:base≤W.heap.size)
 (HT:∀A c w,Kd.C (Kd.int .u8) w A l.length l→l.length≤c→Calls Tryz.prog 195 #[.slice A l.length c, .int .i64 p, .int .i64 k, .int .i64 n] w (mh w l p o)) :
 Calls Tryz.prog 190 #[.pointer (some ⟨br,0,none⟩), .int .i64 k, .int .i64 n] W (uc base br W l o):=by
 have hu:=Tryz.underlying308;have H:=aa h;have T:=aa HT;have HB:=aa hB;obtain ⟨v,hb,hr⟩:=h.dI;obtain ⟨A,c,rfl⟩:=Kd.aG hr;have HR:=aa hr;have HC:=aa (Kd.bI hr);have HBL:=aa hb;have LTb:=aa (ak hb);clear HT hr;go_in;have hcells:∀w',Below W.heap.size W w'→(w'.cell? ⟨br,0,none⟩=some (.bool true)∧w'.cell? ⟨br,1,none⟩=some (.slice A l.length c)∧w'.cell? ⟨br,2,none⟩=some (.int .i64 p)∧w'.cell? ⟨br,3,none⟩=some (.int .i64 0)):=fun w' hb'=>by
  have hh:=(hb'.block br LTb.1).trans HBL.1;exact ⟨cell_of hh 0,cell_of hh 1,cell_of hh 2,cell_of hh 3⟩
 have CE:=aa hcells;obtain ⟨c0,c1,c2,c3⟩:=hcells (W.alloc (.cells dx 308)) (ah (Below.refl _ _) _);simp only [dx] at c0 c1 c2 c3;have K0:=aa ((show Rv base W W [] br (.slice A l.length c) l p 0 from ⟨Bk.new hB,hb,HR.1,H.1.lo,fun _ h=>by cases h⟩).push 308 dx (by decide) (by decide));simp only [dx] at K0;clear hcells hb h hB;go_wp2_with fail;generalize World.alloc W _=w0 at c0 c1 c2 c3 K0 ⊢;refine kv (fun w'=>w'.cell? ⟨br,1,none⟩=some (.slice A l.length c)∧w'.cell? ⟨br,2,none⟩=some (.int .i64 p)) 16 [(0,0),(1,0),(2,0),(3,1),(4,0),(5,0),(6,0),(7,1),(8,0),(9,0)] 10 15 [(11,0),(12,0),(13,0),(14,0),(15,2)] [(10,2),(11,0),(12,0),(13,0),(14,0)] (by kernel_rfl) (by kernel_rfl) (fun _ _ _ _ _ h=>h) ⟨c1,c2⟩ ?_;have K1:=aa (K0.1.grow (w':=w0.drew) (dy (Below.refl _ _)));clear K0 c0 c1 c2 c3;generalize w0.drew=w1 at K1 ⊢;iterate 3 (refine eF ?_;simp only [cS,Act.put])
 iterate 1 (refine aQ (v:=?_) rfl rfl ?_ ?_;rotate_left 1;(focus (intro w hSw;go_simp;try (with_reducible rfl)));simp only [cS,Act.put])
 iterate 3 (refine eF ?_;simp only [cS,Act.put])
 iterate 1 (refine aQ (v:=?_) rfl rfl ?_ ?_;rotate_left 1;(focus (intro w hSw;go_simp;try (with_reducible rfl)));simp only [cS,Act.put])
 iterate 2 (refine eF ?_;simp only [cS,Act.put])
 have HPJ:=aa H.1.hp;refine ⟨?_,?_⟩
 ·refine aT rfl ?_;go_wp2_with fail;refine (T.1 A c w1 (Kd.bI K1.1.row).2.2 HC.1.2.1).mono ?_;rintro e w2 hT2;obtain ⟨hB2,a,b,f,Av,nv,cv,j,er,rfl,hF⟩:=hT2.flat;have K2:=aa (K1.1.grow hB2);have F2:=aa hF;have S1:=aa K1.1.bk.size;obtain ⟨hw1,hw2⟩:=y7 (hF.le HPJ.1) H.1.hL;clear hB2 hF hT2 K1;generalize hP:p+j=P at hw1 hw2;have HPP:=aa hP;clear hP;go_wp2_with fail;refine bB.mk ⟨cell_of K2.1.dI 1,cell_of K2.1.dI 2⟩ (fun hSw=>?_);clear hSw;iterate 4 (refine eF ?_;simp only [cS,Act.put])
  refine aT rfl ?_;go_wp2_with fail;have K3:=aa (K2.1.push 308 dx (by decide) (by decide));simp only [dx] at K3;refine bB.mk ⟨cell_of K3.1.dI 1,cell_of K3.1.dI 2⟩ (fun hSw=>?_);refine bC ?_;simp only [aC,List.drop_zero];have M3:=aa (Mv.cH (ts:=[308,275]) (ah (Below.refl w2.heap.size w2) (.cells #[.int .i64 0, .int .u64 0, .int .i64 0, .bool false, .slice none 0 0] 308)));generalize World.alloc w2 _=w3 at K3 M3 ⊢;generalize w2.heap.size=tb at K3 ⊢;clear hSw K2;go_wp2_with (first|((with_reducible refine gS 7 35 rfl ?_);refine sB (bF a b 0 f (.slice Av nv cv)) K3.1.bk.cE ?_;intro wz hW hG;have K4:=aa (show Rv base W wz [(tb,308,(bF a b 0 f (.slice Av nv cv))),(W.heap.size,308,#[.int .i64 0, .int .u64 0, .int .i64 0, .bool false, .slice none 0 0])] br (.slice A l.length c) l p 0 from K3.1.set (l1:=[]) hG.1 hW.1);have c2:wz.cell? ⟨br,2,none⟩=some (.int .i64 p):=cell_of K4.1.dI 2;have M4:=aa (M3.1.trans (Mv.bG hG.1 K3.1.bk.cE (by simp))))|((with_reducible refine gS 46 44 rfl ?_);refine sC 2 (.int .i64 (P:Int)) (wJ (.slice A l.length c) (P:Int) 0) K4.1.dI ?_;intro wz hW hG;have K5:=aa (show Rv base W wz [(tb,308,(bF a b 0 f (.slice Av nv cv))),(W.heap.size,308,#[.int .i64 0, .int .u64 0, .int .i64 0, .bool false, .slice none 0 0])] br (.slice A l.length c) l (P:Int) 0 from K4.1.yA hG.1 hW.1);have M5:=aa (M4.1.trans (Mv.bG hG.1 K4.1.dI (by simp))))|((with_reducible refine gS 50 48 rfl ?_);refine sC 3 (.int .i64 er) (wJ (.slice A l.length c) (P:Int) er) K5.1.dI ?_;intro wz hW hG;have K6:=aa (show Rv base W wz [(tb,308,(bF a b 0 f (.slice Av nv cv))),(W.heap.size,308,#[.int .i64 0, .int .u64 0, .int .i64 0, .bool false, .slice none 0 0])] br (.slice A l.length c) l (P:Int) er from K5.1.yA hG.1 hW.1);have M6:=aa (M5.1.trans (Mv.bG hG.1 K5.1.dI (by simp))))|((with_reducible refine az (N:=51) rfl ?_);refine lB K6.1.bk.cE Tryz.underlying308 ?_)|((with_reducible refine gS 6 51 rfl ?_);refine sB (bF a b 0 f (.slice Av nv cv)) K6.1.bk.fu ?_;intro wz hW hG;have K7:=aa (show Rv base W wz [(tb,308,(bF a b 0 f (.slice Av nv cv))),(W.heap.size,308,(bF a b 0 f (.slice Av nv cv)))] br (.slice A l.length c) l (P:Int) er from K6.1.set (l1:=[_]) hG.1 hW.1);have M7:=aa (M6.1.trans (Mv.bG hG.1 K6.1.bk.fu (by simp)))));refine zM K7.1.bk.fu hu ?_;exact uc.fin (by rw [HPP.1];exact K7.1) (F2.1.mv M7.1 (by decide)) HPJ.1 H.1.hL H.1.by_ S1.1
 ·refine aT rfl ?_;go_wp2_with fail;have K2:=aa (K1.1.push 308 dx (by decide) (by decide));simp only [dx] at K2;refine bB.mk ⟨cell_of K2.1.dI 1,cell_of K2.1.dI 2⟩ (fun hSw=>?_);clear hSw;generalize World.alloc w1 _=w1a at K2 ⊢;generalize w1.heap.size=tb at K2 ⊢;refine aT rfl ?_;go_wp2_with fail;refine (T.1 A c w1a (Kd.bI K2.1.row).2.2 HC.1.2.1).mono ?_;rintro e w2 hT2;obtain ⟨hB2,a,b,f,Av,nv,cv,j,er,rfl,hF⟩:=hT2.flat;have K3:=aa (K2.1.grow hB2);have F2:=aa hF;have S1:=aa K2.1.bk.size;have M3:=aa (Mv.refl [308,275] w2);obtain ⟨hw1,hw2⟩:=y7 (hF.le HPJ.1) H.1.hL;clear hB2 hF hT2 K1 K2;generalize hP:p+j=P at hw1 hw2;have HPP:=aa hP;clear hP;go_wp2_with fail;refine bB.mk ⟨cell_of K3.1.dI 1,cell_of K3.1.dI 2⟩ (fun hSw=>?_);clear hSw;iterate 4 (refine eF ?_;simp only [cS,Act.put])
  refine bC ?_;simp only [aC,List.drop_zero];go_wp2_with (first|((with_reducible refine gS 7 35 rfl ?_);refine sB (bF a b 0 f (.slice Av nv cv)) K3.1.bk.cE ?_;intro wz hW hG;have K4:=aa (show Rv base W wz [(tb,308,(bF a b 0 f (.slice Av nv cv))),(W.heap.size,308,#[.int .i64 0, .int .u64 0, .int .i64 0, .bool false, .slice none 0 0])] br (.slice A l.length c) l p 0 from K3.1.set (l1:=[]) hG.1 hW.1);have c2:wz.cell? ⟨br,2,none⟩=some (.int .i64 p):=cell_of K4.1.dI 2;have M4:=aa (M3.1.trans (Mv.bG hG.1 K3.1.bk.cE (by simp))))|((with_reducible refine gS 46 44 rfl ?_);refine sC 2 (.int .i64 (P:Int)) (wJ (.slice A l.length c) (P:Int) 0) K4.1.dI ?_;intro wz hW hG;have K5:=aa (show Rv base W wz [(tb,308,(bF a b 0 f (.slice Av nv cv))),(W.heap.size,308,#[.int .i64 0, .int .u64 0, .int .i64 0, .bool false, .slice none 0 0])] br (.slice A l.length c) l (P:Int) 0 from K4.1.yA hG.1 hW.1);have M5:=aa (M4.1.trans (Mv.bG hG.1 K4.1.dI (by simp))))|((with_reducible refine gS 50 48 rfl ?_);refine sC 3 (.int .i64 er) (wJ (.slice A l.length c) (P:Int) er) K5.1.dI ?_;intro wz hW hG;have K6:=aa (show Rv base W wz [(tb,308,(bF a b 0 f (.slice Av nv cv))),(W.heap.size,308,#[.int .i64 0, .int .u64 0, .int .i64 0, .bool false, .slice none 0 0])] br (.slice A l.length c) l (P:Int) er from K5.1.yA hG.1 hW.1);have M6:=aa (M5.1.trans (Mv.bG hG.1 K5.1.dI (by simp))))|((with_reducible refine az (N:=51) rfl ?_);refine lB K6.1.bk.cE Tryz.underlying308 ?_)|((with_reducible refine gS 6 51 rfl ?_);refine sB (bF a b 0 f (.slice Av nv cv)) K6.1.bk.fu ?_;intro wz hW hG;have K7:=aa (show Rv base W wz [(tb,308,(bF a b 0 f (.slice Av nv cv))),(W.heap.size,308,(bF a b 0 f (.slice Av nv cv)))] br (.slice A l.length c) l (P:Int) er from K6.1.set (l1:=[_]) hG.1 hW.1);have M7:=aa (M6.1.trans (Mv.bG hG.1 K6.1.bk.fu (by simp)))));refine zM K7.1.bk.fu hu ?_;exact uc.fin (by rw [HPP.1];exact K7.1) (F2.1.mv M7.1 (by decide)) HPJ.1 H.1.hL H.1.by_ S1.1
end Go.Proofs.YtpekmdpbfjdjkaaGreat.ref
namespace Go.Proofs.YtpekmdpbfjdjkaaGreat.ref
open Go Go.RowKit ag.ax ag.aV ag.aU aD fr iK cL plain fE dO
def tj (x:gX):Bool:=if x.f0=0 then (if x.f1=0 then (if x.f3=0 then (if x.f4=0 then (if (x.f2.length:Int)=0 then ((x.f5.length:Int) == 0) else false) else false) else false) else false) else false
theorem Cw (x:gX) (X2 X5:Option Addr) (d2 d5:Nat) (W:World) :
 Calls Tryz.prog 108 #[.agg (ew x X2 X5 d2 d5)] W fun e w'=>e = .returned (.bool (tj x))∧Below W.heap.size W w':=by
 have hu68:=Tryz.underlying68;generalize hO:tj x=o;have HO:=aa hO;clear hO;unfold ew;by_cases g0:x.f0=0
 case neg=>
  have g0b:(x.f0 == 0)=false:=bi.2 g0;have HO2:=aa (show false=o by rw [←HO.1,tj,if_neg g0]);clear HO g0;go_in;go_wp2_with fail;go_ret;exact ⟨by rw [←HO2.1];rfl,ah (Below.refl _ _) _⟩
 have g0b:(x.f0 == 0)=true:=gw.2 g0;by_cases g1:x.f1=0
 case neg=>
  have g1b:(x.f1 == 0)=false:=bi.2 g1;have HO2:=aa (show false=o by rw [←HO.1,tj,if_pos g0,if_neg g1]);clear HO g0 g1;go_in;go_wp2_with fail;go_ret;exact ⟨by rw [←HO2.1];rfl,ah (Below.refl _ _) _⟩
 have g1b:(x.f1 == 0)=true:=gw.2 g1;by_cases g3:x.f3=0
 case neg=>
  have g3b:(x.f3 == 0)=false:=bi.2 g3;have HO2:=aa (show false=o by rw [←HO.1,tj,if_pos g0,if_pos g1,if_neg g3]);clear HO g0 g1 g3;go_in;go_wp2_with fail;go_ret;exact ⟨by rw [←HO2.1];rfl,ah (Below.refl _ _) _⟩
 have g3b:(x.f3 == 0)=true:=gw.2 g3;by_cases g4:x.f4=0
 case neg=>
  have g4b:(x.f4 == 0)=false:=bi.2 g4;have HO2:=aa (show false=o by rw [←HO.1,tj,if_pos g0,if_pos g1,if_pos g3,if_neg g4]);clear HO g0 g1 g3 g4;go_in;go_wp2_with fail;go_ret;exact ⟨by rw [←HO2.1];rfl,ah (Below.refl _ _) _⟩
 have g4b:(x.f4 == 0)=true:=gw.2 g4;by_cases g2:(x.f2.length:Int)=0
 case neg=>
  have g2b:((x.f2.length:Int) == 0)=false:=bi.2 g2;have HO2:=aa (show false=o by rw [←HO.1,tj,if_pos g0,if_pos g1,if_pos g3,if_pos g4,if_neg g2]);clear HO g0 g1 g3 g4 g2;go_in;go_wp2_with fail;go_ret;exact ⟨by rw [←HO2.1];rfl,ah (Below.refl _ _) _⟩
 have g2b:((x.f2.length:Int) == 0)=true:=gw.2 g2;by_cases g5:(x.f5.length:Int)=0
 case neg=>
  have g5b:((x.f5.length:Int) == 0)=false:=bi.2 g5;have HO2:=aa (show false=o by rw [←HO.1,tj,if_pos g0,if_pos g1,if_pos g3,if_pos g4,if_pos g2,g5b]);clear HO g0 g1 g3 g4 g2 g5;go_in;go_wp2_with fail;go_ret;exact ⟨by rw [←HO2.1];rfl,ah (Below.refl _ _) _⟩
 have g5b:((x.f5.length:Int) == 0)=true:=gw.2 g5;have HO2:=aa (show true=o by rw [←HO.1,tj,if_pos g0,if_pos g1,if_pos g3,if_pos g4,if_pos g2,g5b]);clear HO g0 g1 g3 g4 g2 g5;go_in;go_wp2_with fail;go_ret;exact ⟨by rw [←HO2.1];rfl,ah (Below.refl _ _) _⟩
theorem Dk (A:Option Addr) (c:Nat) (l:List eW) (key:Int) (W:World) (hl:Kd.C jo W A l.length l) (hL:l.length≤100000000) :
 Calls Tryz.prog 149 #[.agg #[.int .i64 8192, .slice A l.length c], .int .u64 key] W fun e w'=>∃a b,e = .returned (.agg #[.int .u64 a, .int .u64 b, .int .u8 (kX l key)])∧Below W.heap.size W w':=by
 have hu76:=Tryz.underlying76;have huT:=Tryz.underlying207;have HC:=aa hl;generalize hO:kX l key=o;have HO:=aa (show kX (l.drop 0) key=o from hO);have X0:=(ah (Below.refl _ (W.alloc (.cells #[.int .i64 8192, .slice A l.length c] 207))) (.cells #[.int .u64 0, .int .u64 0, .int .u8 0] 76)).block W.heap.size (ak (aJ W (.cells #[.int .i64 8192, .slice A l.length c] 207))) |>.trans (aJ W (.cells #[.int .i64 8192, .slice A l.length c] 207));have Y0:=aJ (W.alloc (.cells #[.int .i64 8192, .slice A l.length c] 207)) (.cells #[.int .u64 0, .int .u64 0, .int .u8 0] 76);rw [show (W.alloc (.cells #[.int .i64 8192, .slice A l.length c] 207)).heap.size=W.heap.size+1 by simp] at Y0;have I0:=aa (And.intro (ah (ah (Below.refl _ W) (.cells #[.int .i64 8192, .slice A l.length c] 207)) (.cells #[.int .u64 0, .int .u64 0, .int .u8 0] 76)) (And.intro X0 Y0));clear hl hO X0 Y0;go_in;go_wp2_with fail;generalize World.alloc (World.alloc W _) _=w0 at I0 ⊢;go_loopw [5] (fun v5 wr=>∃i:Nat,i≤l.length∧v5 = .int .i64 i∧af (kX (l.drop i) key=o)∧af (wr=w0)) (fun v _=>l.length - (intOf v).toNat)
 case atStart=>exact ⟨0,aI _,rfl,HO,⟨rfl⟩⟩
 case round=>
  obtain ⟨i,hi,rfl,J0,⟨rfl⟩⟩:=hrel;clear HO;have x1:wr.cell? ⟨W.heap.size,1,none⟩=some (.slice A l.length c):=cell_of I0.1.2.1 1;by_cases hlt:i<l.length
  case neg=>
   have HO2:=aa (show 255=o by have J:=J0.1;rw [List.drop_eq_nil_of_le (by omega)] at J;exact J);go_wp2_with ((with_reducible refine gS 4 36 rfl ?_);refine sB #[.int .u64 0, .int .u64 0, .int .u8 255] I0.1.2.2 ?_;intro wz ZW hG;have ZB:=aa (bt I0.1.1 hG.1 (by omega)));refine zM ZW.1 hu76 ?_;exact ⟨0,0,by rw [←HO2.1],ZB.1⟩
  obtain ⟨ad,e1,m0,m1,m2⟩:=gd (Kd.aN HC.1 I0.1.1) (i:Int) (by omega) (by omega);subst e1;simp only [Int.toNat_natCast] at m0 m1 m2;have hrd:bg l (i:Int)=l[i]:=by simp [bg,List.getD_eq_getElem?_getD,hlt]
  have J:=J0.1;rw [ap hlt,←hrd] at J;unfold kX at J;generalize bg l (i:Int)=s at m0 m1 m2 J;have HJ:=aa J;clear J J0 hrd;by_cases g1:s.f0≤key
  ·have g1b:decide (s.f0≤key)=true:=decide_eq_true g1;by_cases g2:key≤s.f1
   ·have g2b:decide (key≤s.f1)=true:=decide_eq_true g2;have HO2:=aa (show s.f2=o by have J:=HJ.1;rw [js (by simp [g1,g2])] at J;exact J);clear HJ g1 g2;go_wp2_with ((with_reducible refine gS 4 35 rfl ?_);refine sB #[.int .u64 s.f0, .int .u64 s.f1, .int .u8 s.f2] I0.1.2.2 ?_;intro wz ZW hG;have ZB:=aa (bt I0.1.1 hG.1 (by omega)));refine zM ZW.1 hu76 ?_;exact ⟨s.f0,s.f1,by rw [←HO2.1],ZB.1⟩
   ·have g2b:decide (key≤s.f1)=false:=decide_eq_false g2;have HO2:=aa (show kX (l.drop (i+1)) key=o by have J:=HJ.1;rw [gy (by simp [g2])] at J;exact J);clear HJ g1 g2;go_wp2_with fail;go_roundw
    case rel=>exact ⟨i+1,by omega,by go_num,HO2,⟨by trivial⟩⟩
    case measure=>
     show l.length - ((i:Int)+1).toNat<l.length - (i:Int).toNat;omega
  ·have g1b:decide (s.f0≤key)=false:=decide_eq_false g1;have HO2:=aa (show kX (l.drop (i+1)) key=o by have J:=HJ.1;rw [gy (by simp [g1])] at J;exact J);clear HJ g1;go_wp2_with fail;go_roundw
   case rel=>exact ⟨i+1,by omega,by go_num,HO2,⟨by trivial⟩⟩
   case measure=>
    show l.length - ((i:Int)+1).toNat<l.length - (i:Int).toNat;omega
theorem Cs (A:Option Addr) (c:Nat) (l:List eW) (key:Int) (W:World) (hl:Kd.C jo W A l.length l) (hL:l.length≤100000000) :
 Calls Tryz.prog 121 #[.agg #[.int .i64 8192, .slice A l.length c], .int .u64 key] W fun e w'=>e = .returned (.int .u8 (kX l key))∧Below W.heap.size W w':=by
 have hu76:=Tryz.underlying76;have huT:=Tryz.underlying207;have B1:=aa (ah (Below.refl _ W) (.cells #[.int .i64 8192, .slice A l.length c] 207));have SK:=aa (Dk A c l key (W.alloc (.cells #[.int .i64 8192, .slice A l.length c] 207)) (Kd.eU hl _) hL);clear hl;go_in;go_wp2_with fail;generalize World.alloc W _=w1 at B1 SK ⊢;refine SK.1.mono ?_;rintro e w2 ⟨a,b,rfl,hB⟩;have B2:=aa (B1.1.trans (hB.mono B1.1.size));clear hB SK B1;go_wp2_with ((with_reducible refine gS 5 8 rfl ?_);refine sB #[.int .u64 a, .int .u64 b, .int .u8 (kX l key)] (aJ w2 _) ?_;intro wz hW hG;have ZB:=aa (bt (B2.1.trans ((ah (Below.refl _ w2) _).mono B2.1.size)) hG.1 B2.1.size);have z2:wz.cell? ⟨w2.heap.size,2,none⟩=some (.int .u8 (kX l key)):=cell_of hW.1 2);go_ret;exact ⟨rfl,ZB.1⟩
end Go.Proofs.YtpekmdpbfjdjkaaGreat.ref
namespace Go.Proofs.YtpekmdpbfjdjkaaGreat.ref
open Go Go.RowKit ag.ax ag.aV ag.aU aD fr iK cL plain fE
theorem yo (self hosts:Nat) (hs:self≤255) (W:World) (h:hosts<1∨16<hosts∨hosts≤self):Calls Tryz.prog 107 #[.int .i64 self, .int .i64 hosts, .int .i64 16, .int .i64 16] W fun e w'=>(∃v,e = .returned (.tuple #[v, .int .i64 2]))∧Below W.heap.size W w':=by
 by_cases g1:hosts<1
 ·have b1:decide ((hosts:Int)<1)=true:=decide_eq_true (by omega);go_in;go_wp2_with fail;go_ret2;exact ⟨⟨_,rfl⟩,ah (Below.refl _ _) _⟩
 have b1:decide ((hosts:Int)<1)=false:=decide_eq_false (by omega);by_cases g2:16<hosts
 ·have b2:decide ((16:Int)<(hosts:Int))=true:=decide_eq_true (by omega);clear g1 h;go_in;go_wp2_with fail;go_ret2;exact ⟨⟨_,rfl⟩,ah (Below.refl _ _) _⟩
 have b2:decide ((16:Int)<(hosts:Int))=false:=decide_eq_false (by omega);have b3:decide ((self:Int)<0)=false:=decide_eq_false (by omega);have b4:decide ((hosts:Int)≤(self:Int))=true:=decide_eq_true (by omega);have g4:hosts≤self:=by omega
 clear h;go_in;go_wp2_with fail;go_ret2;exact ⟨⟨_,rfl⟩,ah (Below.refl _ _) _⟩
theorem uW (self hosts:Nat) (W:World) (h1:1≤hosts) (h2:hosts≤16) (h3:self<hosts):Calls Tryz.prog 107 #[.int .i64 self, .int .i64 hosts, .int .i64 16, .int .i64 16] W fun e w'=>∃b v,e = .returned (.tuple #[.pointer (some ⟨b,0,none⟩), .int .i64 0])∧w'.heap[b]? = some (.cells #[.bool true, .int .i64 self, .int .i64 hosts, .int .i64 16, .int .i64 16,v] 192 (0,0))∧W.heap.size≤b∧Kd.R ld 68 w' W.heap.size (fun k=>k≠b) v (List.replicate hosts BG)∧Below W.heap.size W w':=by
 have b1:decide ((hosts:Int)<1)=false:=decide_eq_false (by omega);have b2:decide ((16:Int)<(hosts:Int))=false:=decide_eq_false (by omega);have b3:decide ((self:Int)<0)=false:=decide_eq_false (by omega);have b4:decide ((hosts:Int)≤(self:Int))=false:=decide_eq_false (by omega);have g1:¬hosts<1:=by omega
 have g2:¬16<hosts:=by omega
 have g4:¬hosts≤self:=by omega
 have H2:=aa h2;clear h1 h2 h3;go_in;go_wp2_with ((with_reducible refine az (N:=49) rfl ?_);refine Kd.vU ld (w0:=W) W.heap.size 68 rfl rfl 26 (.tmp 48) (.tmp 48) rfl (hosts:Int) rfl rfl Tryz.underlying26 (.agg #[.int .u64 0, .int .u64 0, .slice none 0 0, .int .u64 0, .int .u64 0, .slice none 0 0]) 80 rh rfl (by decide) (by decide) BG (ok:=fun _=>True) (okp:=fun _=>True) (oU _ _ _ BG (Kd.cY _ _ _ _ _) (Kd.cY _ _ _ _ _)) (fun _ _=>trivial) trivial (by omega) (by have:=H2.1;simp only [Int.toNat_natCast];omega) (Below.refl _ _) (Nat.le_refl _) ?_;intro v1 w1 p1 p2 p3 p4;obtain ⟨A1,c1,hv⟩:=Kd.aG p1;subst hv;have R1:=aa p1;have B1:=aa p2;clear p1 p2 p3 p4);have RF:=aa (Kd.cM (Kd.bZ (Kd.pW R1.1 w1.heap.size (Nat.le_refl _)) (fun k hk=>hk.2)) (.cells #[.bool true, .int .i64 self, .int .i64 hosts, .int .i64 16, .int .i64 16, .slice A1 (List.replicate ((hosts:Int)).toNat BG).length c1] 192));simp only [Int.toNat_natCast,ey] at RF;go_ret2;exact ⟨w1.heap.size, .slice A1 hosts c1,rfl,aJ w1 _,B1.1.size,RF.1,B1.1.trans (ah (Below.refl _ _) _ |> fun h=>h.mono B1.1.size)⟩
end Go.Proofs.YtpekmdpbfjdjkaaGreat.ref
namespace Go.Proofs.YtpekmdpbfjdjkaaGreat.ref
open Go Go.RowKit ag.ax ag.aV ag.aU aD fr iK cL plain fE dO
theorem xS (l:List Int) (hL:l.length≤100000000):∀(d i k:Nat) (out:List Int),i+d=l.length→d+1≤k→out.length≤i→cj.l0 k l out (i:Int)=some (out++l.drop i):=by
 intro d;induction d with
 | zero=>
  intro i k out hi hk ho;obtain ⟨k,rfl⟩:∃n,k=n+1:=⟨k - 1,by omega⟩;rw [cj.l0,if_neg (by omega),List.drop_eq_nil_of_le (by omega),bM]
 | succ d ih=>
  intro i k out hi hk ho;obtain ⟨k,rfl⟩:∃n,k=n+1:=⟨k - 1,by omega⟩;have hlt:i<l.length:=by omega
  have hrd:rd l (i:Int)=l[i]:=by simp [rd,List.getD_eq_getElem?_getD,hlt]
  have hw:wrap64 ((i:Int)+1)=((i+1:Nat):Int):=IntWalk.wrap64_in _ (by omega);rw [cj.l0,if_pos (show (i:Int)<(l.length:Int) by omega),if_pos (show (0:Int)≤(i:Int) by omega),if_pos (show out.length<140737488355328 by omega),hw,hrd,ih (i+1) k _ (by omega) (by omega) (by simp;omega),ap hlt,List.append_assoc];rfl
theorem qE (l:List Int) (hL:l.length≤100000000) (k:Nat) (hk:l.length+1≤k):cj.f k l=some l:=by
 have h:=xS l hL l.length 0 k [] (by omega) hk (by simp);rw [List.drop_zero,List.nil_append] at h;exact h
theorem tP (l:List Int) (hL:l.length≤100000000):∀(d i k:Nat) (out:List Int),i+d=l.length→d+1≤k→out.length≤i→bT.l0 k l out (i:Int)=some (out++l.drop i):=by
 intro d;induction d with
 | zero=>
  intro i k out hi hk ho;obtain ⟨k,rfl⟩:∃n,k=n+1:=⟨k - 1,by omega⟩;rw [bT.l0,if_neg (by omega),List.drop_eq_nil_of_le (by omega),bM]
 | succ d ih=>
  intro i k out hi hk ho;obtain ⟨k,rfl⟩:∃n,k=n+1:=⟨k - 1,by omega⟩;have hlt:i<l.length:=by omega
  have hrd:rd l (i:Int)=l[i]:=by simp [rd,List.getD_eq_getElem?_getD,hlt]
  have hw:wrap64 ((i:Int)+1)=((i+1:Nat):Int):=IntWalk.wrap64_in _ (by omega);rw [bT.l0,if_pos (show (i:Int)<(l.length:Int) by omega),if_pos (show (0:Int)≤(i:Int) by omega),if_pos (show out.length<140737488355328 by omega),hw,hrd,ih (i+1) k _ (by omega) (by omega) (by simp;omega),ap hlt,List.append_assoc];rfl
theorem qV (l:List Int) (hL:l.length≤100000000) (k:Nat) (hk:l.length+1≤k):bT.f k l=some l:=by
 have h:=tP l hL l.length 0 k [] (by omega) hk (by simp);rw [List.drop_zero,List.nil_append] at h;exact h
theorem j9 {α:Type} {d:Kd α} {e base:Nat} {ok:Nat→Prop} {w w':World} {v:Value} {xs:List α} {b t:Nat} {cs:Array Value} (h:d.R e w base ok v xs) (hG:w.grownBy w' (some b)) (hb:w.heap[b]? = some (.cells cs t (0,0))) (ht:t∉e::d.E):d.R e w' base ok v xs:=
 eV h (Mv.bG (ts:=[t]) hG hb (by simp)) (fun q hq=>by
  intro h2;rw [List.mem_singleton] at h2;subst h2;exact ht hq)
theorem px {α β:Type} {d:Kd α} {d':Kd β} {e e' base base':Nat} {ok ok':Nat→Prop} {w w':World} {v v':Value} {xs:List α} {ys:List β} (h:d.R e w base ok v xs) (h':d'.R e' w base' ok' v' ys) (hG:w.grownBy w' v'.ownBlock) (ht:e'∉e::d.E):d.R e w' base ok v xs:=
 eV h (Mv.fB (ts:=[e']) hG h' (by simp)) (fun q hq=>by
  intro h2;rw [List.mem_singleton] at h2;subst h2;exact ht hq)
theorem iP {β:Type} {d':Kd β} {e' base' b t:Nat} {ok':Nat→Prop} {w w':World} {v':Value} {ys:List β} {cs:Array Value} (h:w.heap[b]? = some (.cells cs t (0,0))) (h':d'.R e' w base' ok' v' ys) (hG:w.grownBy w' v'.ownBlock) (ht:t≠e'):w'.heap[b]? = some (.cells cs t (0,0)):=
 (Mv.fB (ts:=[e']) hG h' (by simp)).at h (by simpa using ht)
structure wg (W w:World) (b2 b3:Nat) (x:gX) (X2 X5:Option Addr) (d2 d5:Nat) (v2 v5:Value) (q:List (List Int)) (e:List jE):Prop where
 bel:Below W.heap.size W w
 p1:w.heap[W.heap.size]? = some (.cells #[.int .u64 x.f0, .int .u64 x.f1, .slice X2 x.f2.length d2, .int .u64 x.f3, .int .u64 x.f4, .slice X5 x.f5.length d5] 68 (0,0))
 p2:w.heap[b2]? = some (.cells #[.int .u64 0, .int .u64 0, .slice none 0 0, .int .u64 0, .int .u64 0, .slice none 0 0] 68 (0,0))
 p3:w.heap[b3]? = some (.cells #[.int .u64 x.f0, .int .u64 x.f1,v2, .int .u64 x.f3, .int .u64 x.f4,v5] 68 (0,0))
 r2:Kd.R (Kd.slice 5 (Kd.int .u8)) 32 w W.heap.size (fun _=>True) v2 q
 r5:Kd.R jC 99 w W.heap.size (fun _=>True) v5 e
section
variable {W w w':World} {b2 b3:Nat} {x:gX} {X2 X5:Option Addr} {d2 d5:Nat} {v2 v5 v:Value} {q q':List (List Int)} {e e':List jE}
theorem wg.grow (h:wg W w b2 b3 x X2 X5 d2 d5 v2 v5 q e) (hb:Below w.heap.size w w'):wg W w' b2 b3 x X2 X5 d2 d5 v2 v5 q e:=
 ⟨h.bel.trans (hb.mono h.bel.size),(hb.block _ (ak h.p1)).trans h.p1,(hb.block _ (ak h.p2)).trans h.p2,(hb.block _ (ak h.p3)).trans h.p3,Kd.bR h.r2 hb,Kd.bR h.r5 hb⟩
theorem wg.put {cs:Array Value} {v2' v5':Value} (bel:Below W.heap.size W w) (p1:w.heap[W.heap.size]? = some (.cells #[.int .u64 x.f0, .int .u64 x.f1, .slice X2 x.f2.length d2, .int .u64 x.f3, .int .u64 x.f4, .slice X5 x.f5.length d5] 68 (0,0))) (p2:w.heap[b2]? = some (.cells #[.int .u64 0, .int .u64 0, .slice none 0 0, .int .u64 0, .int .u64 0, .slice none 0 0] 68 (0,0))) (p3:w.heap[b3]? = some (.cells cs 68 (0,0))) (r2:Kd.R (Kd.slice 5 (Kd.int .u8)) 32 w W.heap.size (fun _=>True) v2' q') (r5:Kd.R jC 99 w W.heap.size (fun _=>True) v5' e') (hG:w.grownBy w' (some b3)) (hW:w'.heap[b3]? = some (.cells #[.int .u64 x.f0, .int .u64 x.f1,v2', .int .u64 x.f3, .int .u64 x.f4,v5'] 68 (0,0)))
 (n1:b3≠W.heap.size) (n2:b3≠b2) (h3:W.heap.size≤b3):wg W w' b2 b3 x X2 X5 d2 d5 v2' v5' q' e':=
 ⟨bt bel hG h3,(hG.block _ (ak p1) (fun k=>n1 (ar k).symm)).trans p1,(hG.block _ (ak p2) (fun k=>n2 (ar k).symm)).trans p2,hW,j9 r2 hG p3 (by decide),j9 r5 hG p3 (by decide)⟩
end
theorem wy (x:gX) (X2 X5:Option Addr) (d2 d5:Nat) (W:World) (h2:Kd.C (Kd.slice 5 (Kd.int .u8)) W X2 x.f2.length x.f2) (h5:Kd.C jC W X5 x.f5.length x.f5) (hx:xA x) :
 Calls Tryz.prog 22 #[.agg (ew x X2 X5 d2 d5)] W fun e w'=>∃v2 v5,e = .returned (.agg #[.int .u64 x.f0, .int .u64 x.f1,v2, .int .u64 x.f3, .int .u64 x.f4,v5])∧Kd.R (Kd.slice 5 (Kd.int .u8)) 32 w' W.heap.size (fun _=>True) v2 x.f2∧Kd.R jC 99 w' W.heap.size (fun _=>True) v5 x.f5∧Below W.heap.size W w':=by
 have hu68:=Tryz.underlying68;have hu99:=Tryz.underlying99;have H2:=aa h2;have H5:=aa h5;have HX:=aa hx;have hL2:=hx.l2;have hL5:=hx.l5;have X0:=((ah (Below.refl _ (W.alloc (.cells #[.int .u64 x.f0, .int .u64 x.f1, .slice X2 x.f2.length d2, .int .u64 x.f3, .int .u64 x.f4, .slice X5 x.f5.length d5] 68))) (.cells #[.int .u64 0, .int .u64 0, .slice none 0 0, .int .u64 0, .int .u64 0, .slice none 0 0] 68)).block W.heap.size (ak (aJ W (.cells #[.int .u64 x.f0, .int .u64 x.f1, .slice X2 x.f2.length d2, .int .u64 x.f3, .int .u64 x.f4, .slice X5 x.f5.length d5] 68)))).trans (aJ W (.cells #[.int .u64 x.f0, .int .u64 x.f1, .slice X2 x.f2.length d2, .int .u64 x.f3, .int .u64 x.f4, .slice X5 x.f5.length d5] 68));have Y0:=aJ (W.alloc (.cells #[.int .u64 x.f0, .int .u64 x.f1, .slice X2 x.f2.length d2, .int .u64 x.f3, .int .u64 x.f4, .slice X5 x.f5.length d5] 68)) (.cells #[.int .u64 0, .int .u64 0, .slice none 0 0, .int .u64 0, .int .u64 0, .slice none 0 0] 68);rw [show (W.alloc (.cells #[.int .u64 x.f0, .int .u64 x.f1, .slice X2 x.f2.length d2, .int .u64 x.f3, .int .u64 x.f4, .slice X5 x.f5.length d5] 68)).heap.size=W.heap.size+1 by simp] at Y0;have I0:=aa (And.intro (ah (ah (Below.refl _ W) (.cells #[.int .u64 x.f0, .int .u64 x.f1, .slice X2 x.f2.length d2, .int .u64 x.f3, .int .u64 x.f4, .slice X5 x.f5.length d5] 68)) (.cells #[.int .u64 0, .int .u64 0, .slice none 0 0, .int .u64 0, .int .u64 0, .slice none 0 0] 68)) (And.intro X0 Y0));clear h2 h5 hx X0 Y0;unfold ew;go_in;go_upto_region 1 with (fail);generalize World.alloc (World.alloc W _) _=w0 at I0 ⊢;have B2:=aa (show W.heap.size+1<w0.heap.size from ak I0.1.2.2);generalize hb2:W.heap.size+1=b2 at I0 B2 ⊢;have HB2:=aa hb2;have G2:=aa (show W.heap.size≤b2 by omega);clear hb2;have x0:w0.cell? ⟨W.heap.size,0,none⟩=some (.int .u64 x.f0):=cell_of I0.1.2.1 0;have x1:w0.cell? ⟨W.heap.size,1,none⟩=some (.int .u64 x.f1):=cell_of I0.1.2.1 1;have x3:w0.cell? ⟨W.heap.size,3,none⟩=some (.int .u64 x.f3):=cell_of I0.1.2.1 3;have x4:w0.cell? ⟨W.heap.size,4,none⟩=some (.int .u64 x.f4):=cell_of I0.1.2.1 4;go_wp2_with ((with_reducible refine gS 3 14 rfl ?_);refine sB #[.int .u64 x.f0, .int .u64 x.f1, .slice none 0 0, .int .u64 x.f3, .int .u64 x.f4, .slice none 0 0] (aJ w0 _) ?_;intro wz PN hG;have WP:=aa (bt (ah (Below.refl _ w0) _) hG.1 (Nat.le_refl _));generalize wz=w3 at PN WP ⊢);clear x0 x1 x3 x4;have N1:=aa (show w0.heap.size≠W.heap.size by have:=B2.1;have:=HB2.1;omega);have N2:=aa (show w0.heap.size≠b2 by have:=B2.1;omega);have G3:=aa (show W.heap.size≤w0.heap.size from I0.1.1.size);have I1:=aa (wg.mk (I0.1.1.trans (WP.1.mono I0.1.1.size)) ((WP.1.block _ (ak I0.1.2.1)).trans I0.1.2.1) ((WP.1.block _ (ak I0.1.2.2)).trans I0.1.2.2) PN.1 (Kd.cY _ _ _ _ (fun _=>True)) (Kd.cY _ _ _ _ (fun _=>True)));clear I0 B2 HB2 PN WP;generalize w0.heap.size=b3 at N1 N2 G3 I1 ⊢;go_loopw [4] (fun v4 wr=>∃(i:Nat) (v2:Value),i≤x.f2.length∧v4 = .int .i64 i∧af (wg W wr b2 b3 x X2 X5 d2 d5 v2 (.slice none 0 0) (x.f2.take i) [])) (fun v _=>x.f2.length - (intOf v).toNat)
 case atStart=>exact ⟨0,_,aI _,rfl,I1⟩
 case round=>
  obtain ⟨i,v2,hi,rfl,I2⟩:=hrel;clear I1;have y2:wr.cell? ⟨W.heap.size,2,none⟩=some (.slice X2 x.f2.length d2):=cell_of I2.1.p1 2;by_cases hlt:i<x.f2.length
  ·obtain ⟨ad,c9,e1,_,hK,hc0⟩:=Kd.fw H2.1 [] (i:Int) (by omega) (by omega);obtain ⟨Y1,q1,rfl,hq1,hC1⟩:=hK;have hy0:=hc0 0 _ rfl;subst e1;simp only [Int.toNat_natCast,show (Kd.slice 5 (Kd.int .u8)).sz=1 from rfl,Nat.mul_one,Nat.add_zero,List.getD_eq_getElem?_getD,List.getElem?_eq_getElem hlt,Option.getD_some] at hy0 hq1 hC1;have hlen:=HX.1.b2 _ (List.getElem_mem hlt);have TK:=aa (show x.f2.take (i+1)=x.f2.take i++[x.f2[i]] by rw [List.take_add_one,List.getElem?_eq_getElem hlt];rfl);generalize x.f2[i]=y at hy0 hq1 hC1 hlen TK;have LT:=aa (show (x.f2.take i).length≤100000000 by rw [List.length_take];omega);generalize x.f2.take i=qs at I2 TK LT;obtain ⟨Bq,cq,hv⟩:=Kd.aG I2.1.r2;subst hv;have TC:=aa (fun (w:World) (h:Below W.heap.size W w)=>cj.calls 100000002 Y1 q1 y y w (Kd.aN hC1 h) hq1 (qE y hlen _ (by omega)));have HY:=aa (fun (w:World) (h:Below W.heap.size W w)=>an h hy0);have I3:=aa (I2.1.grow (dy (Below.refl wr.heap.size wr)));clear hy0 hC1 hc0 hlen hq1;go_wp2_with fail;refine bl (fun W'=>W'.heap[W.heap.size]? = some (.cells #[.int .u64 x.f0, .int .u64 x.f1, .slice (some ad) x.f2.length d2, .int .u64 x.f3, .int .u64 x.f4, .slice X5 x.f5.length d5] 68 (0,0))∧W'.heap[b3]? = some (.cells #[.int .u64 x.f0, .int .u64 x.f1,(.slice Bq qs.length cq), .int .u64 x.f3, .int .u64 x.f4,(.slice none 0 0)] 68 (0,0))) 9 [(0,0),(1,1),(2,0),(4,0),(3,2),(5,0),(6,2),(7,2),(8,2)] (by kernel_rfl) (by kernel_rfl) (fun _ _ _ _ _ h=>h) ⟨I2.1.p1,I2.1.p3⟩ ?_;clear I2 y2;generalize wr.drew=w2 at I3 ⊢;iterate 1 (refine eF ?_;simp only [cS,Act.put])
   (refine aQ (v:=?_) rfl rfl ?_ ?_;rotate_left 1;(focus (intro W' hSw;have k0:W'.cell? ⟨b3,2,none⟩=some (.slice Bq qs.length cq):=cell_of hSw.2 2;clear hSw;go_simp;try (with_reducible rfl)));simp only [cS,Act.put]);iterate 2 (refine eF ?_;simp only [cS,Act.put])
   refine aT rfl ?_;have y2:w2.cell? ⟨W.heap.size,2,none⟩=some (.slice (some ad) x.f2.length d2):=cell_of I3.1.p1 2;go_wp2_with fail;refine bB.mk ⟨I3.1.p1,I3.1.p3⟩ (fun hSw=>?_);clear hSw y2;iterate 1 (refine eF ?_;simp only [cS,Act.put])
   refine aT rfl ?_;have y3:=HY.1 w2 I3.1.bel;go_wp2_with fail;refine bB.mk ⟨I3.1.p1,I3.1.p3⟩ (fun hSw=>?_);clear hSw y3;refine aT rfl ?_;go_wp2_with fail;refine (TC.1 w2 I3.1.bel).mono ?_;rintro e w3 ⟨vy,rfl,hRy,hB⟩;obtain ⟨Ay,cy,rfl⟩:=Kd.aG hRy;have I4:=aa (I3.1.grow hB);have MY:=aa (show (Kd.slice 5 (Kd.int .u8)).M w3 W.heap.size (fun k=>w2.heap.size≤k) y [.slice Ay y.length cy] from ⟨_,rfl,Kd.cI (Kd.bZ (Kd.bS hRy) (fun k hk=>hk.2.1)) I3.1.bel.size⟩);have OY:=aa (show ∀k,w2.heap.size≤k→True∧some k≠(Value.slice Bq qs.length cq).ownBlock from fun k hk=>⟨trivial,fun e=>by have:=((Kd.bS I3.1.r2).1 k e.symm).2.2.1;omega⟩);clear hRy hB TC HY I3;go_wp2_with fail;refine bB.mk ⟨I4.1.p1,I4.1.p3⟩ (fun hSw=>?_);clear hSw;refine aT rfl ?_;go_wp2_with fail;refine bB.mk ⟨((ah (Below.refl w3.heap.size w3) _).block _ (ak I4.1.p1)).trans I4.1.p1,((ah (Below.refl w3.heap.size w3) _).block _ (ak I4.1.p3)).trans I4.1.p3⟩ (fun hSw=>?_);clear hSw;refine bC ?_;simp only [aC,List.drop_zero];go_wp2_with (first
    | ((with_reducible refine aM (b:= .append) (xs:=#[.tmp 23, .tmp 30]) rfl ?_);refine Kd.cG (Kd.slice 5 (Kd.int .u8)) (w0:=W) W.heap.size rfl (.tmp 23) (.tmp 30) 46 32 (.slice none 0 0) 24 rfl Tryz.underlying46 sd rfl (by decide) (by omega) (.slice Bq qs.length cq) qs y [.slice Ay y.length cy] (fun _=>True) (fun k=>w2.heap.size≤k) rfl rfl MY.1 OY.1 (fun _ _=>trivial) I4.1.r2 I4.1.bel I4.1.bel.size (by have:=LT.1;omega) ?_;intro vz w6 hR hB hG _;obtain ⟨Az,cz,hv⟩:=Kd.aG hR;rw [List.length_append,List.length_singleton] at hv;subst hv;have I6:=aa (And.intro hB (And.intro (iP I4.1.p1 I4.1.r2 hG (by decide)) (And.intro (iP I4.1.p2 I4.1.r2 hG (by decide)) (iP I4.1.p3 I4.1.r2 hG (by decide)))));have R6:=aa hR;clear hR hB hG)
    | ((with_reducible refine gS 32 31 rfl ?_);refine sC 2 (.slice Az (qs.length+1) cz) #[.int .u64 x.f0, .int .u64 x.f1, .slice Az (qs.length+1) cz, .int .u64 x.f3, .int .u64 x.f4, .slice none 0 0] I6.1.2.2.2 ?_;intro wz hW hG;have I7:=aa (wg.put (e':=[]) I6.1.1 I6.1.2.1 I6.1.2.2.1 I6.1.2.2.2 (TK.1▸R6.1) (Kd.cY _ _ _ _ (fun _=>True)) hG.1 hW.1 N1.1 N2.1 G3.1)))
   go_roundw
   case rel=>exact ⟨i+1,_,by omega,by go_num,I7⟩
   case measure=>
    show x.f2.length - ((i:Int)+1).toNat<x.f2.length - (i:Int).toNat;omega
  go_wp2_with fail;clear y2;have I1:=aa (show wg W wr b2 b3 x X2 X5 d2 d5 v2 (.slice none 0 0) x.f2 (x.f5.take 0) from by have h:=I2.1;rw [List.take_of_length_le (by omega)] at h;exact h);clear I2 hlt hi;go_loopw [5] (fun v5 wr=>∃(i:Nat) (v5':Value),i≤x.f5.length∧v5 = .int .i64 i∧af (wg W wr b2 b3 x X2 X5 d2 d5 v2 v5' x.f2 (x.f5.take i))) (fun v _=>x.f5.length - (intOf v).toNat)
  case atStart=>exact ⟨0,_,aI _,rfl,I1⟩
  case round=>
   obtain ⟨i,v5',hi,rfl,I2⟩:=hrel;clear I1;have y5:wr.cell? ⟨W.heap.size,5,none⟩=some (.slice X5 x.f5.length d5):=cell_of I2.1.p1 5;by_cases hlt:i<x.f5.length
   case neg=>
    rw [show x.f5.take i=x.f5 from List.take_of_length_le (by omega)] at I2;obtain ⟨Bp,cp,hv2⟩:=Kd.aG I2.1.r2;obtain ⟨Be,ce,hv5⟩:=Kd.aG I2.1.r5;subst hv2;subst hv5;go_upto_region 10 with (fail);go_wp2_with (first|((with_reducible refine az (N:=59) rfl ?_);refine lB I2.1.p3 Tryz.underlying68 ?_)|((with_reducible refine gS 2 59 rfl ?_);refine sB #[.int .u64 x.f0, .int .u64 x.f1, .slice Bp x.f2.length cp, .int .u64 x.f3, .int .u64 x.f4, .slice Be x.f5.length ce] I2.1.p2 ?_;intro wz ZW ZG;have ZB:=aa (bt I2.1.bel ZG.1 G2.1)));refine zM ZW.1 hu68 ?_;exact ⟨_,_,rfl,j9 I2.1.r2 ZG.1 I2.1.p2 (by decide),j9 I2.1.r5 ZG.1 I2.1.p2 (by decide),ZB.1⟩
   obtain ⟨ad,c9,e1,_,hK,hc0⟩:=Kd.fw H5.1 sI (i:Int) (by omega) (by omega);obtain ⟨Y1,q1,rfl,hq1,hC1⟩:=gn hK;have hz0:=hc0 0 _ rfl;have hz1:=hc0 1 _ rfl;subst e1;simp only [Int.toNat_natCast,show jC.sz=2 from rfl,Nat.add_zero,List.getD_eq_getElem?_getD,List.getElem?_eq_getElem hlt,Option.getD_some] at hz0 hz1 hq1 hC1;rw [dw _ _ 1 (by omega)] at hz1;have hlen:=HX.1.b5 _ (List.getElem_mem hlt);have TK:=aa (show x.f5.take (i+1)=x.f5.take i++[x.f5[i]] by rw [List.take_add_one,List.getElem?_eq_getElem hlt];rfl);generalize x.f5[i]=y at hz0 hz1 hq1 hC1 hlen TK;have LT:=aa (show (x.f5.take i).length≤100000000 by rw [List.length_take];omega);generalize x.f5.take i=es at I2 TK LT;obtain ⟨Be,ce,hv⟩:=Kd.aG I2.1.r5;subst hv;have TC:=aa (fun (w:World) (h:Below W.heap.size W w)=>cj.calls 100000002 Y1 q1 y.f1 y.f1 w (Kd.aN hC1 h) hq1 (qE y.f1 hlen _ (by omega)));have HY:=aa (fun (w:World) (h:Below W.heap.size W w)=>And.intro (an h hz0) (an h hz1));have I3:=aa (I2.1.grow (dy (Below.refl wr.heap.size wr)));clear hz0 hz1 hC1 hc0 hlen hq1;go_wp2_with fail;refine bl (fun W'=>W'.heap[W.heap.size]? = some (.cells #[.int .u64 x.f0, .int .u64 x.f1, .slice X2 x.f2.length d2, .int .u64 x.f3, .int .u64 x.f4, .slice (some ad) x.f5.length d5] 68 (0,0))∧W'.heap[b3]? = some (.cells #[.int .u64 x.f0, .int .u64 x.f1,v2, .int .u64 x.f3, .int .u64 x.f4,(.slice Be es.length ce)] 68 (0,0))∧Below W.heap.size W W') 18 [(0,0),(1,1),(2,0),(3,1),(4,0),(5,0),(6,0),(7,1),(8,0),(9,1),(10,0),(11,0),(12,0),(13,1),(14,2),(15,0),(16,2),(17,2)] (by kernel_rfl) (by kernel_rfl) (fun _ _ _ _ _ h=>h) ⟨I2.1.p1,I2.1.p3,I3.1.bel⟩ ?_;clear I2 y5;generalize wr.drew=w2 at I3 ⊢;iterate 1 (refine eF ?_;simp only [cS,Act.put])
   (refine aQ (v:=?_) rfl rfl ?_ ?_;rotate_left 1;(focus (intro W' hSw;have hy:=HY.1 W' hSw.2.2;have k1:=hy.1;have k2:=hy.2;clear hy;have k3:W'.cell? ⟨b3,5,none⟩=some (.slice Be es.length ce):=cell_of hSw.2.1 5;have k4:W'.cell? ⟨W.heap.size,5,none⟩=some (.slice (some ad) x.f5.length d5):=cell_of hSw.1 5;clear hSw;go_simp;try (with_reducible rfl)));simp only [cS,Act.put]);iterate 1 (refine eF ?_;simp only [cS,Act.put])
   (refine aQ (v:=?_) rfl rfl ?_ ?_;rotate_left 1;(focus (intro W' hSw;have hy:=HY.1 W' hSw.2.2;have k1:=hy.1;have k2:=hy.2;clear hy;have k3:W'.cell? ⟨b3,5,none⟩=some (.slice Be es.length ce):=cell_of hSw.2.1 5;have k4:W'.cell? ⟨W.heap.size,5,none⟩=some (.slice (some ad) x.f5.length d5):=cell_of hSw.1 5;clear hSw;go_simp;try (with_reducible rfl)));simp only [cS,Act.put]);iterate 3 (refine eF ?_;simp only [cS,Act.put])
   (refine aQ (v:=?_) rfl rfl ?_ ?_;rotate_left 1;(focus (intro W' hSw;have hy:=HY.1 W' hSw.2.2;have k1:=hy.1;have k2:=hy.2;clear hy;have k3:W'.cell? ⟨b3,5,none⟩=some (.slice Be es.length ce):=cell_of hSw.2.1 5;have k4:W'.cell? ⟨W.heap.size,5,none⟩=some (.slice (some ad) x.f5.length d5):=cell_of hSw.1 5;clear hSw;go_simp;try (with_reducible rfl)));simp only [cS,Act.put]);iterate 1 (refine eF ?_;simp only [cS,Act.put])
   (refine aQ (v:=?_) rfl rfl ?_ ?_;rotate_left 1;(focus (intro W' hSw;have hy:=HY.1 W' hSw.2.2;have k1:=hy.1;have k2:=hy.2;clear hy;have k3:W'.cell? ⟨b3,5,none⟩=some (.slice Be es.length ce):=cell_of hSw.2.1 5;have k4:W'.cell? ⟨W.heap.size,5,none⟩=some (.slice (some ad) x.f5.length d5):=cell_of hSw.1 5;clear hSw;go_simp;try (with_reducible rfl)));simp only [cS,Act.put]);iterate 3 (refine eF ?_;simp only [cS,Act.put])
   (refine aQ (v:=?_) rfl rfl ?_ ?_;rotate_left 1;(focus (intro W' hSw;have hy:=HY.1 W' hSw.2.2;have k1:=hy.1;have k2:=hy.2;clear hy;have k3:W'.cell? ⟨b3,5,none⟩=some (.slice Be es.length ce):=cell_of hSw.2.1 5;have k4:W'.cell? ⟨W.heap.size,5,none⟩=some (.slice (some ad) x.f5.length d5):=cell_of hSw.1 5;clear hSw;go_simp;try (with_reducible rfl)));simp only [cS,Act.put]);refine aT rfl ?_;go_wp2_with fail;refine (TC.1 w2 I3.1.bel).mono ?_;rintro e w3 ⟨vy,rfl,hRy,hB⟩;obtain ⟨Ay,cy,rfl⟩:=Kd.aG hRy;have I4:=aa (I3.1.grow hB);have MY:=aa (show jC.M w3 W.heap.size (fun k=>w2.heap.size≤k) y [.int .u64 y.f0, .slice Ay y.f1.length cy] from oW _ _ _ _ (Kd.cI (Kd.bZ (Kd.bS hRy) (fun k hk=>hk.2.1)) I3.1.bel.size));have OY:=aa (show ∀k,w2.heap.size≤k→True∧some k≠(Value.slice Be es.length ce).ownBlock from fun k hk=>⟨trivial,fun e=>by have:=((Kd.bS I3.1.r5).1 k e.symm).2.2.1;omega⟩);clear hRy hB TC HY I3;go_wp2_with fail;refine bB.mk ⟨I4.1.p1,I4.1.p3,I4.1.bel⟩ (fun hSw=>?_);clear hSw;iterate 1 (refine eF ?_;simp only [cS,Act.put])
   refine aT rfl ?_;go_wp2_with fail;refine bB.mk ⟨((ah (Below.refl w3.heap.size w3) _).block _ (ak I4.1.p1)).trans I4.1.p1,((ah (Below.refl w3.heap.size w3) _).block _ (ak I4.1.p3)).trans I4.1.p3,ah I4.1.bel _⟩ (fun hSw=>?_);clear hSw;refine aT rfl ?_;go_wp2_with ((with_reducible refine aM (b:= .append) (xs:=#[.tmp 41, .tmp 56]) rfl ?_);refine Kd.cG jC (w0:=W) W.heap.size rfl (.tmp 41) (.tmp 56) 66 99 (.agg #[.int .u64 0, .slice none 0 0]) 32 rfl Tryz.underlying66 sa rfl (by decide) (by omega) (.slice Be es.length ce) es y [.int .u64 y.f0, .slice Ay y.f1.length cy] (fun _=>True) (fun k=>w2.heap.size≤k) rfl rfl MY.1 OY.1 (fun _ _=>trivial) I4.1.r5 I4.1.bel I4.1.bel.size (by have:=LT.1;omega) ?_;intro vz w6 hR hB hG _;obtain ⟨Az,cz,hv⟩:=Kd.aG hR;rw [List.length_append,List.length_singleton] at hv;subst hv;have I6:=aa (And.intro hB (And.intro (iP I4.1.p1 I4.1.r5 hG (by decide)) (And.intro (iP I4.1.p2 I4.1.r5 hG (by decide)) (iP I4.1.p3 I4.1.r5 hG (by decide)))));have R6:=aa hR;have Q6:=aa (px I4.1.r2 I4.1.r5 hG (by decide));clear hR hB hG);refine bB.mk ⟨I6.1.2.1,I6.1.2.2.2,I6.1.1⟩ (fun hSw=>?_);clear hSw;refine bC ?_;simp only [aC,List.drop_zero];go_wp2_with ((with_reducible refine gS 58 57 rfl ?_);refine sC 5 (.slice Az (es.length+1) cz) #[.int .u64 x.f0, .int .u64 x.f1,v2, .int .u64 x.f3, .int .u64 x.f4, .slice Az (es.length+1) cz] I6.1.2.2.2 ?_;intro wz hW hG;have I7:=aa (wg.put I6.1.1 I6.1.2.1 I6.1.2.2.1 I6.1.2.2.2 Q6.1 (TK.1▸R6.1) hG.1 hW.1 N1.1 N2.1 G3.1));go_roundw
   case rel=>exact ⟨i+1,_,by omega,by go_num,I7⟩
   case measure=>
    show x.f5.length - ((i:Int)+1).toNat<x.f5.length - (i:Int).toNat;omega
end Go.Proofs.YtpekmdpbfjdjkaaGreat.ref